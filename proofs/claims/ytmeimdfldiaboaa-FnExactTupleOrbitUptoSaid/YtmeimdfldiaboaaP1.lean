/- Our texts YfA YfC YfD YfE YfB YfF YfG YfH YfI YfJ YfK YfL YfM YfN YfO YfP YfQ YfR YfS YfT YhI YgA YfX YfY YfV YfZ YfW YgB YgC YgF YgE YgG YgH YgI YgY YjC YjI YjJ YjK YjL YjM YjN YjO, end to end. -/
import Derived.Test.YtmeimdfldiaboaaYeA
import Derived.Test.YtmeimdfldiaboaaYeB
import Derived.Test.YtmeimdfldiaboaaYeC
import Derived.Test.YtmeimdfldiaboaaM3
import Derived.ProofKit
import Derived.OpenShut
import Derived.JoinedCond
import Derived.WideKeyArgs
import Derived.Test.YtmeimdfldiaboaaM1
import Derived.Test.YtmeimdfldiaboaaYeE
/- Lists of numbers and of lists as trees; what the laws read and make. -/
namespace Go.Mch

abbrev nil : T := .sc (.slice none 0 0)

/-- What a slice of the caller's is: nil, an empty one without cells, or one with cells. -/
inductive Rw (α : Type) where
  | no
  | odd (a : Addr)
  | of (l : List α)

def lst {α : Type} : Rw α → List α
  | .of l => l
  | _ => []
def lso {α : Type} (o : Option (List α)) : List α := o.getD []
def Rw.ofO {α : Type} : Option (List α) → Rw α
  | none => .no
  | some l => .of l

/-- A slice of the caller's. -/
def rawI : Rw Int → T
  | .no => nil
  | .odd a => .sc (.slice (some a) 0 0)
  | .of xs => .mem .old (some 1) (xs.map I)

@[simp] theorem lst_of {α : Type} (l : List α) : lst (.of l) = l := rfl
@[simp] theorem lst_no {α : Type} : lst (.no : Rw α) = [] := rfl
@[simp] theorem lst_odd {α : Type} (a : Addr) : lst (.odd a : Rw α) = [] := rfl
@[simp] theorem lso_some {α : Type} (l : List α) : lso (some l) = l := rfl
@[simp] theorem lso_none {α : Type} : lso (none : Option (List α)) = [] := rfl
@[simp] theorem lst_ofO {α : Type} (o : Option (List α)) : lst (Rw.ofO o) = lso o := by cases o <;> rfl

@[simp] theorem noOwnL_mapI (xs : List Int) : T.noOwnL (xs.map I) = true := by
  induction xs with
  | nil => rfl
  | cons x xs ih => simp [ih]
@[simp] theorem eryL_mapI (k : K) (xs : List Int) : T.eryL k (xs.map I) = xs.map I := by
  induction xs with
  | nil => rfl
  | cons x xs ih => simp [ih]
@[simp] theorem noOldL_mapI (xs : List Int) : T.noOldL (xs.map I) = true := by
  induction xs with
  | nil => rfl
  | cons x xs ih => simp [ih]
@[simp] theorem lendL_mapI (xs : List Int) : T.lendL (xs.map I) = xs.map I := by
  induction xs with
  | nil => rfl
  | cons x xs ih => simp [ih]
@[simp] theorem rawI_noOwn (a : Rw Int) : (rawI a).noOwn = true := by cases a <;> simp [rawI]
@[simp] theorem rawI_peek (a : Rw Int) (n : Nat) (p : List Nat) : (rawI a).peek n p = .val (rawI a) := by cases a <;> rfl
@[simp] theorem rawI_ery (a : Rw Int) : (rawI a).ery .old = rawI a := by cases a <;> simp [rawI]
@[simp] theorem rawI_len (a : Rw Int) : lenV (.val (rawI a)) = some (lst a).length := by cases a <;> simp [rawI]
@[simp] theorem rawI_idx (a : Rw Int) (i : Int) : idxV 1 (.val (rawI a)) i = if 0 ≤ i ∧ i < ((lst a).length : Int) then some (.val (.mem .old none (win ((lst a).map I) (i.toNat * 1) 1))) else none := by
  cases a with
  | no =>
    simp only [rawI, idxV, lst_no, List.length_nil, List.map_nil]
    rw [if_neg]
    omega
  | odd ad =>
    simp only [rawI, idxV, lst_odd, List.length_nil, List.map_nil]
    rw [if_neg]
    omega
  | of xs => simp [rawI]
/-- A slice of slices of the caller's. -/
def rawT : Rw (Rw Int) → T
  | .no => nil
  | .odd a => .sc (.slice (some a) 0 0)
  | .of rs => .mem .old (some 1) (rs.map rawI)
@[simp] theorem noOwnL_mapR (rs : List (Rw Int)) : T.noOwnL (rs.map rawI) = true := by
  induction rs with
  | nil => rfl
  | cons x xs ih => simp [ih]
@[simp] theorem eryL_mapR (rs : List (Rw Int)) : T.eryL .old (rs.map rawI) = rs.map rawI := by
  induction rs with
  | nil => rfl
  | cons x xs ih => simp [ih]
@[simp] theorem rawT_noOwn (a : Rw (Rw Int)) : (rawT a).noOwn = true := by cases a <;> simp [rawT]
@[simp] theorem rawT_peek (a : Rw (Rw Int)) (n : Nat) (p : List Nat) : (rawT a).peek n p = .val (rawT a) := by cases a <;> rfl
@[simp] theorem rawT_ery (a : Rw (Rw Int)) : (rawT a).ery .old = rawT a := by cases a <;> simp [rawT]
@[simp] theorem rawT_len (a : Rw (Rw Int)) : lenV (.val (rawT a)) = some (lst a).length := by cases a <;> simp [rawT]
@[simp] theorem rawT_idx (a : Rw (Rw Int)) (i : Int) : idxV 1 (.val (rawT a)) i = if 0 ≤ i ∧ i < ((lst a).length : Int) then some (.val (.mem .old none (win ((lst a).map rawI) (i.toNat * 1) 1))) else none := by
  cases a with
  | no =>
    simp only [rawT, idxV, lst_no, List.length_nil, List.map_nil]
    rw [if_neg]
    omega
  | odd ad =>
    simp only [rawT, idxV, lst_odd, List.length_nil, List.map_nil]
    rw [if_neg]
    omega
  | of xs => simp [rawT]
@[simp] theorem rawT_cells (a : Rw (Rw Int)) : (rawT a).cells = [rawT a] := by cases a <;> rfl
@[simp] theorem rawT_isCell (a : Rw (Rw Int)) : (rawT a).isCell = true := by cases a <;> rfl
@[simp] theorem rawI_isCell (a : Rw Int) : (rawI a).isCell = true := by cases a <;> rfl

/-- A call all of whose arguments are read only. -/
theorem callR {G : Rl} {d : Option Nat} {k : Env → Prop} {e : Env} {args : List (Opd × Mode)} {id : Nat} {caps ts : List T} {r : T} (hc : G id (ts ++ T.eryL .old caps) (ts ++ T.eryL .old caps) r) (hall : args.all (fun x => x.2 == .r) = true) (hlen : args.length = ts.length)
    (hold : e.lends args = true → r.noOld = true) (hk : k (e.setD d (.val r))) : callP G d k e args id caps ts := by
  refine ⟨ts, r, hc, rfl, fun h => ⟨hold h, hall⟩, ?_⟩
  have : ∀ (xs : List (Opd × Mode)) (us : List T), xs.all (fun x => x.2 == .r) = true → xs.length = us.length → e.back xs us = some e := by
    intro xs
    induction xs with
    | nil => intro us _ h; cases us with | nil => rfl | cons => simp at h
    | cons x xs ih =>
      intro us h h2
      obtain ⟨x, md⟩ := x
      simp only [List.all_cons, Bool.and_eq_true, beq_iff_eq] at h
      obtain ⟨rfl, h⟩ := h
      cases us with
      | nil => simp at h2
      | cons u us => simp only [Env.back]; exact ih us (by simpa using h) (by simpa using h2)
  rw [this args ts hall hlen]
  exact ⟨e, rfl, hk⟩

theorem set_fill {α : Type} {xs : List α} {z : α} {k : Nat} (hk : k < xs.length) :
    (List.take k xs ++ List.replicate (xs.length - k) z).set k xs[k] = List.take (k + 1) xs ++ List.replicate (xs.length - (k + 1)) z := by
  rw [List.set_append_right _ _ (by simp; omega)]
  have h1 : (List.take k xs).length = k := by simp; omega
  rw [h1, Nat.sub_self, show xs.length - k = (xs.length - (k + 1)) + 1 from by omega, List.replicate_succ, List.set_cons_zero]
  rw [List.take_succ_eq_append_getElem hk, List.append_assoc]
  rfl

theorem take_len {α : Type} (l : List α) {n : Nat} (h : l.length ≤ n) : l.take n = l := List.take_of_length_le h
@[simp] theorem take_map_len {α β : Type} (l : List α) (f : α → β) : List.take l.length (l.map f) = l.map f := List.take_of_length_le (by simp)

theorem callM {G : Rl} {d : Option Nat} {k : Env → Prop} {e : Env} {gs : List Bool} {ks : List Nat} {id : Nat} {caps : List T} {vs : List V} {y : List T × Env} {ts' : List T} {r : T} (hh : y.2.holes vs gs = true) (hc : G id (T.lendL y.1 ++ T.eryL .old caps) (ts' ++ T.eryL .old caps) r)
    (hl : ts'.length = y.1.length) (hk : bindP (y.2.gives vs gs ts') fun e2 => bindP (e.revive y.2 e2 vs gs ks) fun e3 => k (e3.setD d (.val r))) : callmP G d k e gs ks id caps vs y := ⟨hh, ts', r, hc, hl, hk⟩

/-! ### Copies -/

def S_toI (pg : Pg) : Prop := ∀ a : Rw Int, (lst a).length ≤ 1048576 → Call pg 7 [rawI a] [rawI a] (ints .own (lst a))
theorem t_toI {pg : Pg} (hp : pg.fn 7 = some c_laws_toInt64S) : S_toI pg := by
  intro a hl
  refine Call.intro hp rfl (by simp) ?_
  show wp _ _ c_laws_toInt64S.body (post [.t 2] _ _ _) _
  simp [c_laws_toInt64S, ints]
  refine ⟨by unfold roomy; omega, ?_⟩
  refine wpLoop_count (fun k e => e = fr [(0, some (.val (rawI a))), (3, some (.val (.mem .own (some 1) ((lst a).map I |>.take k |>.append (List.replicate ((lst a).length - k) (I 0)))))), (4, some (.val (I k)))]) (lst a).length ?_ ?_ 0 _ (by omega) ?_
  · rintro k e hk rfl
    simp [hk]
    refine ⟨by omega, by omega, by omega, ?_⟩
    have := set_fill (xs := (lst a).map I) (z := I 0) (k := k) (by simpa using hk)
    simp at this
    rw [this]
  · rintro e rfl
    simp [take_len]
  · simp

theorem S_toI.at {pg : Pg} (h : S_toI pg) (a : Rw Int) (hl : (lst a).length ≤ 1048576) : Call pg 7 [rawI a] [rawI a] (.mem .own (some 1) ((lst a).map I)) := h a hl

/-- A table of the frame's own. -/
def rows (xss : List (List Int)) : List T := xss.map fun xs => .mem .own (some 1) (xs.map I)
@[simp] theorem rows_length (xss : List (List Int)) : (rows xss).length = xss.length := by simp [rows]

@[simp] theorem noOldL_rows (xss : List (List Int)) : T.noOldL (rows xss) = true := by
  induction xss with
  | nil => rfl
  | cons x xs ih => simp only [rows, List.map_cons] at ih ⊢; simp [ih]
@[simp] theorem lendL_rows (xss : List (List Int)) : T.lendL (rows xss) = rows xss := by
  induction xss with
  | nil => rfl
  | cons x xs ih => simp only [rows, List.map_cons] at ih ⊢; simp [ih]
/-- A slice that is only read. -/
abbrev ix (xs : List Int) : T := .mem .old (some 1) (xs.map I)
/-- The rows of a table that is only read. -/
def tbL (xss : List (List Int)) : List T := xss.map fun xs => ix xs
/-- A table that is only read. -/
abbrev tb (xss : List (List Int)) : T := .mem .old (some 1) (tbL xss)
@[simp] theorem tbL_length (xss : List (List Int)) : (tbL xss).length = xss.length := by simp [tbL]
@[simp] theorem noOwnL_tbL (xss : List (List Int)) : T.noOwnL (tbL xss) = true := by
  induction xss with
  | nil => rfl
  | cons x xs ih => simp only [tbL, List.map_cons] at ih ⊢; simp [ih]
@[simp] theorem eryL_tbL (xss : List (List Int)) : T.eryL .old (tbL xss) = tbL xss := by
  induction xss with
  | nil => rfl
  | cons x xs ih => simp only [tbL, List.map_cons] at ih ⊢; simp [ih]
@[simp] theorem eryL_rows (xss : List (List Int)) : T.eryL .old (rows xss) = tbL xss := by
  induction xss with
  | nil => rfl
  | cons x xs ih => simp only [rows, tbL, List.map_cons] at ih ⊢; simp [ih]
theorem rawT_tb (xss : List (List Int)) : rawT (.of (xss.map .of)) = tb xss := by simp [rawT, tbL, rawI]
theorem rows_get (xss : List (List Int)) (j : Nat) : (rows xss)[j]? = (xss[j]?).map fun xs => .mem .own (some 1) (xs.map I) := by simp [rows]
@[simp] theorem rows_getElem (xss : List (List Int)) (j : Nat) (h : j < (rows xss).length) : (rows xss)[j] = .mem .own (some 1) ((xss[j]'(by simpa using h)).map I) := by simp [rows]

def small (a : Rw (Rw Int)) : Prop := (lst a).length ≤ 1048576 ∧ ∀ r ∈ lst a, (lst r).length ≤ 1048576

def S_toT (pg : Pg) : Prop := ∀ a, small a → Call pg 32 [rawT a] [rawT a] (.mem .own (some 1) (rows ((lst a).map lst)))
theorem t_toT {pg : Pg} (hp : pg.fn 32 = some c_laws_toInt64SS) (h7 : S_toI pg) : S_toT pg := by
  intro a ⟨hl, hr⟩
  refine Call.intro hp rfl (by simp) ?_
  show wp _ _ c_laws_toInt64SS.body (post [.t 2] _ _ _) _
  simp [c_laws_toInt64SS]
  refine ⟨by unfold roomy; omega, ?_⟩
  refine wpLoop_count (fun k e => e = fr [(0, some (.val (rawT a))), (3, some (.val (.mem .own (some 1) ((rows ((lst a).map lst)).take k ++ List.replicate ((lst a).length - k) nil)))), (4, some (.val (I k)))]) (lst a).length ?_ ?_ 0 _ (by omega) ?_
  · rintro k e hk rfl
    simp [hk]
    refine callR (h7.at _ (hr _ (List.getElem_mem hk))) rfl rfl (fun _ => by simp) ?_
    simp
    refine ⟨by omega, by omega, by omega, ?_⟩
    have := set_fill (xs := rows ((lst a).map lst)) (z := nil) (k := k) (by simpa using hk)
    simp [rows] at this
    simp [rows, this]
  · rintro e rfl
    simp [take_len]
  · simp


def S_toSol (pg : Pg) : Prop := ∀ a b, small a → small b → Call pg 16 [.agg [rawT a, rawT b]] [.agg [rawT a, rawT b]] (.agg [.mem .own (some 1) (rows ((lst a).map lst)), .mem .own (some 1) (rows ((lst b).map lst))])
theorem t_toSol {pg : Pg} (hp : pg.fn 16 = some c_laws_toSolution) (h32 : S_toT pg) : S_toSol pg := by
  intro a b ha hb
  refine Call.intro hp rfl (by simp) ?_
  show wp _ _ c_laws_toSolution.body (post [.cell 2 (some 2)] _ _ _) _
  simp [c_laws_toSolution]
  refine callR (h32 _ ha) rfl rfl (fun _ => by simp) ?_
  simp
  refine callR (h32 _ hb) rfl rfl (fun _ => by simp) ?_
  simp

/-! ### Sizes -/

def sz1 (r : Rw Int) (l : Int) : Int := if l - ((lst r).length : Int) < 0 then -1 else l - ((lst r).length : Int)
def szL : List (Rw Int) → Int → Int
  | [], l => l
  | r :: rs, l => if sz1 r l < 0 then -1 else szL rs (sz1 r l)
def szT (a : Rw (Rw Int)) (l : Int) : Int := if l - ((lst a).length : Int) < 0 then -1 else szL (lst a) (l - ((lst a).length : Int))
theorem sz1_le {r : Rw Int} {l : Int} (h : -1 ≤ l) : -1 ≤ sz1 r l ∧ sz1 r l ≤ max l 0 := by
  unfold sz1; split <;> omega
theorem szL_le : ∀ (rs : List (Rw Int)) {l : Int}, -1 ≤ l → -1 ≤ szL rs l ∧ szL rs l ≤ max l 0
  | [], l, h => by unfold szL; omega
  | r :: rs, l, h => by
    have h1 := sz1_le (r := r) h
    unfold szL
    split
    · omega
    · have := szL_le rs (l := sz1 r l) h1.1
      omega
theorem szT_le {a : Rw (Rw Int)} {l : Int} (h : -1 ≤ l) : -1 ≤ szT a l ∧ szT a l ≤ max l 0 := by
  unfold szT
  split
  · omega
  · have := szL_le (lst a) (l := l - ((lst a).length : Int)) (by omega)
    omega

def S_szI (pg : Pg) : Prop := ∀ (a : Rw Int) (l : Int), (lst a).length ≤ 1048576 → -1 ≤ l → l ≤ 1048576 → Call pg 45 [rawI a, I l] [rawI a, I l] (I (sz1 a l))
theorem t_szI {pg : Pg} (hp : pg.fn 45 = some c_laws_szInt64S) : S_szI pg := by
  intro a l ha h1 h2
  refine Call.intro hp rfl (by simp) ?_
  show wp _ _ c_laws_szInt64S.body (post [.t 4] _ _ _) _
  by_cases hlt : l - ((lst a).length : Int) < 0
  · simp [c_laws_szInt64S, hlt, sz1]
    omega
  · simp [c_laws_szInt64S, hlt, sz1]
    omega

def S_szT (pg : Pg) : Prop := ∀ (a : Rw (Rw Int)) (l : Int), small a → -1 ≤ l → l ≤ 1048576 → Call pg 27 [rawT a, I l] [rawT a, I l] (I (szT a l))
theorem t_szT {pg : Pg} (hp : pg.fn 27 = some c_laws_szInt64SS) (h45 : S_szI pg) : S_szT pg := by
  intro a l ⟨ha, hr⟩ h1 h2
  refine Call.intro hp rfl (by simp) ?_
  show wp _ _ c_laws_szInt64SS.body (post [.t 4] _ _ _) _
  by_cases hlt : l - ((lst a).length : Int) < 0
  · simp [c_laws_szInt64SS, hlt, szT]
    omega
  · simp [c_laws_szInt64SS, hlt, szT]
    refine ⟨by omega, ?_⟩
    refine wpLoop_count (fun k e => ∃ l' : Int, -1 ≤ l' ∧ l' ≤ 1048576 ∧ szL ((lst a).drop k) l' = szL (lst a) (l - ((lst a).length : Int)) ∧ e = fr [(0, some (.val (rawT a))), (1, some (.val (I l'))), (5, some (.val (I k)))]) (lst a).length ?_ ?_ 0 _ (by omega) ?_
    · rintro k e hk ⟨l', g1, g2, g3, rfl⟩
      simp [hk]
      have hd : (lst a).drop k = (lst a)[k] :: (lst a).drop (k + 1) := List.drop_eq_getElem_cons hk
      rw [hd] at g3
      simp only [szL] at g3
      have h3 := sz1_le (r := (lst a)[k]) g1
      refine callR (h45 _ _ (hr _ (List.getElem_mem hk)) g1 g2) rfl rfl (fun _ => rfl) ?_
      by_cases hn : sz1 (lst a)[k] l' < 0
      · simp [hn]
        rw [if_pos hn] at g3
        exact g3
      · simp [hn]
        rw [if_neg hn] at g3
        refine ⟨by omega, sz1 (lst a)[k] l', by omega, by omega, g3, ?_⟩
        simp
    · rintro e ⟨l', g1, g2, g3, rfl⟩
      simp
      rw [List.drop_length] at g3
      exact g3
    · exact ⟨_, by omega, by omega, rfl, by simp⟩

def S_szSol (pg : Pg) : Prop := ∀ (a b : Rw (Rw Int)) (l : Int), small a → small b → -1 ≤ l → l ≤ 1048576 → ∃ r, -1 ≤ r ∧ r ≤ 1048576 ∧ Call pg 14 [.agg [rawT a, rawT b], I l] [.agg [rawT a, rawT b], I l] (I r)
theorem t_szSol {pg : Pg} (hp : pg.fn 14 = some c_laws_szSolution) (h27 : S_szT pg) : S_szSol pg := by
  intro a b l ha hb h1 h2
  have h3 := szT_le (a := a) h1
  have h4 := szT_le (a := b) h3.1
  by_cases hn : szT a l < 0
  · refine ⟨-1, by omega, by omega, Call.intro hp rfl (by simp) ?_⟩
    show wp _ _ c_laws_szSolution.body (post [.t 4] _ _ _) _
    simp [c_laws_szSolution]
    refine callR (h27 _ _ ha h1 h2) rfl rfl (fun _ => rfl) ?_
    simp [hn]
  · refine ⟨szT b (szT a l), by omega, by omega, Call.intro hp rfl (by simp) ?_⟩
    show wp _ _ c_laws_szSolution.body (post [.t 4] _ _ _) _
    simp [c_laws_szSolution]
    refine callR (h27 _ _ ha h1 h2) rfl rfl (fun _ => rfl) ?_
    simp [hn]
    refine callR (h27 _ _ hb (by omega) (by omega)) rfl rfl (fun _ => rfl) ?_
    by_cases hn2 : szT b (szT a l) < 0
    · simp [hn2]; omega
    · simp [hn2]

/-! ### Equality -/

def S_eqI (pg : Pg) : Prop := ∀ a b : Rw Int, (lst a).length ≤ 1048576 → Call pg 9 [rawI a, rawI b] [rawI a, rawI b] (B (decide (lst a = lst b)))
theorem t_eqI {pg : Pg} (hp : pg.fn 9 = some c_laws_eqInt64S) : S_eqI pg := by
  intro a b ha
  refine Call.intro hp rfl (by simp) ?_
  show wp _ _ c_laws_eqInt64S.body (post [.t 4] _ _ _) _
  by_cases hl : (lst a).length = (lst b).length
  · simp [c_laws_eqInt64S, hl]
    refine wpLoop_count (fun k e => (∀ i, i < k → (lst a)[i]? = (lst b)[i]?) ∧ e = fr [(0, some (.val (rawI a))), (1, some (.val (rawI b))), (5, some (.val (I k)))]) (lst a).length ?_ ?_ 0 _ (by omega) ?_
    · rintro k e hk ⟨h1, rfl⟩
      have hk2 : k < (lst b).length := by omega
      by_cases hne : (lst a)[k] = (lst b)[k]
      · simp [hk, hk2, hne]
        refine ⟨by omega, fun i hi => ?_⟩
        rcases Nat.lt_or_ge i k with h2 | h2
        · exact h1 i h2
        · have : i = k := by omega
          subst this
          rw [List.getElem?_eq_getElem hk, List.getElem?_eq_getElem hk2, hne]
      · simp [hk, hk2, hne]
        intro h2
        exact hne (by simp [h2])
    · rintro e ⟨h1, rfl⟩
      simp [hl]
      apply List.ext_getElem?
      intro i
      rcases Nat.lt_or_ge i (lst a).length with h2 | h2
      · exact h1 i h2
      · rw [List.getElem?_eq_none h2, List.getElem?_eq_none (by omega)]
    · exact ⟨fun i hi => by omega, by simp⟩
  · have : lst a ≠ lst b := fun h => hl (by rw [h])
    have h2 : ((lst a).length : Int) ≠ (lst b).length := by omega
    simp [c_laws_eqInt64S, h2, this]

def S_eqT (pg : Pg) : Prop := ∀ a b : Rw (Rw Int), small a → Call pg 21 [rawT a, rawT b] [rawT a, rawT b] (B (decide ((lst a).map lst = (lst b).map lst)))
theorem t_eqT {pg : Pg} (hp : pg.fn 21 = some c_laws_eqInt64SS) (h9 : S_eqI pg) : S_eqT pg := by
  intro a b ⟨ha, hr⟩
  refine Call.intro hp rfl (by simp) ?_
  show wp _ _ c_laws_eqInt64SS.body (post [.t 4] _ _ _) _
  by_cases hl : (lst a).length = (lst b).length
  · simp [c_laws_eqInt64SS, hl]
    refine wpLoop_count (fun k e => (∀ i, i < k → ((lst a).map lst)[i]? = ((lst b).map lst)[i]?) ∧ e = fr [(0, some (.val (rawT a))), (1, some (.val (rawT b))), (5, some (.val (I k)))]) (lst a).length ?_ ?_ 0 _ (by omega) ?_
    · rintro k e hk ⟨h1, rfl⟩
      have hk2 : k < (lst b).length := by omega
      simp [hk, hk2]
      refine callR (h9 _ _ (hr _ (List.getElem_mem hk))) rfl rfl (fun _ => rfl) ?_
      by_cases hne : lst (lst a)[k] = lst (lst b)[k]
      · simp [hne]
        refine ⟨by omega, fun i hi => ?_⟩
        rcases Nat.lt_or_ge i k with h2 | h2
        · have := h1 i h2
          simpa using this
        · have : i = k := by omega
          subst this
          simp [hk, hk2, hne]
      · simp [hne]
        intro h2
        have h3 := congrArg (fun l => l[k]?) h2
        simp [hk, hk2] at h3
        exact hne h3
    · rintro e ⟨h1, rfl⟩
      simp [hl]
      apply List.ext_getElem?
      intro i
      rcases Nat.lt_or_ge i (lst a).length with h2 | h2
      · exact h1 i h2
      · rw [List.getElem?_eq_none (by simpa using h2), List.getElem?_eq_none (by simp; omega)]
    · exact ⟨fun i hi => by omega, by simp⟩
  · have : (lst a).map lst ≠ (lst b).map lst := fun h => hl (by have := congrArg List.length h; simpa using this)
    have h2 : ((lst a).length : Int) ≠ (lst b).length := by omega
    simp [c_laws_eqInt64SS, h2, this]

def S_eqRack (pg : Pg) : Prop := ∀ a b : Rw (Rw Int), small a → Call pg 10 [.agg [rawT a], .agg [rawT b]] [.agg [rawT a], .agg [rawT b]] (B (decide ((lst a).map lst = (lst b).map lst)))
def S_eqSol (pg : Pg) : Prop := ∀ a b c d : Rw (Rw Int), small a → small b → Call pg 18 [.agg [rawT a, rawT b], .agg [rawT c, rawT d]] [.agg [rawT a, rawT b], .agg [rawT c, rawT d]] (B (decide ((lst a).map lst = (lst c).map lst ∧ (lst b).map lst = (lst d).map lst)))
theorem t_eqSol {pg : Pg} (hp : pg.fn 18 = some c_laws_eqSolution) (h21 : S_eqT pg) : S_eqSol pg := by
  intro a b c d ha hb
  refine Call.intro hp rfl (by simp) ?_
  show wp _ _ c_laws_eqSolution.body (post [.t 4] _ _ _) _
  simp [c_laws_eqSolution]
  refine callR (h21 _ _ ha) rfl rfl (fun _ => rfl) ?_
  by_cases h : (lst a).map lst = (lst c).map lst
  · simp [h]
    refine callR (h21 _ _ hb) rfl rfl (fun _ => rfl) ?_
    by_cases h2 : (lst b).map lst = (lst d).map lst <;> simp [h2]
  · simp [h]

end Go.Mch
/- The first functions of the program and of the reference: ranges, places in lists, tables, permutations. -/
namespace Go.Mch

def S_in (pg : Pg) (f : Nat) : Prop := ∀ n lo hi : Int, Call pg f [I n, I lo, I hi] [I n, I lo, I hi] (B (decide (lo ≤ n ∧ n ≤ hi)))
theorem t_l01In {pg : Pg} (hp : pg.fn 30 = some c_spec_l01In) : S_in pg 30 := by
  intro n lo hi
  refine Call.intro hp rfl (by simp) ?_
  show wp _ _ c_spec_l01In.body (post [.t 6] _ _ _) _
  by_cases h1 : lo ≤ n
  · by_cases h2 : n ≤ hi <;> simp [c_spec_l01In, h1, h2]
  · simp [c_spec_l01In, h1, undefV]
theorem t_within {pg : Pg} (hp : pg.fn 35 = some c_impl_within) : S_in pg 35 := by
  intro n lo hi
  refine Call.intro hp rfl (by simp) ?_
  show wp _ _ c_impl_within.body (post [.t 6] _ _ _) _
  by_cases h1 : lo ≤ n
  · by_cases h2 : n ≤ hi <;> simp [c_impl_within, h1, h2]
  · simp [c_impl_within, h1, undefV]

def S_own (pg : Pg) : Prop := ∀ xs : List Int, xs.length ≤ 1048576 → Call pg 31 [ix xs] [ix xs] (.mem .own (some 1) (xs.map I))
theorem t_own {pg : Pg} (hp : pg.fn 31 = some c_spec_l01Own) : S_own pg := by
  intro xs hl
  refine Call.intro hp rfl (by simp) ?_
  show wp _ _ c_spec_l01Own.body (post [.t 2] _ _ _) _
  simp [c_spec_l01Own, roomy]
  omega

/-- The first place of a number in a list, or -1. -/
def ixOf : List Int → Int → Int
  | [], _ => -1
  | x :: xs, n => if x = n then 0 else if ixOf xs n < 0 then -1 else ixOf xs n + 1
/-! ### Tables -/

/-- A square table of its own places. -/
def Tab (t : List (List Int)) : Prop := ∀ r ∈ t, r.length = t.length ∧ ∀ v ∈ r, 0 ≤ v ∧ v < t.length

def isTable (t : List (List Int)) : Prop := 1 ≤ t.length ∧ t.length ≤ 12 ∧ Tab t

instance (t : List (List Int)) : Decidable (Tab t) := by unfold Tab; infer_instance
instance (t : List (List Int)) : Decidable (isTable t) := by unfold isTable; infer_instance

def S_table (pg : Pg) (f : Nat) : Prop := ∀ t : List (List Int), t.length ≤ 1048576 → (∀ r ∈ t, r.length ≤ 1048576) → Call pg f [tb t] [tb t] (B (decide (isTable t)))

@[simp] theorem tbL_getElem {t : List (List Int)} {k : Nat} (h : k < (tbL t).length) : (tbL t)[k] = ix (t[k]'(by simpa using h)) := by simp [tbL]

theorem t_l01Table {pg : Pg} (hp : pg.fn 46 = some c_spec_l01Table) (h30 : S_in pg 30) : S_table pg 46 := by
  intro t hl hr
  refine Call.intro hp rfl (by simp) ?_
  show wp _ _ c_spec_l01Table.body (post [.t 2] _ _ _) _
  simp [c_spec_l01Table]
  refine callR (h30 _ 1 12) rfl rfl (fun _ => rfl) ?_
  by_cases hn : 1 ≤ t.length ∧ t.length ≤ 12
  · have hn' : (1 : Int) ≤ t.length ∧ (t.length : Int) ≤ 12 := by omega
    simp [hn']
    refine wpLoop_count (fun k e => (∀ i (h : i < t.length), i < k → t[i].length = t.length ∧ ∀ v ∈ t[i], 0 ≤ v ∧ v < t.length) ∧ e = fr [(0, some (.val (tb t))), (3, some (.val (I t.length))), (4, some (.val (I k)))]) t.length ?_ ?_ 0 _ (by omega) ?_
    · rintro k e hk ⟨h1, rfl⟩
      by_cases hlen : t[k].length = t.length
      · simp [hk, hlen]
        refine wpLoop_count (fun j e => (∀ i (h : i < t[k].length), i < j → 0 ≤ t[k][i] ∧ t[k][i] < t.length) ∧ e = fr [(0, some (.val (tb t))), (3, some (.val (I t.length))), (4, some (.val (I k))), (5, some (.val (I j)))]) t.length ?_ ?_ 0 _ (by omega) ?_
        · rintro j e hj ⟨h2, rfl⟩
          have hj2 : j < t[k].length := by omega
          simp [hk, hj, hj2]
          refine ⟨by omega, ?_⟩
          refine callR (h30 _ 0 _) rfl rfl (fun _ => rfl) ?_
          by_cases hv : 0 ≤ t[k][j] ∧ t[k][j] ≤ (t.length : Int) - 1
          · simp [hv]
            refine ⟨by omega, fun i hi hij => ?_⟩
            rcases Nat.lt_or_ge i j with h3 | h3
            · exact h2 i hi h3
            · have : i = j := by omega
              subst this; omega
          · have hvd : ¬ isTable t := fun ht => hv (by
              have := (ht.2.2 t[k] (List.getElem_mem hk)).2 t[k][j] (List.getElem_mem hj2)
              omega)
            simp [hv, hvd]
        · rintro e ⟨h2, rfl⟩
          simp
          refine ⟨by omega, fun i hi hik => ?_⟩
          rcases Nat.lt_or_ge i k with h3 | h3
          · exact h1 i hi h3
          · have : i = k := by omega
            subst this
            refine ⟨hlen, fun v hv => ?_⟩
            obtain ⟨j, hj, rfl⟩ := List.getElem_of_mem hv
            exact h2 j hj (by omega)
        · simp
      · have hvd : ¬ isTable t := fun ht => hlen (ht.2.2 t[k] (List.getElem_mem hk)).1
        have hne : ((t[k].length : Nat) : Int) ≠ t.length := by omega
        simp [hk, hne, hvd]
    · rintro e ⟨h1, rfl⟩
      have : isTable t := ⟨hn.1, hn.2, fun r hr => by
        obtain ⟨i, hi, rfl⟩ := List.getElem_of_mem hr
        exact h1 i hi hi⟩
      simp [this]
    · simp
  · have hvd : ¬ isTable t := fun ht => hn ⟨ht.1, ht.2.1⟩
    have hn' : ¬ ((1 : Int) ≤ t.length ∧ (t.length : Int) ≤ 12) := by omega
    simp [hn', hvd]

end Go.Mch
/- Permutations; rows that pass a test; tables and pair maps as the program and the reference see them. -/
namespace Go.Mch

def isPerm (p : List Int) : Prop := 1 ≤ p.length ∧ p.length ≤ 12 ∧ ∀ x : Nat, x < p.length → (x : Int) ∈ p
instance (p : List Int) : Decidable (isPerm p) := by unfold isPerm; infer_instance

/-- All in range. -/
def inR (lo hi : Int) (xs : List Int) : Prop := ∀ x ∈ xs, lo ≤ x ∧ x ≤ hi
instance (lo hi : Int) (xs : List Int) : Decidable (inR lo hi xs) := by unfold inR; infer_instance

def S_allWithin (pg : Pg) : Prop := ∀ (xs : List Int) (lo hi : Int), xs.length ≤ 1048576 → Call pg 54 [ix xs, I lo, I hi] [ix xs, I lo, I hi] (B (decide (inR lo hi xs)))
theorem t_allWithin {pg : Pg} (hp : pg.fn 54 = some c_impl_allWithin) (h35 : S_in pg 35) : S_allWithin pg := by
  intro xs lo hi hl
  refine Call.intro hp rfl (by simp) ?_
  show wp _ _ c_impl_allWithin.body (post [.t 6] _ _ _) _
  simp [c_impl_allWithin]
  refine wpLoop_count (fun k e => (∀ i (h : i < xs.length), i < k → lo ≤ xs[i] ∧ xs[i] ≤ hi) ∧ e = fr [(1, some (.val (I lo))), (2, some (.val (I hi))), (9, some (.val (ix xs))), (10, some (.val (I xs.length))), (11, some (.val (I k)))]) xs.length ?_ ?_ 0 _ (by omega) ?_
  · rintro k e hk ⟨h1, rfl⟩
    simp [hk]
    refine callR (h35 _ _ _) rfl rfl (fun _ => rfl) ?_
    by_cases hm : lo ≤ xs[k] ∧ xs[k] ≤ hi
    · simp [hm]
      refine ⟨by omega, fun i hi hik => ?_⟩
      rcases Nat.lt_or_ge i k with h2 | h2
      · exact h1 i hi h2
      · have : i = k := by omega
        subst this; exact hm
    · have hvd : ¬ inR lo hi xs := fun h => hm (h _ (List.getElem_mem hk))
      simp [hm, hvd]
  · rintro e ⟨h1, rfl⟩
    have : inR lo hi xs := fun x hx => by
      obtain ⟨i, hi, rfl⟩ := List.getElem_of_mem hx
      exact h1 i hi hi
    simp [this]
  · simp

def S_areElements (pg : Pg) : Prop := ∀ (n : Int) (xs : List Int), xs.length ≤ 1048576 → 0 ≤ n → n ≤ 1048576 → Call pg 39 [I n, ix xs] [I n, ix xs] (B (decide (inR 0 (n - 1) xs)))
theorem t_areElements {pg : Pg} (hp : pg.fn 39 = some c_impl_areElements) (h54 : S_allWithin pg) : S_areElements pg := by
  intro n xs hl h1 h2
  refine Call.intro hp rfl (by simp) ?_
  show wp _ _ c_impl_areElements.body (post [.t 4] _ _ _) _
  simp [c_impl_areElements]
  refine ⟨by omega, ?_⟩
  refine callR (h54 _ _ _ hl) rfl rfl (fun _ => rfl) ?_
  simp

/-- Each of its places once. -/
def isPermuted (p : List Int) : Prop := (∀ x ∈ p, 0 ≤ x ∧ x < p.length) ∧ p.Nodup
instance (p : List Int) : Decidable (isPermuted p) := by unfold isPermuted; infer_instance

/-- What has been seen. -/
def seenL (p : List Int) (k : Nat) : List T := (List.range p.length).map fun i : Nat => B (decide ((i : Int) ∈ p.take k))
@[simp] theorem seenL_length (p : List Int) (k : Nat) : (seenL p k).length = p.length := by simp [seenL]
/-! ### A test for each row -/

def S_indexFunc (pg : Pg) : Prop := ∀ (t : List (List Int)) (P : List Int → Bool) (f : Nat) (caps : List T), t.length ≤ 1048576 → T.eryL .old caps = caps → T.noOwnL caps = true → (∀ r ∈ t, Call pg f (ix r :: caps) (ix r :: caps) (B (P r))) →
  ∃ r : Int, (0 ≤ r ↔ t.any P = true) ∧ Call pg 70 [tb t, .fn f caps] [tb t, .fn f caps] (I r)
theorem t_indexFunc {pg : Pg} (hp : pg.fn 70 = some c_slices_IndexFunc_____int64___int64_) : S_indexFunc pg := by
  intro t P f caps hl hc hno hf
  by_cases hex : ∃ (k : Nat) (hk : k < t.length), (∀ i (h : i < k), P t[i] = false) ∧ P t[k] = true
  · obtain ⟨m, hm, hm1, hm2⟩ := hex
    refine ⟨m, ⟨fun _ => List.any_eq_true.2 ⟨_, List.getElem_mem hm, hm2⟩, fun _ => by omega⟩, Call.intro hp rfl (by simp [hno]) ?_⟩
    show wp _ _ c_slices_IndexFunc_____int64___int64_.body (post [.t 4] _ _ _) _
    simp [c_slices_IndexFunc_____int64___int64_]
    refine wpLoop_count (fun k e => k ≤ m ∧ e = fr [(0, some (.val (tb t))), (1, some (.val (.fn f caps))), (7, some (.val (I t.length))), (8, some (.val (I k)))]) t.length ?_ ?_ 0 _ (by omega) ?_
    · rintro k e hk ⟨h1, rfl⟩
      simp [hk]
      refine callR (by simpa [hc] using hf t[k] (List.getElem_mem hk)) rfl rfl (fun _ => rfl) ?_
      rcases Nat.lt_or_ge k m with h2 | h2
      · simp [hm1 k h2]
        omega
      · have : k = m := by omega
        subst this
        simp [hm2, hno]
    · rintro e ⟨h1, rfl⟩
      omega
    · simp
  · have hall : ∀ i (h : i < t.length), P t[i] = false := by
      intro i
      induction i using Nat.strongRecOn with
      | _ i ih =>
        intro hi
        cases hv : P t[i] with
        | false => rfl
        | true => exact (hex ⟨i, hi, fun j hj => ih j hj (by omega), hv⟩).elim
    refine ⟨-1, ⟨fun h => by omega, fun h => by
      obtain ⟨r, hr, h2⟩ := List.any_eq_true.1 h
      obtain ⟨i, hi, rfl⟩ := List.getElem_of_mem hr
      rw [hall i hi] at h2; cases h2⟩, Call.intro hp rfl (by simp [hno]) ?_⟩
    show wp _ _ c_slices_IndexFunc_____int64___int64_.body (post [.t 4] _ _ _) _
    simp [c_slices_IndexFunc_____int64___int64_]
    refine wpLoop_count (fun k e => e = fr [(0, some (.val (tb t))), (1, some (.val (.fn f caps))), (7, some (.val (I t.length))), (8, some (.val (I k)))]) t.length ?_ ?_ 0 _ (by omega) ?_
    · rintro k e hk rfl
      simp [hk]
      refine callR (by simpa [hc] using hf t[k] (List.getElem_mem hk)) rfl rfl (fun _ => rfl) ?_
      simp [hall k hk]
      omega
    · rintro e rfl
      simp [hno]
    · simp

def S_containsFunc (pg : Pg) : Prop := ∀ (t : List (List Int)) (P : List Int → Bool) (f : Nat) (caps : List T), t.length ≤ 1048576 → T.eryL .old caps = caps → T.noOwnL caps = true → (∀ r ∈ t, Call pg f (ix r :: caps) (ix r :: caps) (B (P r))) →
  Call pg 63 [tb t, .fn f caps] [tb t, .fn f caps] (B (t.any P))
theorem t_containsFunc {pg : Pg} (hp : pg.fn 63 = some c_slices_ContainsFunc_____int64___int64_) (h70 : S_indexFunc pg) : S_containsFunc pg := by
  intro t P f caps hl hc hno hf
  obtain ⟨r, h1, h2⟩ := h70 t P f caps hl hc hno hf
  refine Call.intro hp rfl (by simp [hno]) ?_
  show wp _ _ c_slices_ContainsFunc_____int64___int64_.body (post [.t 4] _ _ _) _
  simp [c_slices_ContainsFunc_____int64___int64_, hno, hc]
  refine callR h2 rfl rfl (fun _ => rfl) ?_
  cases h : t.any P with
  | true => simp [h1.2 h, hno]
  | false =>
    have : ¬ 0 ≤ r := fun hh => by rw [h1.1 hh] at h; cases h
    simp [this, hno]

end Go.Mch
/- Tables and pair maps as the program and the reference see them. -/
namespace Go.Mch

def S_isTable1 (pg : Pg) : Prop := ∀ (r : List Int) (n : Int), r.length ≤ 1048576 → 0 ≤ n → n ≤ 1048576 → Call pg 64 [ix r, .mem .old none [I n]] [ix r, .mem .old none [I n]] (B (decide ((r.length : Int) ≠ n ∨ ¬ inR 0 (n - 1) r)))
theorem t_isTable1 {pg : Pg} (hp : pg.fn 64 = some c_impl_IsTable_1) (h54 : S_allWithin pg) : S_isTable1 pg := by
  intro r n hl h1 h2
  refine Call.intro hp rfl (by simp) ?_
  show wp _ _ c_impl_IsTable_1.body (post [.t 3] _ _ _) _
  by_cases hn : (r.length : Int) = n
  · simp [c_impl_IsTable_1, hn]
    refine ⟨by omega, ?_⟩
    refine callR (h54 _ _ _ hl) rfl rfl (fun _ => rfl) ?_
    by_cases hr : inR 0 (n - 1) r <;> simp [hr]
  · simp [c_impl_IsTable_1, hn, undefV]

theorem t_isTable {pg : Pg} (hp : pg.fn 50 = some c_impl_IsTable) (h35 : S_in pg 35) (h64 : S_isTable1 pg) (h63 : S_containsFunc pg) : S_table pg 50 := by
  intro t hl hr
  refine Call.intro hp rfl (by simp) ?_
  show wp _ _ c_impl_IsTable.body (post [.t 2] _ _ _) _
  simp [c_impl_IsTable]
  refine callR (h35 _ 1 12) rfl rfl (fun _ => rfl) ?_
  by_cases hn : 1 ≤ t.length ∧ t.length ≤ 12
  · have hn' : (1 : Int) ≤ t.length ∧ (t.length : Int) ≤ 12 := by omega
    simp [hn']
    refine callR (h63 t (fun r => decide ((r.length : Int) ≠ t.length ∨ ¬ inR 0 ((t.length : Int) - 1) r)) 64 [.mem .old none [I t.length]] hl rfl rfl (fun r hm => h64 r _ (hr r hm) (by omega) (by omega))) rfl rfl (fun _ => rfl) ?_
    simp
    by_cases ht : isTable t
    · simp [ht]
      intro r hm
      have := ht.2.2 r hm
      exact ⟨by omega, fun v hv => by have := this.2 v hv; omega⟩
    · simp [ht]
      rcases Classical.em (∃ x, x ∈ t ∧ (¬ ((x.length : Nat) : Int) = t.length ∨ ¬ inR 0 ((t.length : Int) - 1) x)) with h | h
      · exact h
      · exfalso
        refine ht ⟨hn.1, hn.2, fun r hm => ?_⟩
        have h1 : ((r.length : Nat) : Int) = t.length ∧ inR 0 ((t.length : Int) - 1) r := by
          refine Classical.byContradiction fun h2 => h ⟨r, hm, ?_⟩
          rcases Classical.em (((r.length : Nat) : Int) = t.length) with h3 | h3
          · exact .inr fun h4 => h2 ⟨h3, h4⟩
          · exact .inl h3
        exact ⟨by omega, fun v hv => by have := h1.2 v hv; omega⟩
  · have hvd : ¬ isTable t := fun ht => hn ⟨ht.1, ht.2.1⟩
    have hn' : ¬ ((1 : Int) ≤ t.length ∧ (t.length : Int) ≤ 12) := by omega
    simp [hn', hvd, undefV]

def permRows (t : List (List Int)) : Prop := ∀ r ∈ t, isPermuted r
instance (t : List (List Int)) : Decidable (permRows t) := by unfold permRows; infer_instance

def S_same (pg : Pg) : Prop := ∀ a b : List Int, a.length ≤ 1048576 → Call pg 67 [ix a, ix b] [ix a, ix b] (B (decide (a = b)))
theorem t_same {pg : Pg} (hp : pg.fn 67 = some c_spec_l01Same) : S_same pg := by
  intro a b ha
  refine Call.intro hp rfl (by simp) ?_
  show wp _ _ c_spec_l01Same.body (post [.t 4] _ _ _) _
  by_cases hl : a.length = b.length
  · simp [c_spec_l01Same, hl]
    refine wpLoop_count (fun k e => (∀ i, i < k → a[i]? = b[i]?) ∧ e = fr [(0, some (.val (ix a))), (1, some (.val (ix b))), (5, some (.val (I k)))]) a.length ?_ ?_ 0 _ (by omega) ?_
    · rintro k e hk ⟨h1, rfl⟩
      have hk2 : k < b.length := by omega
      by_cases hne : a[k] = b[k]
      · simp [hk, hk2, hne]
        refine ⟨by omega, fun i hi => ?_⟩
        rcases Nat.lt_or_ge i k with h2 | h2
        · exact h1 i h2
        · have : i = k := by omega
          subst this
          rw [List.getElem?_eq_getElem hk, List.getElem?_eq_getElem hk2, hne]
      · simp [hk, hk2, hne]
        intro h2
        exact hne (by simp [h2])
    · rintro e ⟨h1, rfl⟩
      simp [hl]
      apply List.ext_getElem?
      intro i
      rcases Nat.lt_or_ge i a.length with h2 | h2
      · exact h1 i h2
      · rw [List.getElem?_eq_none h2, List.getElem?_eq_none (by omega)]
    · exact ⟨fun i hi => by omega, by simp⟩
  · have : a ≠ b := fun h => hl (by rw [h])
    have h2 : (a.length : Int) ≠ b.length := by omega
    simp [c_spec_l01Same, h2, this]

/-! ### Pair maps -/

abbrev sol (f s : List (List Int)) : T := .agg [tb f, tb s]
def isPairMap (f s : List (List Int)) : Prop := isTable f ∧ isTable s ∧ f.length = s.length
instance (f s : List (List Int)) : Decidable (isPairMap f s) := by unfold isPairMap; infer_instance

def fits (t : List (List Int)) : Prop := t.length ≤ 1048576 ∧ ∀ r ∈ t, r.length ≤ 1048576

def S_pairMap (pg : Pg) (n : Nat) : Prop := ∀ f s : List (List Int), fits f → fits s → Call pg n [sol f s] [sol f s] (B (decide (isPairMap f s)))
theorem t_l02Map {pg : Pg} (hp : pg.fn 56 = some c_spec_l02Map) (h46 : S_table pg 46) : S_pairMap pg 56 := by
  intro f s hf hs
  refine Call.intro hp rfl (by simp) ?_
  show wp _ _ c_spec_l02Map.body (post [.t 2] _ _ _) _
  simp [c_spec_l02Map]
  refine callR (h46 _ hf.1 hf.2) rfl rfl (fun _ => rfl) ?_
  by_cases h1 : isTable f
  · simp [h1]
    refine callR (h46 _ hs.1 hs.2) rfl rfl (fun _ => rfl) ?_
    by_cases h2 : isTable s
    · simp [h2, isPairMap, h1]
      omega
    · simp [h2, isPairMap, undefV]
  · simp [h1, isPairMap, undefV]
theorem t_isPairMap {pg : Pg} (hp : pg.fn 59 = some c_impl_IsPairMap) (h50 : S_table pg 50) : S_pairMap pg 59 := by
  intro f s hf hs
  refine Call.intro hp rfl (by simp) ?_
  show wp _ _ c_impl_IsPairMap.body (post [.t 2] _ _ _) _
  simp [c_impl_IsPairMap]
  refine callR (h50 _ hf.1 hf.2) rfl rfl (fun _ => rfl) ?_
  by_cases h1 : isTable f
  · simp [h1]
    refine callR (h50 _ hs.1 hs.2) rfl rfl (fun _ => rfl) ?_
    by_cases h2 : isTable s
    · simp [h2, isPairMap, h1]
      omega
    · simp [h2, isPairMap, undefV]
  · simp [h1, isPairMap, undefV]

/-! ### Values of tables -/

/-- The value of a table at places. -/
def v2 (t : List (List Int)) (x y : Nat) : Int := (t.getD x []).getD y 0
theorem get_v2 {t : List (List Int)} {x y : Nat} (hx : x < t.length) (hy : y < (t[x]).length) : (t[x])[y] = v2 t x y := by
  simp [v2, List.getD_eq_getElem?_getD, hx, hy]
theorem Tab.row {t : List (List Int)} (h : Tab t) {x : Nat} (hx : x < t.length) : (t[x]).length = t.length := (h _ (List.getElem_mem hx)).1
theorem Tab.nonneg {t : List (List Int)} (h : Tab t) (x y : Nat) : 0 ≤ v2 t x y := by
  unfold v2
  rw [List.getD_eq_getElem?_getD, List.getD_eq_getElem?_getD]
  cases h1 : t[x]? with
  | none => simp
  | some r =>
    simp only [Option.getD_some]
    cases h2 : r[y]? with
    | none => simp
    | some v => exact ((h r (List.mem_of_getElem? h1)).2 v (List.mem_of_getElem? h2)).1
theorem Tab.lt {t : List (List Int)} (h : Tab t) (h0 : 0 < t.length) (x y : Nat) : v2 t x y < t.length := by
  unfold v2
  rw [List.getD_eq_getElem?_getD, List.getD_eq_getElem?_getD]
  cases h1 : t[x]? with
  | none => simp; omega
  | some r =>
    simp only [Option.getD_some]
    cases h2 : r[y]? with
    | none => simp; omega
    | some v => exact ((h r (List.mem_of_getElem? h1)).2 v (List.mem_of_getElem? h2)).2
theorem Tab.ltN {t : List (List Int)} (h : Tab t) (h0 : 0 < t.length) (x y : Nat) : (v2 t x y).toNat < t.length := by
  have := h.lt h0 x y
  have := h.nonneg x y
  omega

@[simp] theorem tdiv_nat (a b : Nat) : (a : Int).tdiv (b : Int) = ((a / b : Nat) : Int) := rfl
@[simp] theorem tmod_nat (a b : Nat) : (a : Int).tmod (b : Int) = ((a % b : Nat) : Int) := rfl

theorem least {P : Nat → Prop} {m : Nat} (h : ∃ k, k < m ∧ P k) : ∃ k, k < m ∧ P k ∧ ∀ i, i < k → ¬ P i := by
  obtain ⟨k, h1, h2⟩ := h
  induction k using Nat.strongRecOn with
  | _ k ih =>
    by_cases hh : ∃ i, i < k ∧ P i
    · obtain ⟨i, h3, h4⟩ := hh
      exact ih i h3 (by omega) h4
    · exact ⟨k, h1, h2, fun i hi hp => hh ⟨i, hi, hp⟩⟩

end Go.Mch
/- Marks: numbers written into what was handed over, and read again. -/
namespace Go.Mch

/-- A slice of the frame's own, or nil. -/
def ownI : Option (List Int) → T
  | none => nil
  | some xs => .mem .own (some 1) (xs.map I)

def up (k : Int) (n : Nat) : List Int := (List.range n).map fun i : Nat => k + i
@[simp] theorem up_length (k : Int) (n : Nat) : (up k n).length = n := by simp [up]

def held : List Int → Int → Int
  | [], k => k
  | x :: xs, k => if x = k then held xs (k + 1) else -1

theorem held_up : ∀ (n : Nat) (k : Int), held (up k n) k = k + n
  | 0, k => by simp [up, held]
  | n + 1, k => by
    have h : up k (n + 1) = k :: up (k + 1) n := by
      simp only [up, List.range_succ_eq_map, List.map_cons, List.map_map]
      congr 1
      · simp
      · apply List.map_congr_left
        intro i _
        simp only [Function.comp]
        omega
    rw [h, held, if_pos rfl, held_up n (k + 1)]
    omega

def S_heldI (pg : Pg) : Prop := ∀ (a : Rw Int) (k : Int), (lst a).length ≤ 1048576 → -1 ≤ k → k ≤ 4611686018427387904 → Call pg 13 [rawI a, I k] [rawI a, I k] (I (held (lst a) k))
theorem t_heldI {pg : Pg} (hp : pg.fn 13 = some c_laws_heldInt64S) : S_heldI pg := by
  intro a k ha h1 h2
  refine Call.intro hp rfl (by simp) ?_
  show wp _ _ c_laws_heldInt64S.body (post [.t 4] _ _ _) _
  simp [c_laws_heldInt64S]
  refine wpLoop_count (fun j e => held ((lst a).drop j) (k + j) = held (lst a) k ∧ e = fr [(0, some (.val (rawI a))), (1, some (.val (I (k + j)))), (5, some (.val (I j)))]) (lst a).length ?_ ?_ 0 _ (by omega) ?_
  · rintro j e hj ⟨g1, rfl⟩
    have hd : (lst a).drop j = (lst a)[j] :: (lst a).drop (j + 1) := List.drop_eq_getElem_cons hj
    rw [hd] at g1
    simp only [held] at g1
    by_cases hx : (lst a)[j] = k + j
    · rw [if_pos hx] at g1
      simp [hj, hx]
      refine ⟨by omega, by omega, by rw [← g1]; congr 1; omega, ?_⟩
      congr 4
      simp; omega
    · rw [if_neg hx] at g1
      simp [hj, hx, g1]
  · rintro e ⟨g1, rfl⟩
    simp
    rw [List.drop_length] at g1
    exact g1
  · exact ⟨by simp, by simp⟩

/-- Marks behind j places. -/
def upto (k : Int) (xs : List Int) (j : Nat) : List Int := (List.range xs.length).map fun i : Nat => if i < j then k + i else xs.getD i 0
@[simp] theorem upto_length (k : Int) (xs : List Int) (j : Nat) : (upto k xs j).length = xs.length := by simp [upto]
theorem upto_zero (k : Int) (xs : List Int) : upto k xs 0 = xs := by
  apply List.ext_getElem
  · simp
  · intro i h1 h2
    simp [upto, List.getD_eq_getElem?_getD, List.getElem?_eq_getElem h2]
theorem upto_all (k : Int) (xs : List Int) : upto k xs xs.length = up k xs.length := by
  simp only [upto, up]
  apply List.map_congr_left
  intro i hi
  simp only [List.mem_range] at hi
  rw [if_pos hi]
theorem upto_set (k : Int) (xs : List Int) (j : Nat) : ((upto k xs j).map I).set j (I (k + j)) = (upto k xs (j + 1)).map I := by
  apply List.ext_getElem
  · simp
  · intro i h1 h2
    simp only [List.getElem_set, upto, List.getElem_map, List.getElem_range]
    by_cases h : j = i
    · subst h; simp
    · rw [if_neg h]
      by_cases h3 : i < j
      · rw [if_pos h3, if_pos (by omega)]
      · rw [if_neg h3, if_neg (by omega)]

def S_markI (pg : Pg) : Prop := ∀ (a : Option (List Int)) (k : Int), (lso a).length ≤ 1048576 → -1 ≤ k → k ≤ 4611686018427387904 → Call pg 12 [ownI a, I k] [ownI (a.map fun xs => up k xs.length), I k] (I (k + (lso a).length))
theorem t_markI {pg : Pg} (hp : pg.fn 12 = some c_laws_markInt64S) : S_markI pg := by
  intro a k ha h1 h2
  cases a with
  | none =>
    refine Call.intro hp rfl (by simp [ownI]) ?_
    show wp _ _ c_laws_markInt64S.body (post [.t 4] _ _ _) _
    simp [c_laws_markInt64S, ownI]
    refine wpLoop_count (fun j e => e = fr [(0, some (.val nil)), (1, some (.val (I k))), (5, some (.val (I 0)))]) 0 ?_ ?_ 0 _ (by omega) ?_
    · intro j e hj; omega
    · rintro e rfl
      simp
    · simp
  | some xs =>
    simp only [lso_some] at ha
    refine Call.intro_own hp rfl rfl ?_
    show wp _ _ c_laws_markInt64S.body (post [.t 4] _ _ _) _
    simp [c_laws_markInt64S, ownI]
    refine wpLoop_count (fun j e => e = fr [(0, some (.val (.mem .own (some 1) ((upto k xs j).map I)))), (1, some (.val (I (k + j)))), (5, some (.val (I j)))]) xs.length ?_ ?_ 0 _ (by omega) ?_
    · rintro j e hj rfl
      simp [hj]
      refine ⟨by omega, by omega, by omega, ?_⟩
      rw [upto_set]
      congr 4
      simp; omega
    · rintro e rfl
      simp [upto_all]
    · simp [upto_zero]

theorem S_markI.at {pg : Pg} (h : S_markI pg) (xs : List Int) (k : Int) (h1 : xs.length ≤ 1048576) (h2 : -1 ≤ k) (h3 : k ≤ 4611686018427387904) : Call pg 12 [.mem .own (some 1) (xs.map I), I k] [.mem .own (some 1) ((up k xs.length).map I), I k] (I (k + xs.length)) := h (some xs) k h1 h2 h3

/-- Rows of the frame's own, or nil. -/
def ownT : Option (List (List Int)) → T
  | none => nil
  | some xss => .mem .own (some 1) (rows xss)

/-- The mark at which row j begins. -/
def kAt (k : Int) (xss : List (List Int)) (j : Nat) : Int := k + ((xss.take j).map List.length).sum
def smallT (xss : List (List Int)) : Prop := xss.length ≤ 1048576 ∧ ∀ r ∈ xss, r.length ≤ 1048576

theorem kAt_zero (k : Int) (xss : List (List Int)) : kAt k xss 0 = k := by simp [kAt]
theorem kAt_succ (k : Int) (xss : List (List Int)) {j : Nat} (hj : j < xss.length) : kAt k xss (j + 1) = kAt k xss j + (xss[j]).length := by
  unfold kAt
  rw [List.take_succ_eq_append_getElem hj, List.map_append, List.sum_append]
  simp only [List.map_cons, List.map_nil, List.sum_cons, List.sum_nil, Int.natCast_add]
  omega
theorem kAt_le {k : Int} {xss : List (List Int)} (h : smallT xss) : ∀ j, j ≤ xss.length → k ≤ kAt k xss j ∧ kAt k xss j ≤ k + j * 1048576
  | 0, _ => by simp [kAt]
  | j + 1, hj => by
    have h1 := kAt_le (k := k) h j (by omega)
    have h2 := h.2 _ (List.getElem_mem (show j < xss.length by omega))
    rw [kAt_succ k xss (by omega)]
    simp only [Int.natCast_add]
    omega

def upT (k : Int) (xss : List (List Int)) : List (List Int) := (List.range xss.length).map fun j => up (kAt k xss j) (xss.getD j []).length
@[simp] theorem upT_length (k : Int) (xss : List (List Int)) : (upT k xss).length = xss.length := by simp [upT]
def uptoT (k : Int) (xss : List (List Int)) (j : Nat) : List (List Int) := (List.range xss.length).map fun i => if i < j then up (kAt k xss i) (xss.getD i []).length else xss.getD i []
@[simp] theorem uptoT_length (k : Int) (xss : List (List Int)) (j : Nat) : (uptoT k xss j).length = xss.length := by simp [uptoT]
theorem uptoT_zero (k : Int) (xss : List (List Int)) : uptoT k xss 0 = xss := by
  apply List.ext_getElem
  · simp
  · intro i h1 h2
    simp [uptoT, List.getD_eq_getElem?_getD, List.getElem?_eq_getElem h2]
theorem uptoT_all (k : Int) (xss : List (List Int)) : uptoT k xss xss.length = upT k xss := by
  simp only [uptoT, upT]
  apply List.map_congr_left
  intro i hi
  simp only [List.mem_range] at hi
  rw [if_pos hi]
theorem uptoT_get (k : Int) (xss : List (List Int)) {j : Nat} (hj : j < xss.length) : (uptoT k xss j)[j]'(by simpa using hj) = xss[j] := by
  simp [uptoT, List.getD_eq_getElem?_getD, List.getElem?_eq_getElem hj]
theorem uptoT_set (k : Int) (xss : List (List Int)) {j : Nat} (hj : j < xss.length) : (rows (uptoT k xss j)).set j (.mem .own (some 1) ((up (kAt k xss j) (xss[j]).length).map I)) = rows (uptoT k xss (j + 1)) := by
  apply List.ext_getElem
  · simp
  · intro i h1 h2
    simp only [rows, List.getElem_set, List.getElem_map, uptoT, List.getElem_range]
    have hi : i < xss.length := by simpa using h2
    by_cases h : j = i
    · subst h; simp [List.getD_eq_getElem?_getD, List.getElem?_eq_getElem hi]
    · rw [if_neg h]
      by_cases h3 : i < j
      · rw [if_pos h3, if_pos (by omega)]
      · rw [if_neg h3, if_neg (by omega)]

def heldL : List (List Int) → Int → Int
  | [], k => k
  | r :: rs, k => if held r k < 0 then -1 else heldL rs (held r k)

theorem heldL_up : ∀ (n : Nat) (xss : List (List Int)) (k : Int) (j : Nat), 0 ≤ k → j + n = xss.length → heldL ((upT k xss).drop j) (kAt k xss j) = kAt k xss xss.length
  | 0, xss, k, j, _, h => by
    have : j = xss.length := by omega
    subst this
    have : (upT k xss).drop xss.length = [] := by rw [List.drop_eq_nil_iff]; simp
    rw [this]; rfl
  | n + 1, xss, k, j, hk, h => by
    have hj : j < xss.length := by omega
    have hd : (upT k xss).drop j = (upT k xss)[j]'(by simpa using hj) :: (upT k xss).drop (j + 1) := List.drop_eq_getElem_cons (by simpa using hj)
    have hg : (upT k xss)[j]'(by simpa using hj) = up (kAt k xss j) (xss[j]).length := by
      simp [upT, List.getD_eq_getElem?_getD, List.getElem?_eq_getElem hj]
    have hp : 0 ≤ kAt k xss j := by unfold kAt; omega
    rw [hd, hg, heldL, held_up, if_neg (by omega), ← kAt_succ k xss hj]
    exact heldL_up n xss k (j + 1) hk (by omega)
theorem heldL_all (xss : List (List Int)) (k : Int) (hk : 0 ≤ k) : heldL (upT k xss) k = kAt k xss xss.length := by
  have := heldL_up xss.length xss k 0 hk (by omega)
  rwa [kAt_zero, List.drop_zero] at this

theorem held_le : ∀ (xs : List Int) (k : Int), -1 ≤ k → -1 ≤ held xs k ∧ held xs k ≤ k + xs.length
  | [], k, h => by simp [held]; exact h
  | x :: xs, k, h => by
    unfold held
    split
    · have := held_le xs (k + 1) (by omega)
      simp only [List.length_cons]
      omega
    · simp only [List.length_cons]; omega

def S_heldT (pg : Pg) : Prop := ∀ (a : Rw (Rw Int)) (k : Int), small a → -1 ≤ k → k ≤ 2305843009213693952 → Call pg 24 [rawT a, I k] [rawT a, I k] (I (heldL ((lst a).map lst) k))
theorem t_heldT {pg : Pg} (hp : pg.fn 24 = some c_laws_heldInt64SS) (h13 : S_heldI pg) : S_heldT pg := by
  intro a k ⟨ha, hr⟩ h1 h2
  refine Call.intro hp rfl (by simp) ?_
  show wp _ _ c_laws_heldInt64SS.body (post [.t 4] _ _ _) _
  simp [c_laws_heldInt64SS]
  refine wpLoop_count (fun j e => ∃ k' : Int, -1 ≤ k' ∧ k' ≤ k + j * 1048576 ∧ heldL (((lst a).map lst).drop j) k' = heldL ((lst a).map lst) k ∧ e = fr [(0, some (.val (rawT a))), (1, some (.val (I k'))), (5, some (.val (I j)))]) (lst a).length ?_ ?_ 0 _ (by omega) ?_
  · rintro j e hj ⟨k', g1, g2, g3, rfl⟩
    have hd : ((lst a).map lst).drop j = lst (lst a)[j] :: ((lst a).map lst).drop (j + 1) := by
      rw [List.drop_eq_getElem_cons (by simpa using hj)]; simp
    rw [hd, heldL] at g3
    have h3 := held_le (lst (lst a)[j]) k' g1
    have h4 := hr _ (List.getElem_mem hj)
    simp [hj]
    refine callR (h13 _ _ h4 g1 (by omega)) rfl rfl (fun _ => rfl) ?_
    by_cases hn : held (lst (lst a)[j]) k' < 0
    · simp [hn]
      rw [if_pos hn] at g3
      exact g3
    · simp [hn]
      rw [if_neg hn] at g3
      exact ⟨by omega, held (lst (lst a)[j]) k', by omega, by omega, g3, rfl⟩
  · rintro e ⟨k', g1, g2, g3, rfl⟩
    simp
    rw [List.drop_of_length_le (by simp)] at g3
    exact g3
  · exact ⟨k, h1, by simp, by simp, by simp⟩

def S_markT (pg : Pg) : Prop := ∀ (a : Option (List (List Int))) (k : Int), smallT (lso a) → 0 ≤ k → k ≤ 2305843009213693952 → Call pg 23 [ownT a, I k] [ownT (a.map (upT k)), I k] (I (kAt k (lso a) (lso a).length))
theorem t_markT {pg : Pg} (hp : pg.fn 23 = some c_laws_markInt64SS) (h12 : S_markI pg) : S_markT pg := by
  intro a k ha h1 h2
  cases a with
  | none =>
    refine Call.intro hp rfl (by simp [ownT]) ?_
    show wp _ _ c_laws_markInt64SS.body (post [.t 4] _ _ _) _
    simp [c_laws_markInt64SS, ownT]
    refine wpLoop_count (fun j e => e = fr [(0, some (.val nil)), (1, some (.val (I k))), (5, some (.val (I 0)))]) 0 ?_ ?_ 0 _ (by omega) ?_
    · intro j e hj; omega
    · rintro e rfl
      simp [kAt]
    · simp
  | some xss =>
    simp only [lso_some] at ha
    refine Call.intro_own hp rfl rfl ?_
    show wp _ _ c_laws_markInt64SS.body (post [.t 4] _ _ _) _
    simp [c_laws_markInt64SS, ownT]
    refine wpLoop_count (fun j e => e = fr [(0, some (.val (.mem .own (some 1) (rows (uptoT k xss j))))), (1, some (.val (I (kAt k xss j)))), (5, some (.val (I j)))]) xss.length ?_ ?_ 0 _ (by omega) ?_
    · rintro j e hj rfl
      have hle := kAt_le (k := k) ha j (by omega)
      have hr := ha.2 _ (List.getElem_mem hj)
      have hl := ha.1
      have hg : (rows (uptoT k xss j))[j]? = some (.mem .own (some 1) ((xss[j]).map I)) := by
        rw [rows_get, List.getElem?_eq_getElem (by simpa using hj), uptoT_get k xss hj]; rfl
      simp [hj, uptoT_get]
      refine callM (ts' := [.mem .own (some 1) ((up (kAt k xss j) (xss[j]).length).map I), I (kAt k xss j)]) (r := I (kAt k xss j + xss[j].length)) ?_ ?_ ?_ ?_
      · simp [hj]
      · simpa using h12.at xss[j] (kAt k xss j) hr (by omega) (by omega)
      · simp
      · simp [hj, uptoT_set]
        refine ⟨by omega, ?_⟩
        rw [kAt_succ k xss hj]
    · rintro e rfl
      simp [uptoT_all]
    · simp [uptoT_zero, kAt_zero]

theorem S_markT.at {pg : Pg} (h : S_markT pg) (xss : List (List Int)) (k : Int) (h1 : smallT xss) (h2 : 0 ≤ k) (h3 : k ≤ 2305843009213693952) : Call pg 23 [.mem .own (some 1) (rows xss), I k] [.mem .own (some 1) (rows (upT k xss)), I k] (I (kAt k xss xss.length)) := h (some xss) k h1 h2 h3
theorem S_markT.at0 {pg : Pg} (h : S_markT pg) (k : Int) (h2 : 0 ≤ k) (h3 : k ≤ 2305843009213693952) : Call pg 23 [nil, I k] [nil, I k] (I k) := by
  have := h none k (by simp [smallT]) h2 h3
  simpa [ownT, kAt] using this

def S_markSol (pg : Pg) : Prop := ∀ (xss yss : List (List Int)) (k : Int), smallT xss → smallT yss → 0 ≤ k → k ≤ 1152921504606846976 → Call pg 22 [.agg [.mem .own (some 1) (rows xss), .mem .own (some 1) (rows yss)], I k] [.agg [.mem .own (some 1) (rows (upT k xss)), .mem .own (some 1) (rows (upT (kAt k xss xss.length) yss))], I k] (I (kAt (kAt k xss xss.length) yss yss.length))
theorem t_markSol {pg : Pg} (hp : pg.fn 22 = some c_laws_markSolution) (h23 : S_markT pg) : S_markSol pg := by
  intro xss yss k ha hb h1 h2
  have hle := kAt_le (k := k) ha xss.length (by omega)
  have hxl := ha.1
  refine Call.intro_own hp rfl rfl ?_
  show wp _ _ c_laws_markSolution.body (post [.t 4] _ _ _) _
  simp [c_laws_markSolution]
  refine callM (ts' := [.mem .own (some 1) (rows (upT k xss)), I k]) (r := I (kAt k xss xss.length)) ?_ ?_ ?_ ?_
  · simp
  · simpa using h23.at xss k ha h1 (by omega)
  · simp
  · simp
    refine callM (ts' := [.mem .own (some 1) (rows (upT (kAt k xss xss.length) yss)), I (kAt k xss xss.length)]) (r := I (kAt (kAt k xss xss.length) yss yss.length)) ?_ ?_ ?_ ?_
    · simp
    · simpa using h23.at yss (kAt k xss xss.length) hb (by omega) (by omega)
    · simp
    · simp

end Go.Mch
/- Pair maps that are bijections and satisfy the equation. -/
namespace Go.Mch

/-- Two pairs, by number, that are led to the same one. -/
def coll (f s : List (List Int)) (a b : Nat) : Prop :=
  a ≠ b ∧ v2 f (a / f.length) (a % f.length) = v2 f (b / f.length) (b % f.length) ∧ v2 s (a / f.length) (a % f.length) = v2 s (b / f.length) (b % f.length)
def Inj (f s : List (List Int)) : Prop := ∀ a, a < f.length * f.length → ∀ b, b < f.length * f.length → ¬ coll f s a b
instance (f s : List (List Int)) (a b : Nat) : Decidable (coll f s a b) := by unfold coll; infer_instance
instance (f s : List (List Int)) : Decidable (Inj f s) := by unfold Inj; infer_instance

/-- What a pair map of tables has. -/
structure PM (f s : List (List Int)) : Prop where
  tf : Tab f
  ts : Tab s
  len : s.length = f.length
  pos : 0 < f.length
  small : f.length ≤ 12
theorem PM.of {f s : List (List Int)} (h : isPairMap f s) : PM f s := ⟨h.1.2.2, h.2.1.2.2, h.2.2.symm, h.1.1, h.1.2.1⟩

theorem dm_lt {n a : Nat} (h : a < n * n) : a / n < n ∧ a % n < n := by
  have hn : 0 < n := by
    rcases Nat.eq_zero_or_pos n with h0 | h0
    · subst h0; simp at h
    · exact h0
  exact ⟨Nat.div_lt_of_lt_mul h, Nat.mod_lt _ hn⟩

def S_coll57 (pg : Pg) : Prop := ∀ f s : List (List Int), PM f s → ∃ l : List Int, (l.length = 0 ↔ Inj f s) ∧ l.length ≤ 4 ∧ Call pg 57 [sol f s] [sol f s] (.mem .own (some 1) (l.map I))
set_option maxRecDepth 10000 in
theorem t_coll57 {pg : Pg} (hp : pg.fn 57 = some c_spec_l02Collision) : S_coll57 pg := by
  intro f s h
  have h0 := h.pos
  have h12 := h.small
  have h0' : f.length ≠ 0 := by omega
  have hsq : f.length * f.length ≤ 144 := Nat.mul_le_mul h12 h12
  have hsq' : ((f.length : Int) * f.length) ≤ 144 := by exact_mod_cast hsq
  have hsq0 : 0 ≤ ((f.length : Int) * f.length) := by exact_mod_cast Nat.zero_le _
  have fr' := fun x hx => h.tf.row (x := x) hx
  have sr' : ∀ x (hx : x < s.length), (s[x]).length = f.length := fun x hx => (h.ts.row hx).trans h.len
  have loop : ∀ (a b : Nat), a < f.length * f.length → b < f.length * f.length → coll f s a b → True := fun _ _ _ _ _ => trivial
  by_cases hex : ∃ a, a < f.length * f.length ∧ ∃ b, b < f.length * f.length ∧ coll f s a b
  · obtain ⟨a, ha, hb, hmin⟩ := least hex
    obtain ⟨b, hb, hc, hmin2⟩ := least hb
    have hni : ¬ Inj f s := fun hi => hi a ha b hb hc
    refine ⟨[((a / f.length : Nat) : Int), ((a % f.length : Nat) : Int), ((b / f.length : Nat) : Int), ((b % f.length : Nat) : Int)], by simp [hni], by simp, Call.intro hp rfl (by simp) ?_⟩
    show wp _ _ c_spec_l02Collision.body (post [.t 2] _ _ _) _
    simp [c_spec_l02Collision]
    refine wpLoop_count (fun k e => k ≤ a ∧ e = fr [(1, some (.val (.mem .own none [tb f, tb s]))), (3, some (.val (I f.length))), (4, some (.val (I k)))]) (f.length * f.length) ?_ ?_ 0 _ (by omega) ?_
    · rintro k e hk ⟨h1, rfl⟩
      have hk1 := dm_lt hk
      have hki : (k : Int) < (f.length : Int) * f.length := by exact_mod_cast hk
      have hq1 : 0 ≤ (k : Int) / f.length ∧ (k : Int) / f.length < f.length := ⟨by exact_mod_cast Nat.zero_le _, by exact_mod_cast hk1.1⟩
      have hr1 : 0 ≤ (k : Int) % f.length ∧ (k : Int) % f.length < f.length := ⟨by exact_mod_cast Nat.zero_le _, by exact_mod_cast hk1.2⟩
      have ht1 : ((k : Int) / f.length).toNat = k / f.length := by rw [← Int.natCast_ediv]; exact Int.toNat_natCast _
      have hu1 : ((k : Int) % f.length).toNat = k % f.length := by rw [← Int.natCast_emod]; exact Int.toNat_natCast _
      simp [hki]
      refine ⟨by omega, ?_⟩
      rcases Nat.lt_or_ge k a with hka | hka
      · refine wpLoop_count (fun j e => e = fr [(1, some (.val (.mem .own none [tb f, tb s]))), (3, some (.val (I f.length))), (4, some (.val (I k))), (5, some (.val (I j)))]) (f.length * f.length) ?_ ?_ 0 _ (by omega) ?_
        · rintro j e hj rfl
          have hj1 := dm_lt hj
          have hji : (j : Int) < (f.length : Int) * f.length := by exact_mod_cast hj
          have hq2 : 0 ≤ (j : Int) / f.length ∧ (j : Int) / f.length < f.length := ⟨by exact_mod_cast Nat.zero_le _, by exact_mod_cast hj1.1⟩
          have hr2 : 0 ≤ (j : Int) % f.length ∧ (j : Int) % f.length < f.length := ⟨by exact_mod_cast Nat.zero_le _, by exact_mod_cast hj1.2⟩
          have ht2 : ((j : Int) / f.length).toNat = j / f.length := by rw [← Int.natCast_ediv]; exact Int.toNat_natCast _
          have hu2 : ((j : Int) % f.length).toNat = j % f.length := by rw [← Int.natCast_emod]; exact Int.toNat_natCast _
          have hnc : ¬ coll f s k j := fun hcc => hmin k hka ⟨j, hj, hcc⟩
          by_cases hkj : k = j
          · subst hkj
            clear hj hj1 hnc
            simp [hji, h0', undefV]
            omega
          · have hkjI : (k : Int) ≠ j := by omega
            by_cases hv1 : v2 f (k / f.length) (k % f.length) = v2 f (j / f.length) (j % f.length)
            · by_cases hv2 : v2 s (k / f.length) (k % f.length) = v2 s (j / f.length) (j % f.length)
              · have hcc : coll f s k j := ⟨hkj, hv1, hv2⟩
                exact (hnc hcc).elim
              · simp [hkjI, hk1, hj1, hq1, hq2, hr1, hr2, ht1, ht2, hu1, hu2, hji, h0', fr', sr', h.len, get_v2, hv1, hv2]
                omega
            · simp [hkjI, hk1, hj1, hq1, hq2, hr1, hr2, ht1, ht2, hu1, hu2, hji, h0', fr', get_v2, undefV, hv1]
              omega
        · rintro e rfl
          simp
          omega
        · simp
      · have hka2 : k = a := by omega
        subst hka2
        refine wpLoop_count (fun j e => j ≤ b ∧ e = fr [(1, some (.val (.mem .own none [tb f, tb s]))), (3, some (.val (I f.length))), (4, some (.val (I k))), (5, some (.val (I j)))]) (f.length * f.length) ?_ ?_ 0 _ (by omega) ?_
        · rintro j e hj ⟨hjb, rfl⟩
          have hj1 := dm_lt hj
          have hji : (j : Int) < (f.length : Int) * f.length := by exact_mod_cast hj
          have hq2 : 0 ≤ (j : Int) / f.length ∧ (j : Int) / f.length < f.length := ⟨by exact_mod_cast Nat.zero_le _, by exact_mod_cast hj1.1⟩
          have hr2 : 0 ≤ (j : Int) % f.length ∧ (j : Int) % f.length < f.length := ⟨by exact_mod_cast Nat.zero_le _, by exact_mod_cast hj1.2⟩
          have ht2 : ((j : Int) / f.length).toNat = j / f.length := by rw [← Int.natCast_ediv]; exact Int.toNat_natCast _
          have hu2 : ((j : Int) % f.length).toNat = j % f.length := by rw [← Int.natCast_emod]; exact Int.toNat_natCast _
          rcases Nat.lt_or_ge j b with hlt | hge
          · have hnc : ¬ coll f s k j := hmin2 j hlt
            by_cases hkj : k = j
            · subst hkj
              clear hj hj1 hnc
              simp [hji, h0', undefV]
              omega
            · have hkjI : (k : Int) ≠ j := by omega
              by_cases hv1 : v2 f (k / f.length) (k % f.length) = v2 f (j / f.length) (j % f.length)
              · by_cases hv2 : v2 s (k / f.length) (k % f.length) = v2 s (j / f.length) (j % f.length)
                · have hcc : coll f s k j := ⟨hkj, hv1, hv2⟩
                  exact (hnc hcc).elim
                · simp [hkjI, hk1, hj1, hq1, hq2, hr1, hr2, ht1, ht2, hu1, hu2, hji, h0', fr', sr', h.len, get_v2, hv1, hv2]
                  omega
              · simp [hkjI, hk1, hj1, hq1, hq2, hr1, hr2, ht1, ht2, hu1, hu2, hji, h0', fr', get_v2, undefV, hv1]
                omega
          · have hjb2 : j = b := by omega
            subst hjb2
            obtain ⟨hkj, hv1, hv2⟩ := hc
            have hkjI : (k : Int) ≠ j := by omega
            simp [hkjI, hk1, hj1, hq1, hq2, hr1, hr2, ht1, ht2, hu1, hu2, hji, h0', fr', sr', h.len, get_v2, hv1, hv2]
            try omega
        · rintro e ⟨h1, rfl⟩
          omega
        · simp
    · rintro e ⟨h1, rfl⟩
      omega
    · simp
  · have hi : Inj f s := fun a ha b hb hc => hex ⟨a, ha, b, hb, hc⟩
    refine ⟨[], by simp [hi], by simp, Call.intro hp rfl (by simp) ?_⟩
    show wp _ _ c_spec_l02Collision.body (post [.t 2] _ _ _) _
    simp [c_spec_l02Collision]
    refine wpLoop_count (fun k e => e = fr [(1, some (.val (.mem .own none [tb f, tb s]))), (3, some (.val (I f.length))), (4, some (.val (I k)))]) (f.length * f.length) ?_ ?_ 0 _ (by omega) ?_
    · rintro k e hk rfl
      have hk1 := dm_lt hk
      have hki : (k : Int) < (f.length : Int) * f.length := by exact_mod_cast hk
      have hq1 : 0 ≤ (k : Int) / f.length ∧ (k : Int) / f.length < f.length := ⟨by exact_mod_cast Nat.zero_le _, by exact_mod_cast hk1.1⟩
      have hr1 : 0 ≤ (k : Int) % f.length ∧ (k : Int) % f.length < f.length := ⟨by exact_mod_cast Nat.zero_le _, by exact_mod_cast hk1.2⟩
      have ht1 : ((k : Int) / f.length).toNat = k / f.length := by rw [← Int.natCast_ediv]; exact Int.toNat_natCast _
      have hu1 : ((k : Int) % f.length).toNat = k % f.length := by rw [← Int.natCast_emod]; exact Int.toNat_natCast _
      simp [hki]
      refine ⟨by omega, ?_⟩
      refine wpLoop_count (fun j e => e = fr [(1, some (.val (.mem .own none [tb f, tb s]))), (3, some (.val (I f.length))), (4, some (.val (I k))), (5, some (.val (I j)))]) (f.length * f.length) ?_ ?_ 0 _ (by omega) ?_
      · rintro j e hj rfl
        have hj1 := dm_lt hj
        have hji : (j : Int) < (f.length : Int) * f.length := by exact_mod_cast hj
        have hq2 : 0 ≤ (j : Int) / f.length ∧ (j : Int) / f.length < f.length := ⟨by exact_mod_cast Nat.zero_le _, by exact_mod_cast hj1.1⟩
        have hr2 : 0 ≤ (j : Int) % f.length ∧ (j : Int) % f.length < f.length := ⟨by exact_mod_cast Nat.zero_le _, by exact_mod_cast hj1.2⟩
        have ht2 : ((j : Int) / f.length).toNat = j / f.length := by rw [← Int.natCast_ediv]; exact Int.toNat_natCast _
        have hu2 : ((j : Int) % f.length).toNat = j % f.length := by rw [← Int.natCast_emod]; exact Int.toNat_natCast _
        have hnc : ¬ coll f s k j := hi k hk j hj
        by_cases hkj : k = j
        · subst hkj
          clear hj hj1 hnc
          simp [hji, h0', undefV]
          omega
        · have hkjI : (k : Int) ≠ j := by omega
          by_cases hv1 : v2 f (k / f.length) (k % f.length) = v2 f (j / f.length) (j % f.length)
          · by_cases hv2 : v2 s (k / f.length) (k % f.length) = v2 s (j / f.length) (j % f.length)
            · have hcc : coll f s k j := ⟨hkj, hv1, hv2⟩
              exact (hnc hcc).elim
            · simp [hkjI, hk1, hj1, hq1, hq2, hr1, hr2, ht1, ht2, hu1, hu2, hji, h0', fr', sr', h.len, get_v2, hv1, hv2]
              omega
          · simp [hkjI, hk1, hj1, hq1, hq2, hr1, hr2, ht1, ht2, hu1, hu2, hji, h0', fr', get_v2, undefV, hv1]
            omega
      · rintro e rfl
        simp
        omega
      · simp
    · rintro e rfl
      simp
      try omega
    · simp

def S_coll60 (pg : Pg) : Prop := ∀ f s : List (List Int), PM f s → ∃ o : Option (List Int), (o = none ↔ Inj f s) ∧ Call pg 60 [sol f s] [sol f s] (ownI o)
set_option maxRecDepth 10000 in
theorem t_coll60 {pg : Pg} (hp : pg.fn 60 = some c_impl_collisionOf) : S_coll60 pg := by
  intro f s h
  have h0 := h.pos
  have h12 := h.small
  have h0' : f.length ≠ 0 := by omega
  have hsq : f.length * f.length ≤ 144 := Nat.mul_le_mul h12 h12
  have hsq' : ((f.length : Int) * f.length) ≤ 144 := by exact_mod_cast hsq
  have hsq0 : 0 ≤ ((f.length : Int) * f.length) := by exact_mod_cast Nat.zero_le _
  have fr' := fun x hx => h.tf.row (x := x) hx
  have sr' : ∀ x (hx : x < s.length), (s[x]).length = f.length := fun x hx => (h.ts.row hx).trans h.len
  have loop : ∀ (a b : Nat), a < f.length * f.length → b < f.length * f.length → coll f s a b → True := fun _ _ _ _ _ => trivial
  by_cases hex : ∃ a, a < f.length * f.length ∧ ∃ b, b < f.length * f.length ∧ coll f s a b
  · obtain ⟨a, ha, hb, hmin⟩ := least hex
    obtain ⟨b, hb, hc, hmin2⟩ := least hb
    have hni : ¬ Inj f s := fun hi => hi a ha b hb hc
    refine ⟨some [((a / f.length : Nat) : Int), ((a % f.length : Nat) : Int), ((b / f.length : Nat) : Int), ((b % f.length : Nat) : Int)], by simp [hni], Call.intro hp rfl (by simp) ?_⟩
    simp only [ownI]
    show wp _ _ c_impl_collisionOf.body (post [.t 2] _ _ _) _
    simp [c_impl_collisionOf]
    refine ⟨by omega, ?_⟩
    refine wpLoop_count (fun k e => k ≤ a ∧ e = fr [(1, some (.val (.mem .own none [tb f, tb s]))), (3, some (.val (I f.length))), (15, some (.val (I ((f.length : Int) * f.length)))), (16, some (.val (I k)))]) (f.length * f.length) ?_ ?_ 0 _ (by omega) ?_
    · rintro k e hk ⟨h1, rfl⟩
      have hk1 := dm_lt hk
      have hki : (k : Int) < (f.length : Int) * f.length := by exact_mod_cast hk
      have hq1 : 0 ≤ (k : Int) / f.length ∧ (k : Int) / f.length < f.length := ⟨by exact_mod_cast Nat.zero_le _, by exact_mod_cast hk1.1⟩
      have hr1 : 0 ≤ (k : Int) % f.length ∧ (k : Int) % f.length < f.length := ⟨by exact_mod_cast Nat.zero_le _, by exact_mod_cast hk1.2⟩
      have ht1 : ((k : Int) / f.length).toNat = k / f.length := by rw [← Int.natCast_ediv]; exact Int.toNat_natCast _
      have hu1 : ((k : Int) % f.length).toNat = k % f.length := by rw [← Int.natCast_emod]; exact Int.toNat_natCast _
      simp [hki, h0']
      refine ⟨by omega, by omega, ?_⟩
      rcases Nat.lt_or_ge k a with hka | hka
      · refine wpLoop_count (fun j e => e = fr [(1, some (.val (.mem .own none [tb f, tb s]))), (3, some (.val (I f.length))), (4, some (.val (I k))), (5, some (.val (I ((k / f.length : Nat) : Int)))), (6, some (.val (I ((k % f.length : Nat) : Int)))), (15, some (.val (I ((f.length : Int) * f.length)))), (16, some (.val (I k))), (27, some (.val (I ((f.length : Int) * f.length)))), (28, some (.val (I j)))]) (f.length * f.length) ?_ ?_ 0 _ (by omega) ?_
        · rintro j e hj rfl
          have hj1 := dm_lt hj
          have hji : (j : Int) < (f.length : Int) * f.length := by exact_mod_cast hj
          have hq2 : 0 ≤ (j : Int) / f.length ∧ (j : Int) / f.length < f.length := ⟨by exact_mod_cast Nat.zero_le _, by exact_mod_cast hj1.1⟩
          have hr2 : 0 ≤ (j : Int) % f.length ∧ (j : Int) % f.length < f.length := ⟨by exact_mod_cast Nat.zero_le _, by exact_mod_cast hj1.2⟩
          have ht2 : ((j : Int) / f.length).toNat = j / f.length := by rw [← Int.natCast_ediv]; exact Int.toNat_natCast _
          have hu2 : ((j : Int) % f.length).toNat = j % f.length := by rw [← Int.natCast_emod]; exact Int.toNat_natCast _
          have hnc : ¬ coll f s k j := fun hcc => hmin k hka ⟨j, hj, hcc⟩
          by_cases hkj : k = j
          · subst hkj
            clear hj hj1 hnc
            simp [hji, h0', undefV]
            omega
          · have hkjI : (k : Int) ≠ j := by omega
            by_cases hv1 : v2 f (k / f.length) (k % f.length) = v2 f (j / f.length) (j % f.length)
            · by_cases hv2 : v2 s (k / f.length) (k % f.length) = v2 s (j / f.length) (j % f.length)
              · have hcc : coll f s k j := ⟨hkj, hv1, hv2⟩
                exact (hnc hcc).elim
              · simp [hkjI, hk1, hj1, hq1, hq2, hr1, hr2, ht1, ht2, hu1, hu2, hji, h0', fr', sr', h.len, get_v2, hv1, hv2]
                omega
            · simp [hkjI, hk1, hj1, hq1, hq2, hr1, hr2, ht1, ht2, hu1, hu2, hji, h0', fr', get_v2, undefV, hv1]
              omega
        · rintro e rfl
          simp
          omega
        · simp
      · have hka2 : k = a := by omega
        subst hka2
        refine wpLoop_count (fun j e => j ≤ b ∧ e = fr [(1, some (.val (.mem .own none [tb f, tb s]))), (3, some (.val (I f.length))), (4, some (.val (I k))), (5, some (.val (I ((k / f.length : Nat) : Int)))), (6, some (.val (I ((k % f.length : Nat) : Int)))), (15, some (.val (I ((f.length : Int) * f.length)))), (16, some (.val (I k))), (27, some (.val (I ((f.length : Int) * f.length)))), (28, some (.val (I j)))]) (f.length * f.length) ?_ ?_ 0 _ (by omega) ?_
        · rintro j e hj ⟨hjb, rfl⟩
          have hj1 := dm_lt hj
          have hji : (j : Int) < (f.length : Int) * f.length := by exact_mod_cast hj
          have hq2 : 0 ≤ (j : Int) / f.length ∧ (j : Int) / f.length < f.length := ⟨by exact_mod_cast Nat.zero_le _, by exact_mod_cast hj1.1⟩
          have hr2 : 0 ≤ (j : Int) % f.length ∧ (j : Int) % f.length < f.length := ⟨by exact_mod_cast Nat.zero_le _, by exact_mod_cast hj1.2⟩
          have ht2 : ((j : Int) / f.length).toNat = j / f.length := by rw [← Int.natCast_ediv]; exact Int.toNat_natCast _
          have hu2 : ((j : Int) % f.length).toNat = j % f.length := by rw [← Int.natCast_emod]; exact Int.toNat_natCast _
          rcases Nat.lt_or_ge j b with hlt | hge
          · have hnc : ¬ coll f s k j := hmin2 j hlt
            by_cases hkj : k = j
            · subst hkj
              clear hj hj1 hnc
              simp [hji, h0', undefV]
              omega
            · have hkjI : (k : Int) ≠ j := by omega
              by_cases hv1 : v2 f (k / f.length) (k % f.length) = v2 f (j / f.length) (j % f.length)
              · by_cases hv2 : v2 s (k / f.length) (k % f.length) = v2 s (j / f.length) (j % f.length)
                · have hcc : coll f s k j := ⟨hkj, hv1, hv2⟩
                  exact (hnc hcc).elim
                · simp [hkjI, hk1, hj1, hq1, hq2, hr1, hr2, ht1, ht2, hu1, hu2, hji, h0', fr', sr', h.len, get_v2, hv1, hv2]
                  omega
              · simp [hkjI, hk1, hj1, hq1, hq2, hr1, hr2, ht1, ht2, hu1, hu2, hji, h0', fr', get_v2, undefV, hv1]
                omega
          · have hjb2 : j = b := by omega
            subst hjb2
            obtain ⟨hkj, hv1, hv2⟩ := hc
            have hkjI : (k : Int) ≠ j := by omega
            simp [hkjI, hk1, hj1, hq1, hq2, hr1, hr2, ht1, ht2, hu1, hu2, hji, h0', fr', sr', h.len, get_v2, hv1, hv2]
            try omega
        · rintro e ⟨h1, rfl⟩
          omega
        · simp
    · rintro e ⟨h1, rfl⟩
      omega
    · simp
  · have hi : Inj f s := fun a ha b hb hc => hex ⟨a, ha, b, hb, hc⟩
    refine ⟨none, by simp [hi], Call.intro hp rfl (by simp) ?_⟩
    simp only [ownI]
    show wp _ _ c_impl_collisionOf.body (post [.t 2] _ _ _) _
    simp [c_impl_collisionOf]
    refine ⟨by omega, ?_⟩
    refine wpLoop_count (fun k e => e = fr [(1, some (.val (.mem .own none [tb f, tb s]))), (3, some (.val (I f.length))), (15, some (.val (I ((f.length : Int) * f.length)))), (16, some (.val (I k)))]) (f.length * f.length) ?_ ?_ 0 _ (by omega) ?_
    · rintro k e hk rfl
      have hk1 := dm_lt hk
      have hki : (k : Int) < (f.length : Int) * f.length := by exact_mod_cast hk
      have hq1 : 0 ≤ (k : Int) / f.length ∧ (k : Int) / f.length < f.length := ⟨by exact_mod_cast Nat.zero_le _, by exact_mod_cast hk1.1⟩
      have hr1 : 0 ≤ (k : Int) % f.length ∧ (k : Int) % f.length < f.length := ⟨by exact_mod_cast Nat.zero_le _, by exact_mod_cast hk1.2⟩
      have ht1 : ((k : Int) / f.length).toNat = k / f.length := by rw [← Int.natCast_ediv]; exact Int.toNat_natCast _
      have hu1 : ((k : Int) % f.length).toNat = k % f.length := by rw [← Int.natCast_emod]; exact Int.toNat_natCast _
      simp [hki, h0']
      refine ⟨by omega, by omega, ?_⟩
      refine wpLoop_count (fun j e => e = fr [(1, some (.val (.mem .own none [tb f, tb s]))), (3, some (.val (I f.length))), (4, some (.val (I k))), (5, some (.val (I ((k / f.length : Nat) : Int)))), (6, some (.val (I ((k % f.length : Nat) : Int)))), (15, some (.val (I ((f.length : Int) * f.length)))), (16, some (.val (I k))), (27, some (.val (I ((f.length : Int) * f.length)))), (28, some (.val (I j)))]) (f.length * f.length) ?_ ?_ 0 _ (by omega) ?_
      · rintro j e hj rfl
        have hj1 := dm_lt hj
        have hji : (j : Int) < (f.length : Int) * f.length := by exact_mod_cast hj
        have hq2 : 0 ≤ (j : Int) / f.length ∧ (j : Int) / f.length < f.length := ⟨by exact_mod_cast Nat.zero_le _, by exact_mod_cast hj1.1⟩
        have hr2 : 0 ≤ (j : Int) % f.length ∧ (j : Int) % f.length < f.length := ⟨by exact_mod_cast Nat.zero_le _, by exact_mod_cast hj1.2⟩
        have ht2 : ((j : Int) / f.length).toNat = j / f.length := by rw [← Int.natCast_ediv]; exact Int.toNat_natCast _
        have hu2 : ((j : Int) % f.length).toNat = j % f.length := by rw [← Int.natCast_emod]; exact Int.toNat_natCast _
        have hnc : ¬ coll f s k j := hi k hk j hj
        by_cases hkj : k = j
        · subst hkj
          clear hj hj1 hnc
          simp [hji, h0', undefV]
          omega
        · have hkjI : (k : Int) ≠ j := by omega
          by_cases hv1 : v2 f (k / f.length) (k % f.length) = v2 f (j / f.length) (j % f.length)
          · by_cases hv2 : v2 s (k / f.length) (k % f.length) = v2 s (j / f.length) (j % f.length)
            · have hcc : coll f s k j := ⟨hkj, hv1, hv2⟩
              exact (hnc hcc).elim
            · simp [hkjI, hk1, hj1, hq1, hq2, hr1, hr2, ht1, ht2, hu1, hu2, hji, h0', fr', sr', h.len, get_v2, hv1, hv2]
              omega
          · simp [hkjI, hk1, hj1, hq1, hq2, hr1, hr2, ht1, ht2, hu1, hu2, hji, h0', fr', get_v2, undefV, hv1]
            omega
      · rintro e rfl
        simp
        omega
      · simp
    · rintro e rfl
      simp
      try omega
    · simp


end Go.Mch
/- The equation of solutions, as the reference and the program test it. -/
namespace Go.Mch

/-- The value of a table at numbers. -/
def g2 (t : List (List Int)) (x y : Int) : Int := v2 t x.toNat y.toNat
theorem get_g2 {t : List (List Int)} {x y : Int} (hx : x.toNat < t.length) (hy : y.toNat < (t[x.toNat]).length) : (t[x.toNat])[y.toNat] = g2 t x y := get_v2 hx hy
def inN (n : Nat) (w : List Int) : Prop := ∀ x ∈ w, 0 ≤ x ∧ x < n
theorem PM.gF {f s : List (List Int)} (h : PM f s) (x y : Int) : 0 ≤ g2 f x y ∧ g2 f x y < f.length := ⟨h.tf.nonneg _ _, h.tf.lt h.pos _ _⟩
theorem PM.gS {f s : List (List Int)} (h : PM f s) (x y : Int) : 0 ≤ g2 s x y ∧ g2 s x y < f.length := ⟨h.ts.nonneg _ _, by have := h.ts.lt (by rw [h.len]; exact h.pos) x.toNat y.toNat; rw [h.len] at this; exact this⟩

/-- A word, moved at a place. -/
def dW (f s : List (List Int)) (w : List Int) (i : Nat) : List Int :=
  (w.set i (g2 f (w.getD i 0) (w.getD (i + 1) 0))).set (i + 1) (g2 s (w.getD i 0) (w.getD (i + 1) 0))
@[simp] theorem dW_length (f s : List (List Int)) (w : List Int) (i : Nat) : (dW f s w i).length = w.length := by simp [dW]
theorem set_in {n : Nat} {w : List Int} (h : inN n w) {i : Nat} {v : Int} (hv : 0 ≤ v ∧ v < n) : inN n (w.set i v) := by
  intro x hx
  rcases List.mem_or_eq_of_mem_set hx with h1 | h1
  · exact h x h1
  · rw [h1]; exact hv
theorem dW_in {f s : List (List Int)} (h : PM f s) {w : List Int} (hw : inN f.length w) (i : Nat) : inN f.length (dW f s w i) := set_in (set_in hw (h.gF _ _)) (h.gS _ _)

def S_do (pg : Pg) (n : Nat) : Prop := ∀ (f s : List (List Int)) (w : List Int) (i : Nat), PM f s → i + 1 < w.length → w.length ≤ 1048576 → inN f.length w →
  Call pg n [sol f s, ix w, I i] [sol f s, ix w, I i] (.mem .own (some 1) ((dW f s w i).map I))
set_option maxRecDepth 10000 in
theorem do_of {pg : Pg} {n : Nat} (hp : pg.fn n = some c_spec_l02Do) (h31 : S_own pg) : S_do pg n := by
  intro f s w i h hi hl hw
  refine Call.intro hp rfl (by simp) ?_
  show wp _ _ c_spec_l02Do.body (post [.t 6] _ _ _) _
  have h1 := hw _ (List.getElem_mem (show i < w.length by omega))
  have h2 := hw _ (List.getElem_mem hi)
  have fr' := fun x hx => h.tf.row (x := x) hx
  have sr' : ∀ x (hx : x < s.length), (s[x]).length = f.length := fun x hx => (h.ts.row hx).trans h.len
  have hi0 : i < w.length := by omega
  have hiI : (i : Int) + 1 < w.length := by omega
  have e1 : ((i : Int) + 1).toNat = i + 1 := by omega
  have t1 : (w[i]).toNat < f.length := by omega
  have t2 : (w[i + 1]).toNat < f.length := by omega
  have hb : -9223372036854775808 ≤ (i : Int) + 1 ∧ (i : Int) + 1 ≤ 9223372036854775807 := by omega
  have hb0 : 0 ≤ (i : Int) + 1 := by omega
  simp [c_spec_l02Do]
  refine callR (h31 _ hl) rfl rfl (fun _ => by simp) ?_
  simp [hi, hb, hb0, hi0, hiI, e1, h1, h2, t1, t2, fr', sr', h.len, get_g2]
  refine ⟨by omega, by omega, ?_⟩
  simp [dW, hi0, hi]

/-- The equation at three numbers, and everywhere. -/
def ybAt (f s : List (List Int)) (x y z : Nat) : Prop := dW f s (dW f s (dW f s [(x : Int), y, z] 0) 1) 0 = dW f s (dW f s (dW f s [(x : Int), y, z] 1) 0) 1
def YB (f s : List (List Int)) : Prop := ∀ x y z : Nat, x < f.length → y < f.length → z < f.length → ybAt f s x y z
instance (f s : List (List Int)) (x y z : Nat) : Decidable (ybAt f s x y z) := by unfold ybAt; infer_instance

theorem first3 (P : Nat → Nat → Nat → Prop) (n : Nat) : (∀ x y z, x < n → y < n → z < n → ¬ P x y z) ∨
    ∃ a b c, a < n ∧ b < n ∧ c < n ∧ P a b c ∧ ∀ x y z, x < n → y < n → z < n → P x y z → a < x ∨ (a = x ∧ (b < y ∨ (b = y ∧ c ≤ z))) := by
  by_cases h : ∃ a, a < n ∧ ∃ b, b < n ∧ ∃ c, c < n ∧ P a b c
  · right
    obtain ⟨a, ha, hb, h1⟩ := least h
    obtain ⟨b, hb, hc, h2⟩ := least hb
    obtain ⟨c, hc, hp, h3⟩ := least hc
    refine ⟨a, b, c, ha, hb, hc, hp, fun x y z hx hy hz hq => ?_⟩
    rcases Nat.lt_trichotomy a x with g | g | g
    · exact .inl g
    · subst g
      right
      refine ⟨rfl, ?_⟩
      rcases Nat.lt_trichotomy b y with g | g | g
      · exact .inl g
      · subst g
        right
        refine ⟨rfl, ?_⟩
        rcases Nat.lt_or_ge z c with g | g
        · exact absurd hq (h3 z g)
        · exact g
      · exact absurd ⟨z, hz, hq⟩ (h2 y g)
    · exact absurd ⟨y, hy, z, hz, hq⟩ (h1 x g)
  · left
    intro x y z hx hy hz hp
    exact h ⟨x, hx, y, hy, z, hz, hp⟩

/-- The first three numbers at which the equation fails; or the size, where it holds. -/
theorem fault (f s : List (List Int)) : ∃ (a b c : Nat) (l : List Int), (l.length = 0 ↔ YB f s) ∧ (a < f.length → l = [(a : Int), b, c] ∧ b < f.length ∧ c < f.length ∧ ¬ ybAt f s a b c) ∧ (¬ a < f.length → a = f.length ∧ l = []) ∧ l.length ≤ 3 ∧
    ∀ x y z, x < f.length → y < f.length → z < f.length → ¬ ybAt f s x y z → a < x ∨ (a = x ∧ (b < y ∨ (b = y ∧ c ≤ z))) := by
  rcases first3 (fun x y z => ¬ ybAt f s x y z) f.length with h | ⟨a, b, c, ha, hb, hc, hp, h⟩
  · refine ⟨f.length, 0, 0, [], ⟨fun _ x y z hx hy hz => ?_, fun _ => rfl⟩, fun h => absurd h (Nat.lt_irrefl _), fun _ => ⟨rfl, rfl⟩, by simp, fun x y z hx hy hz hn => absurd hn (h x y z hx hy hz)⟩
    exact Decidable.of_not_not (h x y z hx hy hz)
  · exact ⟨a, b, c, [(a : Int), b, c], ⟨fun h => by simp at h, fun h => absurd (h a b c ha hb hc) hp⟩, fun _ => ⟨rfl, hb, hc, hp⟩, fun h => absurd ha h, by simp, h⟩

def S_fault58 (pg : Pg) : Prop := ∀ f s : List (List Int), PM f s → ∃ l : List Int, (l.length = 0 ↔ YB f s) ∧ l.length ≤ 3 ∧ Call pg 58 [sol f s] [sol f s] (.mem .own (some 1) (l.map I))

theorem w3_in {n x y z : Nat} (hx : x < n) (hy : y < n) (hz : z < n) : inN n [(x : Int), y, z] := by
  intro v hv
  simp at hv
  omega

set_option maxRecDepth 10000 in
theorem t_fault58 {pg : Pg} (hp : pg.fn 58 = some c_spec_l02Fault) (h68 : S_do pg 68) (h67 : S_same pg) : S_fault58 pg := by
  intro f s h
  obtain ⟨a, b, c, l, hl, hf1, hf2, hf3, hmin⟩ := fault f s
  have h0 := h.pos
  have h12 := h.small
  refine ⟨l, hl, hf3, Call.intro hp rfl (by simp) ?_⟩
  show wp _ _ c_spec_l02Fault.body (post [.t 2] _ _ _) _
  simp [c_spec_l02Fault]
  refine wpLoop_count (fun x e => x ≤ a ∧ e = fr [(1, some (.val (.mem .own none [tb f, tb s]))), (3, some (.val (I f.length))), (4, some (.val (I x)))]) f.length ?_ ?_ 0 _ (by omega) ?_
  · rintro x e hx ⟨hxa, rfl⟩
    simp [hx]
    refine wpLoop_count (fun y e => (x = a → y ≤ b) ∧ e = fr [(1, some (.val (.mem .own none [tb f, tb s]))), (3, some (.val (I f.length))), (4, some (.val (I x))), (5, some (.val (I y)))]) f.length ?_ ?_ 0 _ (by omega) ?_
    · rintro y e hy ⟨hyb, rfl⟩
      simp [hy]
      refine wpLoop_count (fun z e => (x = a → y = b → z ≤ c) ∧ e = fr [(1, some (.val (.mem .own none [tb f, tb s]))), (3, some (.val (I f.length))), (4, some (.val (I x))), (5, some (.val (I y))), (6, some (.val (I z)))]) f.length ?_ ?_ 0 _ (by omega) ?_
      · rintro z e hz ⟨hzc, rfl⟩
        have hw := w3_in hx hy hz
        have d1 := dW_in h hw 0
        have d2 := dW_in h d1 1
        have d3 := dW_in h hw 1
        have d4 := dW_in h d3 0
        simp [hz]
        refine callR (h68 f s [(x : Int), y, z] 0 h (by simp) (by simp) hw) rfl rfl (fun _ => by simp) ?_
        simp
        refine callR (h68 f s _ 1 h (by simp) (by simp) d1) rfl rfl (fun _ => by simp) ?_
        simp
        refine callR (h68 f s _ 0 h (by simp) (by simp) d2) rfl rfl (fun _ => by simp) ?_
        simp
        refine callR (h68 f s [(x : Int), y, z] 1 h (by simp) (by simp) hw) rfl rfl (fun _ => by simp) ?_
        simp
        refine callR (h68 f s _ 0 h (by simp) (by simp) d3) rfl rfl (fun _ => by simp) ?_
        simp
        refine callR (h68 f s _ 1 h (by simp) (by simp) d4) rfl rfl (fun _ => by simp) ?_
        simp
        refine callR (h67 _ _ (by simp)) rfl rfl (fun _ => rfl) ?_
        by_cases hy2 : ybAt f s x y z
        · have hy3 := hy2
          unfold ybAt at hy3
          simp [hy3]
          have : ¬ (x = a ∧ y = b ∧ z = c) := fun ⟨e1, e2, e3⟩ => by
            subst e1 e2 e3
            exact (hf1 hx).2.2.2 hy2
          omega
        · have hy3 := hy2
          unfold ybAt at hy3
          have := hmin x y z hx hy hz hy2
          have e1 : x = a := by omega
          subst e1
          have e2 : y = b := by have := hyb rfl; omega
          subst e2
          have e3 : z = c := by have := hzc rfl rfl; omega
          subst e3
          simp [hy3, (hf1 hx).1]
      · rintro e ⟨hzc, rfl⟩
        simp
        have : ¬ (x = a ∧ y = b) := fun ⟨e1, e2⟩ => by
          have := hzc e1 e2
          have := (hf1 (by omega)).2.2.1
          omega
        omega
      · simp
    · rintro e ⟨hyb, rfl⟩
      simp
      have : ¬ x = a := fun e1 => by
        have := hyb e1
        have := (hf1 (by omega)).2.1
        omega
      omega
    · simp
  · rintro e ⟨h1, rfl⟩
    simp [(hf2 (by omega)).2]
  · simp

theorem yb_v2 (f s : List (List Int)) (x y z : Nat) : ybAt f s x y z ↔
    (v2 f (v2 f x y).toNat (v2 f (v2 s x y).toNat z).toNat = v2 f x (v2 f y z).toNat ∧
     v2 s (v2 f x y).toNat (v2 f (v2 s x y).toNat z).toNat = v2 f (v2 s x (v2 f y z).toNat).toNat (v2 s y z).toNat ∧
     v2 s (v2 s x y).toNat z = v2 s (v2 s x (v2 f y z).toNat).toNat (v2 s y z).toNat) := by
  simp [ybAt, dW, g2]

def S_fault61 (pg : Pg) : Prop := ∀ f s : List (List Int), PM f s → ∃ o : Option (List Int), (o = none ↔ YB f s) ∧ Call pg 61 [sol f s] [sol f s] (ownI o)
set_option maxRecDepth 10000 in
theorem t_fault61 {pg : Pg} (hp : pg.fn 61 = some c_impl_equationFault) : S_fault61 pg := by
  intro f s h
  obtain ⟨a, b, c, l, hl, hf1, hf2, hf3, hmin⟩ := fault f s
  have h0 := h.pos
  have h12 := h.small
  have fr' := fun x hx => h.tf.row (x := x) hx
  have sr' : ∀ x (hx : x < s.length), (s[x]).length = f.length := fun x hx => (h.ts.row hx).trans h.len
  have hF0 : ∀ i j, 0 ≤ v2 f i j := h.tf.nonneg
  have hF1 : ∀ i j, v2 f i j < f.length := h.tf.lt h0
  have hF2 : ∀ i j, (v2 f i j).toNat < f.length := h.tf.ltN h0
  have hS0 : ∀ i j, 0 ≤ v2 s i j := h.ts.nonneg
  have hS1 : ∀ i j, v2 s i j < f.length := fun i j => by have := h.ts.lt (by rw [h.len]; exact h0) i j; rw [h.len] at this; exact this
  have hS2 : ∀ i j, (v2 s i j).toNat < f.length := fun i j => by have := hS0 i j; have := hS1 i j; omega
  refine ⟨if a < f.length then some l else none, ?_, Call.intro hp rfl (by simp) ?_⟩
  · by_cases ha : a < f.length
    · have h1 := (hf1 ha).1
      rw [← hl, if_pos ha, h1]
      simp
    · have h1 := (hf2 ha).2
      rw [← hl, if_neg ha, h1]
      simp
  show wp _ _ c_impl_equationFault.body (post [.t 2] _ _ _) _
  simp [c_impl_equationFault]
  refine wpLoop_count (fun x e => x ≤ a ∧ e = fr [(1, some (.val (.mem .own none [tb f, tb s]))), (3, some (.val (I f.length))), (16, some (.val (I f.length))), (17, some (.val (I x)))]) f.length ?_ ?_ 0 _ (by omega) ?_
  · rintro x e hx ⟨hxa, rfl⟩
    simp [hx]
    refine wpLoop_count (fun y e => (x = a → y ≤ b) ∧ e = fr [(1, some (.val (.mem .own none [tb f, tb s]))), (3, some (.val (I f.length))), (4, some (.val (I x))), (16, some (.val (I f.length))), (17, some (.val (I x))), (20, some (.val (I f.length))), (21, some (.val (I y)))]) f.length ?_ ?_ 0 _ (by omega) ?_
    · rintro y e hy ⟨hyb, rfl⟩
      simp [hy]
      refine wpLoop_count (fun z e => (x = a → y = b → z ≤ c) ∧ e = fr [(1, some (.val (.mem .own none [tb f, tb s]))), (3, some (.val (I f.length))), (4, some (.val (I x))), (5, some (.val (I y))), (16, some (.val (I f.length))), (17, some (.val (I x))), (20, some (.val (I f.length))), (21, some (.val (I y))), (24, some (.val (I f.length))), (25, some (.val (I z)))]) f.length ?_ ?_ 0 _ (by omega) ?_
      · rintro z e hz ⟨hzc, rfl⟩
        have hyb2 := yb_v2 f s x y z
        simp [hx, hy, hz, fr', sr', h.len, get_v2, hF0, hF1, hF2, hS0, hS1, hS2]
        have bad : ¬ ybAt f s x y z → x = a ∧ y = b ∧ z = c := fun hn => by
          have := hmin x y z hx hy hz hn
          have e1 : x = a := by omega
          have e2 : y = b := by have := hyb e1; omega
          have e3 : z = c := by have := hzc e1 e2; omega
          exact ⟨e1, e2, e3⟩
        by_cases e1 : v2 f (v2 f x y).toNat (v2 f (v2 s x y).toNat z).toNat = v2 f x (v2 f y z).toNat
        · by_cases e2 : v2 s (v2 f x y).toNat (v2 f (v2 s x y).toNat z).toNat = v2 f (v2 s x (v2 f y z).toNat).toNat (v2 s y z).toNat
          · by_cases e3 : v2 s (v2 s x y).toNat z = v2 s (v2 s x (v2 f y z).toNat).toNat (v2 s y z).toNat
            · simp [e1, e2, e3]
              have : ¬ (x = a ∧ y = b ∧ z = c) := fun ⟨g1, g2, g3⟩ => by
                subst g1 g2 g3
                exact (hf1 hx).2.2.2 (hyb2.2 ⟨e1, e2, e3⟩)
              omega
            · obtain ⟨g1, g2, g3⟩ := bad fun hh => e3 (hyb2.1 hh).2.2
              subst g1 g2 g3
              simp [e1, e2, e3, hx, (hf1 hx).1, ownI]
          · obtain ⟨g1, g2, g3⟩ := bad fun hh => e2 (hyb2.1 hh).2.1
            subst g1 g2 g3
            simp [e1, e2, undefV, hx, (hf1 hx).1, ownI]
        · obtain ⟨g1, g2, g3⟩ := bad fun hh => e1 (hyb2.1 hh).1
          subst g1 g2 g3
          simp [e1, undefV, hx, (hf1 hx).1, ownI]
      · rintro e ⟨hzc, rfl⟩
        simp
        have : ¬ (x = a ∧ y = b) := fun ⟨e1, e2⟩ => by
          have := hzc e1 e2
          have := (hf1 (by omega)).2.2.1
          omega
        omega
      · simp
    · rintro e ⟨hyb, rfl⟩
      simp
      have : ¬ x = a := fun e1 => by
        have := hyb e1
        have := (hf1 (by omega)).2.1
        omega
      omega
    · simp
  · rintro e ⟨h1, rfl⟩
    have h2 : ¬ a < f.length := by omega
    simp [h2, ownI]
  · simp

def isSol (f s : List (List Int)) : Prop := isPairMap f s ∧ Inj f s ∧ YB f s

/-- A sentence that is decided somehow. -/
noncomputable def dec (p : Prop) : Bool := @decide p (Classical.propDecidable p)
theorem dec_true {p : Prop} (h : p) : dec p = true := by simp [dec, h]
theorem dec_false {p : Prop} (h : ¬ p) : dec p = false := by simp [dec, h]

def S_isSol (pg : Pg) (n : Nat) : Prop := ∀ f s : List (List Int), fits f → fits s → Call pg n [sol f s] [sol f s] (B (dec (isSol f s)))
theorem t_l02Is {pg : Pg} (hp : pg.fn 41 = some c_spec_l02Is) (h56 : S_pairMap pg 56) (h57 : S_coll57 pg) (h58 : S_fault58 pg) : S_isSol pg 41 := by
  intro f s hf hs
  refine Call.intro hp rfl (by simp) ?_
  show wp _ _ c_spec_l02Is.body (post [.t 2] _ _ _) _
  simp [c_spec_l02Is]
  refine callR (h56 f s hf hs) rfl rfl (fun _ => rfl) ?_
  by_cases h1 : isPairMap f s
  · have hpm := PM.of h1
    obtain ⟨l, hl, hl2, hc⟩ := h57 f s hpm
    simp [h1]
    refine callR hc rfl rfl (fun _ => by simp) ?_
    by_cases h2 : Inj f s
    · have h3 := hl.2 h2
      obtain ⟨l2, hm, hm2, hc2⟩ := h58 f s hpm
      simp [h3]
      refine callR hc2 rfl rfl (fun _ => by simp) ?_
      by_cases h4 : YB f s
      · have h5 := hm.2 h4
        simp [h5, dec_true (show isSol f s from ⟨h1, h2, h4⟩)]
      · have h5 : ¬ l2.length = 0 := fun h => h4 (hm.1 h)
        have h6 : ¬ ((l2.length : Nat) : Int) = 0 := by omega
        simp [h5, dec_false (show ¬ isSol f s from fun h => h4 h.2.2)]
    · have h3 : ¬ l.length = 0 := fun h => h2 (hl.1 h)
      have h6 : ¬ ((l.length : Nat) : Int) = 0 := by omega
      simp [h3, undefV, dec_false (show ¬ isSol f s from fun h => h2 h.2.1)]
  · simp [h1, undefV, dec_false (show ¬ isSol f s from fun h => h1 h.1)]

theorem t_IsSolution {pg : Pg} (hp : pg.fn 42 = some c_impl_IsSolution) (h59 : S_pairMap pg 59) (h60 : S_coll60 pg) (h61 : S_fault61 pg) : S_isSol pg 42 := by
  intro f s hf hs
  refine Call.intro hp rfl (by simp) ?_
  show wp _ _ c_impl_IsSolution.body (post [.t 2] _ _ _) _
  simp [c_impl_IsSolution]
  refine callR (h59 f s hf hs) rfl rfl (fun _ => rfl) ?_
  by_cases h1 : isPairMap f s
  · have hpm := PM.of h1
    obtain ⟨l, hl, hc⟩ := h60 f s hpm
    simp [h1]
    refine callR hc rfl rfl (fun _ => by cases l <;> simp [ownI]) ?_
    by_cases h2 : Inj f s
    · have h3 := hl.2 h2
      subst h3
      obtain ⟨l2, hm, hc2⟩ := h61 f s hpm
      simp [ownI]
      refine callR hc2 rfl rfl (fun _ => by cases l2 <;> simp [ownI]) ?_
      by_cases h4 : YB f s
      · have h5 := hm.2 h4
        subst h5
        simp [ownI, dec_true (show isSol f s from ⟨h1, h2, h4⟩)]
      · cases l2 with
        | none => exact absurd (hm.1 rfl) h4
        | some l2 => simp [ownI, dec_false (show ¬ isSol f s from fun h => h4 h.2.2)]
    · cases l with
      | none => exact absurd (hl.1 rfl) h2
      | some l => simp [ownI, undefV, dec_false (show ¬ isSol f s from fun h => h2 h.2.1)]
  · simp [h1, undefV, dec_false (show ¬ isSol f s from fun h => h1 h.1)]
end Go.Mch
/- FixedPairs, of the reference and of the program. -/
namespace Go.Mch

theorem rows_append (a b : List (List Int)) : rows (a ++ b) = rows a ++ rows b := by simp [rows]

end Go.Mch
/- The law of FixedPairs. -/
namespace Go.Mch

/-- An own table or nil, as one that is only read. -/
def eT : Option (List (List Int)) → T
  | none => nil
  | some X => tb X
def ryT (o : Option (List (List Int))) : Rw (Rw Int) := Rw.ofO (o.map fun X => X.map .of)
theorem rawT_ry (o : Option (List (List Int))) : rawT (ryT o) = eT o := by
  cases o with
  | none => rfl
  | some X => exact rawT_tb X
theorem map_lst_of {α : Type} (X : List (List α)) : (X.map Rw.of).map lst = X := by simp [Function.comp_def]
theorem lst_ry (o : Option (List (List Int))) : (lst (ryT o)).map lst = lso o := by
  cases o with
  | none => rfl
  | some X => exact map_lst_of X
theorem small_ry {o : Option (List (List Int))} (h : smallT (lso o)) : small (ryT o) := by
  cases o with
  | none => exact ⟨by simp [ryT, Rw.ofO, lst], by simp [ryT, Rw.ofO, lst]⟩
  | some X => exact ⟨by simpa [ryT, Rw.ofO] using h.1, by simpa [ryT, Rw.ofO] using h.2⟩
theorem S_eqT.o {pg : Pg} (h : S_eqT pg) (o o' : Option (List (List Int))) (hs : smallT (lso o)) : Call pg 21 [eT o, eT o'] [eT o, eT o'] (B (decide (lso o = lso o'))) := by
  have := h (ryT o) (ryT o') (small_ry hs)
  simp only [rawT_ry, lst_ry] at this
  exact this
theorem S_heldT.o {pg : Pg} (h : S_heldT pg) (o : Option (List (List Int))) (k : Int) (hs : smallT (lso o)) (h1 : -1 ≤ k) (h2 : k ≤ 2305843009213693952) : Call pg 24 [eT o, I k] [eT o, I k] (I (heldL (lso o) k)) := by
  have := h (ryT o) k (small_ry hs) h1 h2
  simp only [rawT_ry, lst_ry] at this
  exact this
theorem S_eqSol.o {pg : Pg} (h : S_eqSol pg) (X Y Z W : List (List Int)) (hX : smallT X) (hY : smallT Y) : Call pg 18 [.agg [tb X, tb Y], .agg [tb Z, tb W]] [.agg [tb X, tb Y], .agg [tb Z, tb W]] (B (decide (X = Z ∧ Y = W))) := by
  have := h (ryT (some X)) (ryT (some Y)) (ryT (some Z)) (ryT (some W)) (small_ry hX) (small_ry hY)
  simp only [rawT_ry, lst_ry] at this
  exact this

theorem fitsT_of {a : Rw (Rw Int)} (h : small a) : fits ((lst a).map lst) := ⟨by simpa using h.1, by simpa using h.2⟩
theorem upT_small {X : List (List Int)} (h : smallT X) (k : Int) : smallT (upT k X) := by
  refine ⟨by simpa [upT] using h.1, fun r hr => ?_⟩
  simp only [upT, List.mem_map, List.mem_range] at hr
  obtain ⟨j, hj, rfl⟩ := hr
  rw [up_length]
  have := h.2 X[j] (List.getElem_mem hj)
  simpa [List.getD_eq_getElem?_getD, hj] using this

end Go.Mch
/- TupleMove, of the reference and of the program. -/
namespace Go.Mch

def S_elements (pg : Pg) : Prop := ∀ (n : Int) (xs : List Int), xs.length ≤ 1048576 → 0 ≤ n → n ≤ 1048576 → Call pg 49 [I n, ix xs] [I n, ix xs] (B (decide (inR 0 (n - 1) xs)))
theorem t_elements {pg : Pg} (hp : pg.fn 49 = some c_spec_l04Elements) (h30 : S_in pg 30) : S_elements pg := by
  intro n xs hl hn hn2
  refine Call.intro hp rfl (by simp) ?_
  show wp _ _ c_spec_l04Elements.body (post [.t 4] _ _ _) _
  simp [c_spec_l04Elements]
  refine wpLoop_count (fun k e => (∀ i (h : i < xs.length), i < k → 0 ≤ xs[i] ∧ xs[i] ≤ n - 1) ∧ e = fr [(0, some (.val (I n))), (1, some (.val (ix xs))), (5, some (.val (I k)))]) xs.length ?_ ?_ 0 _ (by omega) ?_
  · rintro k e hk ⟨h1, rfl⟩
    simp [hk]
    refine ⟨by omega, ?_⟩
    refine callR (h30 _ _ _) rfl rfl (fun _ => rfl) ?_
    by_cases hm : 0 ≤ xs[k] ∧ xs[k] ≤ n - 1
    · simp [hm]
      refine ⟨by omega, fun i hi hik => ?_⟩
      rcases Nat.lt_or_ge i k with h2 | h2
      · exact h1 i hi h2
      · have : i = k := by omega
        subst this; exact hm
    · have : ¬ inR 0 (n - 1) xs := fun h => hm (h _ (List.getElem_mem hk))
      simp [hm, this]
  · rintro e ⟨h1, rfl⟩
    have : inR 0 (n - 1) xs := fun x hx => by
      obtain ⟨i, hi, rfl⟩ := List.getElem_of_mem hx
      exact h1 i hi hi
    simp [this]
  · simp

def isTup (n : Int) (xs : List Int) : Prop := xs.length ≤ 12 ∧ inR 0 (n - 1) xs
instance (n : Int) (xs : List Int) : Decidable (isTup n xs) := by unfold isTup; infer_instance
def S_tuple (pg : Pg) (f : Nat) : Prop := ∀ (n : Int) (xs : List Int), xs.length ≤ 1048576 → 0 ≤ n → n ≤ 1048576 → Call pg f [I n, ix xs] [I n, ix xs] (B (decide (isTup n xs)))
theorem t_l06Tuple {pg : Pg} (hp : pg.fn 29 = some c_spec_l06Tuple) (h49 : S_elements pg) : S_tuple pg 29 := by
  intro n xs hl hn hn2
  refine Call.intro hp rfl (by simp) ?_
  show wp _ _ c_spec_l06Tuple.body (post [.t 4] _ _ _) _
  simp [c_spec_l06Tuple]
  by_cases h1 : xs.length ≤ 12
  · have h1' : (xs.length : Int) ≤ 12 := by omega
    simp [h1']
    refine callR (h49 n xs hl hn hn2) rfl rfl (fun _ => rfl) ?_
    simp [isTup, h1]
  · have h1' : ¬ (xs.length : Int) ≤ 12 := by omega
    simp [h1', isTup, h1, undefV]
theorem t_isTuple {pg : Pg} (hp : pg.fn 34 = some c_impl_isTuple) (h39 : S_areElements pg) : S_tuple pg 34 := by
  intro n xs hl hn hn2
  refine Call.intro hp rfl (by simp) ?_
  show wp _ _ c_impl_isTuple.body (post [.t 4] _ _ _) _
  simp [c_impl_isTuple]
  by_cases h1 : xs.length ≤ 12
  · have h1' : (xs.length : Int) ≤ 12 := by omega
    simp [h1']
    refine callR (h39 n xs hl hn hn2) rfl rfl (fun _ => rfl) ?_
    simp [isTup, h1]
  · have h1' : ¬ (xs.length : Int) ≤ 12 := by omega
    simp [h1', isTup, h1, undefV]

def S_clone (pg : Pg) : Prop := ∀ xs : List Int, xs.length ≤ 1048576 → Call pg 36 [ix xs] [ix xs] (.mem .own (some 1) (xs.map I))
theorem t_clone {pg : Pg} (hp : pg.fn 36 = some c_slices_Clone___int64_int64_) : S_clone pg := by
  intro xs hl
  refine Call.intro hp rfl (by simp) ?_
  show wp _ _ c_slices_Clone___int64_int64_.body (post [.t 2] _ _ _) _
  simp [c_slices_Clone___int64_int64_, roomy]
  omega

set_option maxRecDepth 10000 in
theorem t_moved {pg : Pg} (hp : pg.fn 44 = some c_impl_moved) (h36 : S_clone pg) : S_do pg 44 := by
  intro f s w i h hi hl hw
  refine Call.intro hp rfl (by simp) ?_
  show wp _ _ c_impl_moved.body (post [.t 6] _ _ _) _
  have h1 := hw _ (List.getElem_mem (show i < w.length by omega))
  have h2 := hw _ (List.getElem_mem hi)
  have fr' := fun x hx => h.tf.row (x := x) hx
  have sr' : ∀ x (hx : x < s.length), (s[x]).length = f.length := fun x hx => (h.ts.row hx).trans h.len
  have hi0 : i < w.length := by omega
  have hiI : (i : Int) + 1 < w.length := by omega
  have e1 : ((i : Int) + 1).toNat = i + 1 := by omega
  have t1 : (w[i]).toNat < f.length := by omega
  have t2 : (w[i + 1]).toNat < f.length := by omega
  have hb : -9223372036854775808 ≤ (i : Int) + 1 ∧ (i : Int) + 1 ≤ 9223372036854775807 := by omega
  have hb0 : 0 ≤ (i : Int) + 1 := by omega
  simp [c_impl_moved]
  refine callR (h36 _ hl) rfl rfl (fun _ => by simp) ?_
  simp [hi, hb, hb0, hi0, hiI, e1, h1, h2, t1, t2, fr', sr', h.len, get_g2]
  refine ⟨by omega, ?_⟩
  simp [dW, hi0, hi]

/-- What TupleMove takes. -/
def tmOk (f : List (List Int)) (w : List Int) (p : Int) : Prop := isTup f.length w ∧ 0 ≤ p ∧ p ≤ (w.length : Int) - 2
instance (f : List (List Int)) (w : List Int) (p : Int) : Decidable (tmOk f w p) := by unfold tmOk; infer_instance
end Go.Mch
/- The law of TupleMove. -/
namespace Go.Mch

/-- An own list or nil, as one that is only read. -/
def eI : Option (List Int) → T
  | none => nil
  | some X => ix X
theorem rawI_ry (o : Option (List Int)) : rawI (Rw.ofO o) = eI o := by cases o <;> rfl
theorem S_eqI.o {pg : Pg} (h : S_eqI pg) (o o' : Option (List Int)) (hs : (lso o).length ≤ 1048576) : Call pg 9 [eI o, eI o'] [eI o, eI o'] (B (decide (lso o = lso o'))) := by
  have := h (Rw.ofO o) (Rw.ofO o') (by simpa using hs)
  simp only [rawI_ry, lst_ofO] at this
  exact this
theorem S_heldI.o {pg : Pg} (h : S_heldI pg) (o : Option (List Int)) (k : Int) (hs : (lso o).length ≤ 1048576) (h1 : -1 ≤ k) (h2 : k ≤ 4611686018427387904) : Call pg 13 [eI o, I k] [eI o, I k] (I (held (lso o) k)) := by
  have := h (Rw.ofO o) k (by simpa using hs) h1 h2
  simp only [rawI_ry, lst_ofO] at this
  exact this
theorem S_markI.at0 {pg : Pg} (h : S_markI pg) (k : Int) (h2 : -1 ≤ k) (h3 : k ≤ 4611686018427387904) : Call pg 12 [nil, I k] [nil, I k] (I k) := by
  have := h none k (by simp) h2 h3
  simpa [ownI] using this

end Go.Mch
/- Racks. -/
namespace Go.Mch

/-! ### As many places as numbers -/

theorem len_le_of_sub {α : Type} [DecidableEq α] : ∀ (l p : List α), l.Nodup → (∀ x ∈ l, x ∈ p) → l.length ≤ p.length
  | [], _, _, _ => by simp
  | a :: l, p, hd, hs => by
    have ha : a ∈ p := hs a (by simp)
    have hn := List.nodup_cons.1 hd
    have := len_le_of_sub l (p.erase a) hn.2 fun x hx => by
      have hne : x ≠ a := fun e => hn.1 (e ▸ hx)
      exact (List.mem_erase_of_ne hne).2 (hs x (by simp [hx]))
    have h2 := List.length_erase_of_mem ha
    have h3 : 0 < p.length := List.length_pos_of_mem ha
    simp only [List.length_cons]
    omega

theorem nodup_of_sub {α : Type} [DecidableEq α] : ∀ (l p : List α), l.Nodup → (∀ x ∈ l, x ∈ p) → p.length = l.length → p.Nodup
  | [], p, _, _, h => by
    have : p = [] := List.eq_nil_of_length_eq_zero (by simpa using h)
    subst this
    exact List.nodup_nil
  | a :: l, p, hd, hs, h => by
    have ha : a ∈ p := hs a (by simp)
    have hn := List.nodup_cons.1 hd
    have h2 := List.length_erase_of_mem ha
    have h4 : (p.erase a).length = l.length := by simp only [List.length_cons] at h; omega
    have hsub : ∀ x ∈ l, x ∈ p.erase a := fun x hx => by
      have hne : x ≠ a := fun e => hn.1 (e ▸ hx)
      exact (List.mem_erase_of_ne hne).2 (hs x (by simp [hx]))
    have hp := nodup_of_sub l (p.erase a) hn.2 hsub h4
    have hna : a ∉ p.erase a := fun hm => by
      have := len_le_of_sub (a :: l) (p.erase a) hd fun x hx => by
        rcases List.mem_cons.1 hx with rfl | hx
        · exact hm
        · exact hsub x hx
      simp only [List.length_cons] at this
      omega
    exact (List.perm_cons_erase ha).nodup_iff.2 (List.nodup_cons.2 ⟨hna, hp⟩)

end Go.Mch
/- Racks, as the reference and the program test them. -/
namespace Go.Mch

/-- Left distributive at three numbers. -/
def sdAt (t : List (List Int)) (x y z : Nat) : Prop := v2 t x (v2 t y z).toNat = v2 t (v2 t x y).toNat (v2 t x z).toNat
instance (t : List (List Int)) (x y z : Nat) : Decidable (sdAt t x y z) := by unfold sdAt; infer_instance
end Go.Mch
/- RackMove, of the reference and of the program. -/
namespace Go.Mch

theorem S_eqRack.o {pg : Pg} (h : S_eqRack pg) (X Z : List (List Int)) (hX : smallT X) : Call pg 10 [.agg [tb X], .agg [tb Z]] [.agg [tb X], .agg [tb Z]] (B (decide (X = Z))) := by
  have := h (ryT (some X)) (ryT (some Z)) (small_ry hX)
  simp only [rawT_ry, lst_ry] at this
  exact this

end Go.Mch
/- Columns, tables turned over, permutations one behind another, copies of tables. -/
namespace Go.Mch

@[simp] theorem frzL_mapI (k : K) (xs : List Int) : T.frzL k (xs.map I) = xs.map I := by
  induction xs with
  | nil => rfl
  | cons x xs ih => simp [ih]
@[simp] theorem frzL_tbL (k : K) (t : List (List Int)) : T.frzL k (tbL t) = tbL t := by
  induction t with
  | nil => rfl
  | cons x xs ih => simp only [tbL, List.map_cons] at ih ⊢; simp [ih]
/-- A square table by its values. -/
def tabL (n : Nat) (g : Nat → Nat → Int) : List (List Int) := (List.range n).map fun x => (List.range n).map fun y => g x y
@[simp] theorem tabL_length (n : Nat) (g : Nat → Nat → Int) : (tabL n g).length = n := by simp [tabL]
def colL (t : List (List Int)) (y : Nat) : List Int := (List.range t.length).map fun x => v2 t x y
/-- A table, rows and columns exchanged. -/
def turnL (t : List (List Int)) : List (List Int) := tabL t.length fun x y => v2 t y x
@[simp] theorem colL_length (t : List (List Int)) (y : Nat) : (colL t y).length = t.length := by simp [colL]
@[simp] theorem turnL_length (t : List (List Int)) : (turnL t).length = t.length := by simp [turnL]
theorem set_mid {α : Type} {l : List α} {r : List α} {k : Nat} {z v : α} (h : l.length = k) : (l ++ z :: r).set k v = l ++ v :: r := by
  subst h; simp
theorem fill_succ {α : Type} {n k : Nat} (z : α) (h : k < n) : List.replicate (n - k) z = z :: List.replicate (n - (k + 1)) z := by
  rw [show n - k = (n - (k + 1)) + 1 from by omega, List.replicate_succ]

/-- A nondegenerate pair map, as both test it. -/
def nonDeg (f s : List (List Int)) : Prop := permRows f ∧ permRows (turnL s)
instance (f s : List (List Int)) : Decidable (nonDeg f s) := by unfold nonDeg; infer_instance
end Go.Mch
/- Permutations one behind another, copies of tables; LambdaMaps, RhoMaps, IsAbelianLeft, of the reference and of the program. -/
namespace Go.Mch

/-- Do p, then q. -/
def thenL (p q : List Int) : List Int := p.map fun x => q.getD x.toNat 0
@[simp] theorem thenL_length (p q : List Int) : (thenL p q).length = p.length := by simp [thenL]
/-! ### Copies of tables -/

def S_copyT (pg : Pg) (n : Nat) : Prop := ∀ t : List (List Int), fits t → Call pg n [tb t] [tb t] (.mem .own (some 1) (rows t))
theorem rows_take_succ {t : List (List Int)} {k : Nat} (hk : k < t.length) : rows (t.take (k + 1)) = rows (t.take k) ++ [.mem .own (some 1) ((t[k]).map I)] := by
  rw [List.take_succ_eq_append_getElem hk, rows_append]; rfl
theorem t_l01Own2 {pg : Pg} (hp : pg.fn 280 = some c_spec_l01Own2) (h31 : S_own pg) : S_copyT pg 280 := by
  intro t ht
  have hl := ht.1
  refine Call.intro hp rfl (by simp) ?_
  show wp _ _ c_spec_l01Own2.body (post [.t 2] _ _ _) _
  simp [c_spec_l01Own2]
  refine wpLoop_count (fun k e => e = fr [(0, some (.val (tb t))), (3, some (.val (.mem .own (some 1) (rows (t.take k))))), (4, some (.val (I k)))]) t.length ?_ ?_ 0 _ (by omega) ?_
  · rintro k e hk rfl
    simp [hk]
    refine callR (h31 _ (ht.2 _ (List.getElem_mem hk))) rfl rfl (fun _ => by simp) ?_
    simp [rows_take_succ hk, roomy]
    omega
  · rintro e rfl
    simp [take_len]
  · simp [rows]
/-! ### LambdaMaps, RhoMaps -/

/-! ### IsAbelianLeft -/

def abel (f : List (List Int)) : Prop := ∀ x y : Nat, x < f.length → y < f.length → thenL (f.getD x []) (f.getD y []) = thenL (f.getD y []) (f.getD x [])
instance (f : List (List Int)) : Decidable (abel f) := by
  have : abel f ↔ ∀ x ∈ List.range f.length, ∀ y ∈ List.range f.length, thenL (f.getD x []) (f.getD y []) = thenL (f.getD y []) (f.getD x []) := by
    simp only [abel, List.mem_range]
    exact ⟨fun h x hx y hy => h x y hx hy, fun h x y hx hy => h x hx y hy⟩
  exact decidable_of_iff _ this.symm
theorem Tab.inN {t : List (List Int)} (h : Tab t) {x : Nat} (hx : x < t.length) : inN t.length t[x] := fun v hv => (h _ (List.getElem_mem hx)).2 v hv

end Go.Mch
/- The guitar map, back and forth, and the derived rack, of the reference and of the program. -/
namespace Go.Mch

@[simp] theorem dec_True : dec True = true := dec_true trivial
@[simp] theorem dec_False : dec False = false := dec_false id
/-! ### The guitar map -/

end Go.Mch
/- The guitar map taken back, the derived rack, of the reference and of the program. -/
namespace Go.Mch

/-- The guitar map taken back, to i numbers. -/
def gbL (f : List (List Int)) (w : List Int) : Nat → List Int
  | 0 => []
  | i + 1 => gbL f w i ++ [(gbL f w i).foldl (fun x o => ixOf (f.getD o.toNat []) x) (w.getD i 0)]
@[simp] theorem gbL_length (f : List (List Int)) (w : List Int) : ∀ i, (gbL f w i).length = i
  | 0 => rfl
  | i + 1 => by simp [gbL, gbL_length f w i]
end Go.Mch
/- The derived rack, of the reference and of the program. -/
namespace Go.Mch

/-- A value of the derived rack. -/
def raV (f s : List (List Int)) (x y : Nat) : Int := v2 f x (v2 s y (ixOf (f.getD y []) x).toNat).toNat
def raT (f s : List (List Int)) : List (List Int) := tabL f.length (raV f s)
@[simp] theorem raT_length (f s : List (List Int)) : (raT f s).length = f.length := by simp [raT]

/-! ### DerivedRack -/

def S_heldRack (pg : Pg) : Prop := ∀ (o : Option (List (List Int))) (k : Int), smallT (lso o) → 0 ≤ k → k ≤ 2305843009213693952 → heldL (lso o) k ≤ 4611686018427387904 → Call pg 149 [.agg [eT o], I k] [.agg [eT o], I k] (I (if heldL (lso o) k < 0 then -1 else heldL (lso o) k))
end Go.Mch
/- Marks and marks read again of racks and solutions, empty ones among them; what the runs of all laws use. -/
namespace Go.Mch

@[simp] theorem isPrefixOf_cons2 (a b : Nat) (as bs : List Nat) : (a :: as).isPrefixOf (b :: bs) = (a == b && as.isPrefixOf bs) := rfl

theorem S_heldRack.at {pg : Pg} (h : S_heldRack pg) (Y : List (List Int)) (m : Int) (hY : smallT Y) (h1 : 0 ≤ m) (h2 : m ≤ 1152921504606846976) : Call pg 149 [.agg [tb (upT m Y)], I m] [.agg [tb (upT m Y)], I m] (I (kAt m Y Y.length)) := by
  have hk := kAt_le (k := m) hY Y.length (Nat.le_refl _)
  have hl := hY.1
  have := h (some (upT m Y)) m (upT_small hY m) h1 (by omega) (by simp [heldL_all _ _ h1]; omega)
  simp only [lso_some, heldL_all _ _ h1] at this
  rw [if_neg (by omega)] at this
  exact this
theorem S_heldRack.at0 {pg : Pg} (h : S_heldRack pg) (m : Int) (h1 : 0 ≤ m) (h2 : m ≤ 1152921504606846976) : Call pg 149 [.agg [nil], I m] [.agg [nil], I m] (I m) := by
  have := h none m (by simp [smallT]) h1 (by omega) (by simp [heldL]; omega)
  simp only [lso_none, heldL] at this
  rw [if_neg (by omega)] at this
  exact this

def S_heldSol (pg : Pg) : Prop := ∀ (o o' : Option (List (List Int))) (k m : Int), smallT (lso o) → smallT (lso o') → 0 ≤ k → k ≤ 1152921504606846976 → 0 ≤ heldL (lso o) k → heldL (lso o) k ≤ 1152921504606846976 → heldL (lso o') (heldL (lso o) k) = m → 0 ≤ m → Call pg 172 [.agg [eT o, eT o'], I k] [.agg [eT o, eT o'], I k] (I m)
theorem S_heldSol.at {pg : Pg} (h : S_heldSol pg) (X Y : List (List Int)) (m : Int) (hX : smallT X) (hY : smallT Y) (h1 : 0 ≤ m) (h2 : m ≤ 1048576) : Call pg 172 [.agg [tb (upT m X), tb (upT (kAt m X X.length) Y)], I m] [.agg [tb (upT m X), tb (upT (kAt m X X.length) Y)], I m] (I (kAt (kAt m X X.length) Y Y.length)) := by
  have hk := kAt_le (k := m) hX X.length (Nat.le_refl _)
  have hk2 := kAt_le (k := kAt m X X.length) hY Y.length (Nat.le_refl _)
  have hl := hX.1
  have e1 := heldL_all X m h1
  have e2 := heldL_all Y (kAt m X X.length) (by omega)
  exact h (some (upT m X)) (some (upT _ Y)) m _ (upT_small hX m) (upT_small hY _) h1 (by omega) (by simp [e1]; omega) (by simp [e1]; omega) (by simp [e1, e2]) (by omega)
theorem S_heldSol.at0 {pg : Pg} (h : S_heldSol pg) (m : Int) (h1 : 0 ≤ m) (h2 : m ≤ 1048576) : Call pg 172 [.agg [nil, nil], I m] [.agg [nil, nil], I m] (I m) :=
  h none none m m (by simp [smallT]) (by simp [smallT]) h1 (by omega) (by simp [heldL]; omega) (by simp [heldL]; omega) (by simp [heldL]) (by omega)
end Go.Mch
/- The runs of the exact laws, by their shapes: sol,ints-tbl,int. -/
namespace Go.Mch
/-- The laws of this shape: sol, ints to tbl, int. -/
def lw_wT (a b : Nat) : F where
  np := 2
  rs := [.t 4]
  body :=
    (.seq
    (.region none [ ⟨some 2, none, .box (.t 0)⟩, ⟨some 4, none, .mv (.c (.bool false))⟩] [1, 2]) (.seq (.seq
    (.region none [ ⟨some 17, none, .mv (.t 1)⟩, ⟨some 18, none, .len (.t 17)⟩, ⟨some 19, none, .bin .gtr (.t 18) (.c (.int .i64 1048576))⟩] [1, 2, 19]) (.cond (.t 19) (.seq
    (.region none [ ⟨some 4, none, .mv (.c (.bool true))⟩] [4]) .ret) .skip)) (.seq
    (.region none [ ⟨some 5, none, .mv (.c (.int .i64 1048576))⟩] [1, 2, 5]) (.seq
    (.region none [ ⟨some 20, none, .ld (some 2) (.t 2)⟩, ⟨some 21, none, .mv (.t 5)⟩, ⟨some 22, none, .call (.f 14) [((.t 20), .r), ((.t 21), .r)]⟩, ⟨some 5, none, .mv (.t 22)⟩] [1, 2, 5]) (.seq (.seq
    (.region none [ ⟨some 23, none, .mv (.t 5)⟩, ⟨some 24, none, .bin .lss (.t 23) (.c (.int .i64 0))⟩] [1, 2, 24]) (.cond (.t 24) (.seq
    (.region none [ ⟨some 4, none, .mv (.c (.bool true))⟩] [4]) .ret) .skip)) (.seq
    (.region none [ ⟨some 26, none, .ld (some 2) (.t 2)⟩, ⟨some 27, none, .call (.f 16) [((.t 26), .r)]⟩, ⟨some 28, none, .mv (.t 1)⟩, ⟨some 29, none, .call (.f 7) [((.t 28), .r)]⟩, ⟨some 30, none, .call (.f a) [((.t 27), .r), ((.t 29), .r)]⟩, ⟨some 25, none, .mv (.t 30)⟩, ⟨some 31, none, .ext (.t 25) 0⟩, ⟨some 32, none, .ext (.t 25) 1⟩, ⟨some 6, none, .asg (.t 31)⟩, ⟨some 7, none, .mv (.t 32)⟩] [1, 2, 6, 7]) (.seq
    (.region none [ ⟨some 33, none, .ld (some 2) (.t 2)⟩, ⟨some 34, none, .call (.f 16) [((.t 33), .r)]⟩, ⟨some 8, none, .alloc [(.slice none 0 0), (.slice none 0 0)]⟩, ⟨none, none, .st (some 2) (.t 8) (.t 34)⟩] [1, 2, 6, 7, 8]) (.seq
    (.region none [ ⟨some 35, none, .mv (.t 1)⟩, ⟨some 36, none, .call (.f 7) [((.t 35), .r)]⟩, ⟨some 9, none, .asg (.t 36)⟩] [1, 2, 6, 7, 8, 9]) (.seq
    (.region none [ ⟨some 38, none, .ld (some 2) (.t 8)⟩, ⟨some 39, none, .mv (.t 9)⟩, ⟨some 40, none, .call (.f b) [((.t 38), .r), ((.t 39), .r)]⟩, ⟨some 37, none, .mv (.t 40)⟩, ⟨some 41, none, .ext (.t 37) 0⟩, ⟨some 42, none, .ext (.t 37) 1⟩, ⟨some 10, none, .asg (.t 41)⟩, ⟨some 11, none, .mv (.t 42)⟩] [1, 2, 6, 7, 8, 9, 10, 11]) (.seq (.seq
    (.region none [ ⟨some 43, none, .mv (.t 10)⟩, ⟨some 44, none, .mv (.t 6)⟩, ⟨some 45, none, .call (.f 21) [((.t 43), .r), ((.t 44), .r)]⟩, ⟨some 46, none, .un .not (.t 45)⟩, ⟨some 47, none, .mv (.t 46)⟩, ⟨some 48, (some (47, false)), .mv (.t 11)⟩, ⟨some 49, (some (47, false)), .mv (.t 7)⟩, ⟨some 50, (some (47, false)), .bin .neq (.t 48) (.t 49)⟩, ⟨some 51, none, .pick (.t 47) (.c (.bool true)) (.t 50)⟩] [1, 2, 6, 7, 8, 9, 10, 11, 51]) (.cond (.t 51) (.seq
    (.region none [ ⟨some 4, none, .mv (.c (.bool false))⟩] [4]) .ret) .skip)) (.seq (.seq
    (.region (some [52, 53, 54]) [ ⟨some 52, none, .ld (some 2) (.t 8)⟩, ⟨some 53, none, .ld (some 2) (.t 2)⟩, ⟨some 54, none, .call (.f 16) [((.t 53), .r)]⟩, ⟨some 55, none, .call (.f 18) [((.t 52), .r), ((.t 54), .r)]⟩, ⟨some 56, none, .un .not (.t 55)⟩] [1, 2, 6, 7, 8, 9, 10, 11, 56]) (.cond (.t 56) (.seq
    (.region none [ ⟨some 4, none, .mv (.c (.bool false))⟩] [4]) .ret) .skip)) (.seq (.seq
    (.region none [ ⟨some 57, none, .mv (.t 9)⟩, ⟨some 58, none, .mv (.t 1)⟩, ⟨some 59, none, .call (.f 7) [((.t 58), .r)]⟩, ⟨some 60, none, .call (.f 9) [((.t 57), .r), ((.t 59), .r)]⟩, ⟨some 61, none, .un .not (.t 60)⟩] [1, 2, 6, 7, 8, 9, 10, 11, 61]) (.cond (.t 61) (.seq
    (.region none [ ⟨some 4, none, .mv (.c (.bool false))⟩] [4]) .ret) .skip)) (.seq
    (.region none [ ⟨some 12, none, .mv (.c (.int .i64 1))⟩] [1, 2, 6, 7, 8, 9, 10, 11, 12]) (.seq
    (.region none [ ⟨some 62, none, .ld (some 2) (.t 8)⟩, ⟨some 63, none, .mv (.t 12)⟩, ⟨some 64, none, .callm (.f 22) [((.t 62), true), ((.t 63), false)] []⟩, ⟨some 12, none, .mv (.t 64)⟩] [1, 2, 6, 7, 9, 10, 11, 12]) (.seq
    (.region none [ ⟨some 65, none, .mv (.t 9)⟩, ⟨some 66, none, .mv (.t 12)⟩, ⟨some 67, none, .callm (.f 12) [((.t 65), true), ((.t 66), false)] []⟩, ⟨some 12, none, .mv (.t 67)⟩] [1, 2, 6, 7, 10, 11, 12]) (.seq (.seq
    (.region none [ ⟨some 68, none, .mv (.t 12)⟩, ⟨some 69, none, .bin .lss (.t 68) (.c (.int .i64 0))⟩, ⟨some 70, none, .mv (.t 69)⟩, ⟨some 71, (some (70, false)), .mv (.t 10)⟩, ⟨some 72, (some (70, false)), .mv (.t 6)⟩, ⟨some 73, (some (70, false)), .call (.f 21) [((.t 71), .r), ((.t 72), .r)]⟩, ⟨some 74, (some (70, false)), .un .not (.t 73)⟩, ⟨some 75, none, .pick (.t 70) (.c (.bool true)) (.t 74)⟩, ⟨some 76, none, .mv (.t 75)⟩, ⟨some 77, (some (76, false)), .mv (.t 11)⟩, ⟨some 78, (some (76, false)), .mv (.t 7)⟩, ⟨some 79, (some (76, false)), .bin .neq (.t 77) (.t 78)⟩, ⟨some 80, none, .pick (.t 76) (.c (.bool true)) (.t 79)⟩] [1, 2, 6, 7, 10, 80]) (.cond (.t 80) (.seq
    (.region none [ ⟨some 4, none, .mv (.c (.bool false))⟩] [4]) .ret) .skip)) (.seq
    (.region none [ ⟨some 13, none, .mv (.c (.int .i64 1))⟩] [1, 2, 6, 7, 10, 13]) (.seq
    (.region none [ ⟨some 81, none, .mv (.t 10)⟩, ⟨some 82, none, .mv (.t 13)⟩, ⟨some 83, none, .callm (.f 23) [((.t 81), true), ((.t 82), false)] []⟩, ⟨some 13, none, .mv (.t 83)⟩] [1, 2, 6, 7, 10, 13]) (.seq
    (.region none [ ⟨some 14, none, .mv (.c (.int .i64 1))⟩] [1, 2, 6, 7, 10, 13, 14]) (.seq
    (.region none [ ⟨some 84, none, .mv (.t 10)⟩, ⟨some 85, none, .mv (.t 14)⟩, ⟨some 86, none, .call (.f 24) [((.t 84), .r), ((.t 85), .r)]⟩, ⟨some 14, none, .mv (.t 86)⟩] [1, 2, 6, 7, 10, 13, 14]) (.seq (.seq
    (.region none [ ⟨some 87, none, .mv (.t 14)⟩, ⟨some 88, none, .bin .lss (.t 87) (.c (.int .i64 0))⟩] [1, 2, 6, 7, 10, 13, 14, 88]) (.cond (.t 88) (.seq
    (.region none [ ⟨some 4, none, .mv (.c (.bool false))⟩] [4]) .ret) .skip)) (.seq (.seq
    (.region none [ ⟨some 89, none, .mv (.t 14)⟩, ⟨some 90, none, .mv (.t 13)⟩, ⟨some 91, none, .bin .neq (.t 89) (.t 90)⟩] [1, 2, 6, 7, 10, 13, 91]) (.cond (.t 91) (.seq
    (.region none [ ⟨some 4, none, .mv (.c (.bool false))⟩] [4]) .ret) .skip)) (.seq
    (.region none [ ⟨some 93, none, .ld (some 2) (.t 2)⟩, ⟨some 94, none, .call (.f 16) [((.t 93), .r)]⟩, ⟨some 95, none, .mv (.t 1)⟩, ⟨some 96, none, .call (.f 7) [((.t 95), .r)]⟩, ⟨some 97, none, .call (.f b) [((.t 94), .r), ((.t 96), .r)]⟩, ⟨some 92, none, .mv (.t 97)⟩, ⟨some 98, none, .ext (.t 92) 0⟩, ⟨some 99, none, .ext (.t 92) 1⟩, ⟨some 15, none, .asg (.t 98)⟩, ⟨some 16, none, .mv (.t 99)⟩] [6, 7, 10, 13, 15, 16]) (.seq (.seq
    (.region none [ ⟨some 100, none, .mv (.t 15)⟩, ⟨some 101, none, .mv (.t 6)⟩, ⟨some 102, none, .call (.f 21) [((.t 100), .r), ((.t 101), .r)]⟩, ⟨some 103, none, .un .not (.t 102)⟩, ⟨some 104, none, .mv (.t 103)⟩, ⟨some 105, (some (104, false)), .mv (.t 16)⟩, ⟨some 106, (some (104, false)), .mv (.t 7)⟩, ⟨some 107, (some (104, false)), .bin .neq (.t 105) (.t 106)⟩, ⟨some 108, none, .pick (.t 104) (.c (.bool true)) (.t 107)⟩] [10, 13, 108]) (.cond (.t 108) (.seq
    (.region none [ ⟨some 4, none, .mv (.c (.bool false))⟩] [4]) .ret) .skip)) (.seq
    (.region none [ ⟨some 14, none, .mv (.c (.int .i64 1))⟩] [10, 13, 14]) (.seq
    (.region none [ ⟨some 109, none, .mv (.t 10)⟩, ⟨some 110, none, .mv (.t 14)⟩, ⟨some 111, none, .call (.f 24) [((.t 109), .r), ((.t 110), .r)]⟩, ⟨some 14, none, .mv (.t 111)⟩] [13, 14]) (.seq (.seq
    (.region none [ ⟨some 112, none, .mv (.t 14)⟩, ⟨some 113, none, .bin .lss (.t 112) (.c (.int .i64 0))⟩] [13, 14, 113]) (.cond (.t 113) (.seq
    (.region none [ ⟨some 4, none, .mv (.c (.bool false))⟩] [4]) .ret) .skip)) (.seq (.seq
    (.region none [ ⟨some 114, none, .mv (.t 14)⟩, ⟨some 115, none, .mv (.t 13)⟩, ⟨some 116, none, .bin .neq (.t 114) (.t 115)⟩] [116]) (.cond (.t 116) (.seq
    (.region none [ ⟨some 4, none, .mv (.c (.bool false))⟩] [4]) .ret) .skip)) (.seq
    (.region none [ ⟨some 4, none, .mv (.c (.bool true))⟩] [4]) .ret)))))))))))))))))))))))))))))
def S_sh_wT (pg : Pg) (n : Nat) (R0 : List (List Int) → List (List Int) → List Int → List (List Int)) (R1 : List (List Int) → List (List Int) → List Int → Int) : Prop := ∀ (f0 s0 : List (List Int)) (w1 : List Int), fits f0 → fits s0 → w1.length ≤ 1048576 → ∃ o0, lso o0 = R0 f0 s0 w1 ∧ Call pg n [sol f0 s0, ix w1] [sol f0 s0, ix w1] (.tup [ownT o0, I (R1 f0 s0 w1)])
def S_lw_wT (pg : Pg) (n : Nat) : Prop := ∀ (a0 b0 : Rw (Rw Int)) (c1 : Rw Int), small a0 → small b0 → (lst c1).length ≤ 1048576 → ∃ args', Call pg n [.agg [rawT a0, rawT b0], rawI c1] args' (B true)
set_option maxRecDepth 20000 in
theorem t_lw_wT {pg : Pg} {n a b : Nat} {R0 : List (List Int) → List (List Int) → List Int → List (List Int)} {R1 : List (List Int) → List (List Int) → List Int → Int} (hp : pg.fn n = some (lw_wT a b)) (hA : S_sh_wT pg a R0 R1) (hB : S_sh_wT pg b R0 R1) (hz0 : ∀ (f0 s0 : List (List Int)) (w1 : List Int), fits f0 → fits s0 → w1.length ≤ 1048576 → smallT (R0 f0 s0 w1)) (h14 : S_szSol pg) (h16 : S_toSol pg) (h18 : S_eqSol pg) (h7 : S_toI pg) (h9 : S_eqI pg) (h22 : S_markSol pg) (h12 : S_markI pg) (h21 : S_eqT pg) (h23 : S_markT pg) (h24 : S_heldT pg) : S_lw_wT pg n := by
  intro a0 b0 c1 ha0 hb0 hl1
  refine ⟨[.agg [rawT a0, rawT b0], rawI c1], Call.intro hp rfl (by simp) ?_⟩
  obtain ⟨r, hr1, hr2, hsz⟩ := h14 a0 b0 1048576 ha0 hb0 (by omega) (by omega)
  have hto0 := h16 a0 b0 ha0 hb0
  have hfa0 := fitsT_of ha0
  have hfb0 := fitsT_of hb0
  generalize hF0 : (lst a0).map lst = F0 at *
  generalize hS0 : (lst b0).map lst = S0 at *
  have hto1 := h7.at c1 hl1
  have hcl1 : ¬ ((lst c1).length : Int) > 1048576 := by omega
  generalize hwe1 : lst c1 = w1 at *
  have hw1 : w1.length ≤ 1048576 := hl1
  obtain ⟨o0, e0, hc1⟩ := hA F0 S0 w1 hfa0 hfb0 hw1
  obtain ⟨q0, g0, hc2⟩ := hB F0 S0 w1 hfa0 hfb0 hw1
  have hsm0 := hz0 F0 S0 w1 hfa0 hfb0 hw1
  rw [← g0] at hsm0
  have heq0 := g0.trans e0.symm
  clear e0 g0
  generalize R1 F0 S0 w1 = o1 at *
  have hk0a := kAt_le (k := (1 : Int)) hfa0 F0.length (Nat.le_refl _)
  have hk0b := kAt_le (k := (kAt (1 : Int) F0 F0.length)) hfb0 S0.length (Nat.le_refl _)
  have hfl0 := hfa0.1
  have hsl0 := hfb0.1
  have hkN : ¬ ((kAt (kAt (1 : Int) F0 F0.length) S0 S0.length) + w1.length) < 0 := by omega
  show wp _ _ (lw_wT a b).body (post [.t 4] _ _ _) _
  simp [lw_wT, hcl1, hwe1]
  refine callR hsz rfl rfl (fun _ => rfl) ?_
  by_cases hneg : r < 0
  · simp [hneg]
  · simp [hneg]
    cases o0 with
    | some X0 =>
      cases q0 with
      | some Y0 =>
        simp only [ownT, lso_some] at *
        subst heq0
        have hm0 := kAt_le (k := (1 : Int)) hsm0 Y0.length (Nat.le_refl _)
        have hy0 := hsm0.1
        have hn0 : ¬ (kAt (1 : Int) Y0 Y0.length) < 0 := by omega
        refine callR hto0 rfl rfl (fun _ => by simp) ?_
        simp
        refine callR hto1 rfl rfl (fun _ => by simp) ?_
        simp
        refine callR hc1 rfl rfl (fun _ => by simp) ?_
        simp
        refine callR hto0 rfl rfl (fun _ => by simp) ?_
        simp
        refine callR hto1 rfl rfl (fun _ => by simp) ?_
        simp
        refine callR hc2 rfl rfl (fun _ => by simp) ?_
        simp
        refine callR (h21.o (some Y0) (some Y0) hsm0) rfl rfl (fun _ => rfl) ?_
        simp
        refine callR hto0 rfl rfl (fun _ => by simp) ?_
        simp
        refine callR (h18.o F0 S0 F0 S0 hfa0 hfb0) rfl rfl (fun _ => rfl) ?_
        simp
        refine callR hto1 rfl rfl (fun _ => by simp) ?_
        simp
        refine callR (h9.o (some w1) (some w1) hw1) rfl rfl (fun _ => rfl) ?_
        simp
        refine callM (ts' := [.agg [.mem .own (some 1) (rows (upT (1 : Int) F0)), .mem .own (some 1) (rows (upT (kAt (1 : Int) F0 F0.length) S0))], I (1 : Int)]) (r := I (kAt (kAt (1 : Int) F0 F0.length) S0 S0.length)) ?_ ?_ ?_ ?_
        · simp
        · simpa using h22 F0 S0 (1 : Int) hfa0 hfb0 (by omega) (by omega)
        · simp
        simp
        refine callM (ts' := [.mem .own (some 1) ((up (kAt (kAt (1 : Int) F0 F0.length) S0 S0.length) w1.length).map I), I (kAt (kAt (1 : Int) F0 F0.length) S0 S0.length)]) (r := I ((kAt (kAt (1 : Int) F0 F0.length) S0 S0.length) + w1.length)) ?_ ?_ ?_ ?_
        · simp
        · simpa using h12.at w1 (kAt (kAt (1 : Int) F0 F0.length) S0 S0.length) hw1 (by omega) (by omega)
        · simp
        simp [hkN]
        refine callR (h21.o (some Y0) (some Y0) hsm0) rfl rfl (fun _ => rfl) ?_
        simp
        refine callM (ts' := [.mem .own (some 1) (rows (upT (1 : Int) Y0)), I (1 : Int)]) (r := I (kAt (1 : Int) Y0 Y0.length)) ?_ ?_ ?_ ?_
        · simp
        · simpa using h23.at Y0 (1 : Int) hsm0 (by omega) (by omega)
        · simp
        simp
        refine callR (h24.o (some (upT (1 : Int) Y0)) (1 : Int) (upT_small hsm0 (1 : Int)) (by omega) (by omega)) rfl rfl (fun _ => rfl) ?_
        simp [heldL_all, hn0]
        refine callR hto0 rfl rfl (fun _ => by simp) ?_
        simp
        refine callR hto1 rfl rfl (fun _ => by simp) ?_
        simp
        refine callR hc2 rfl rfl (fun _ => by simp) ?_
        simp
        refine callR (h21.o (some Y0) (some Y0) hsm0) rfl rfl (fun _ => rfl) ?_
        simp
        refine callR (h24.o (some (upT (1 : Int) Y0)) (1 : Int) (upT_small hsm0 (1 : Int)) (by omega) (by omega)) rfl rfl (fun _ => rfl) ?_
        simp [heldL_all, hn0]
      | none =>
        simp only [ownT, lso_some, lso_none] at *
        subst heq0
        refine callR hto0 rfl rfl (fun _ => by simp) ?_
        simp
        refine callR hto1 rfl rfl (fun _ => by simp) ?_
        simp
        refine callR hc1 rfl rfl (fun _ => by simp) ?_
        simp
        refine callR hto0 rfl rfl (fun _ => by simp) ?_
        simp
        refine callR hto1 rfl rfl (fun _ => by simp) ?_
        simp
        refine callR hc2 rfl rfl (fun _ => by simp) ?_
        simp
        refine callR (h21.o none (some []) hsm0) rfl rfl (fun _ => rfl) ?_
        simp
        refine callR hto0 rfl rfl (fun _ => by simp) ?_
        simp
        refine callR (h18.o F0 S0 F0 S0 hfa0 hfb0) rfl rfl (fun _ => rfl) ?_
        simp
        refine callR hto1 rfl rfl (fun _ => by simp) ?_
        simp
        refine callR (h9.o (some w1) (some w1) hw1) rfl rfl (fun _ => rfl) ?_
        simp
        refine callM (ts' := [.agg [.mem .own (some 1) (rows (upT (1 : Int) F0)), .mem .own (some 1) (rows (upT (kAt (1 : Int) F0 F0.length) S0))], I (1 : Int)]) (r := I (kAt (kAt (1 : Int) F0 F0.length) S0 S0.length)) ?_ ?_ ?_ ?_
        · simp
        · simpa using h22 F0 S0 (1 : Int) hfa0 hfb0 (by omega) (by omega)
        · simp
        simp
        refine callM (ts' := [.mem .own (some 1) ((up (kAt (kAt (1 : Int) F0 F0.length) S0 S0.length) w1.length).map I), I (kAt (kAt (1 : Int) F0 F0.length) S0 S0.length)]) (r := I ((kAt (kAt (1 : Int) F0 F0.length) S0 S0.length) + w1.length)) ?_ ?_ ?_ ?_
        · simp
        · simpa using h12.at w1 (kAt (kAt (1 : Int) F0 F0.length) S0 S0.length) hw1 (by omega) (by omega)
        · simp
        simp [hkN]
        refine callR (h21.o none (some []) hsm0) rfl rfl (fun _ => rfl) ?_
        simp
        refine callM (ts' := [nil, I (1 : Int)]) (r := I (1 : Int)) ?_ ?_ ?_ ?_
        · simp
        · simpa using h23.at0 (1 : Int) (by omega) (by omega)
        · simp
        simp
        refine callR (h24.o none (1 : Int) hsm0 (by omega) (by omega)) rfl rfl (fun _ => rfl) ?_
        simp [heldL]
        refine callR hto0 rfl rfl (fun _ => by simp) ?_
        simp
        refine callR hto1 rfl rfl (fun _ => by simp) ?_
        simp
        refine callR hc2 rfl rfl (fun _ => by simp) ?_
        simp
        refine callR (h21.o none (some []) hsm0) rfl rfl (fun _ => rfl) ?_
        simp
        refine callR (h24.o none (1 : Int) hsm0 (by omega) (by omega)) rfl rfl (fun _ => rfl) ?_
        simp [heldL]
    | none =>
      cases q0 with
      | some Y0 =>
        simp only [ownT, lso_some, lso_none] at *
        subst heq0
        have hm0 := kAt_le (k := (1 : Int)) hsm0 ([] : List (List Int)).length (Nat.le_refl _)
        have hy0 := hsm0.1
        have hn0 : ¬ (kAt (1 : Int) ([] : List (List Int)) ([] : List (List Int)).length) < 0 := by omega
        refine callR hto0 rfl rfl (fun _ => by simp) ?_
        simp
        refine callR hto1 rfl rfl (fun _ => by simp) ?_
        simp
        refine callR hc1 rfl rfl (fun _ => by simp) ?_
        simp
        refine callR hto0 rfl rfl (fun _ => by simp) ?_
        simp
        refine callR hto1 rfl rfl (fun _ => by simp) ?_
        simp
        refine callR hc2 rfl rfl (fun _ => by simp) ?_
        simp
        refine callR (h21.o (some ([] : List (List Int))) none hsm0) rfl rfl (fun _ => rfl) ?_
        simp
        refine callR hto0 rfl rfl (fun _ => by simp) ?_
        simp
        refine callR (h18.o F0 S0 F0 S0 hfa0 hfb0) rfl rfl (fun _ => rfl) ?_
        simp
        refine callR hto1 rfl rfl (fun _ => by simp) ?_
        simp
        refine callR (h9.o (some w1) (some w1) hw1) rfl rfl (fun _ => rfl) ?_
        simp
        refine callM (ts' := [.agg [.mem .own (some 1) (rows (upT (1 : Int) F0)), .mem .own (some 1) (rows (upT (kAt (1 : Int) F0 F0.length) S0))], I (1 : Int)]) (r := I (kAt (kAt (1 : Int) F0 F0.length) S0 S0.length)) ?_ ?_ ?_ ?_
        · simp
        · simpa using h22 F0 S0 (1 : Int) hfa0 hfb0 (by omega) (by omega)
        · simp
        simp
        refine callM (ts' := [.mem .own (some 1) ((up (kAt (kAt (1 : Int) F0 F0.length) S0 S0.length) w1.length).map I), I (kAt (kAt (1 : Int) F0 F0.length) S0 S0.length)]) (r := I ((kAt (kAt (1 : Int) F0 F0.length) S0 S0.length) + w1.length)) ?_ ?_ ?_ ?_
        · simp
        · simpa using h12.at w1 (kAt (kAt (1 : Int) F0 F0.length) S0 S0.length) hw1 (by omega) (by omega)
        · simp
        simp [hkN]
        refine callR (h21.o (some ([] : List (List Int))) none hsm0) rfl rfl (fun _ => rfl) ?_
        simp
        refine callM (ts' := [.mem .own (some 1) (rows (upT (1 : Int) ([] : List (List Int)))), I (1 : Int)]) (r := I (kAt (1 : Int) ([] : List (List Int)) ([] : List (List Int)).length)) ?_ ?_ ?_ ?_
        · simp
        · simpa using h23.at ([] : List (List Int)) (1 : Int) hsm0 (by omega) (by omega)
        · simp
        simp
        refine callR (h24.o (some (upT (1 : Int) ([] : List (List Int)))) (1 : Int) (upT_small hsm0 (1 : Int)) (by omega) (by omega)) rfl rfl (fun _ => rfl) ?_
        simp [heldL_all, kAt_zero]
        refine callR hto0 rfl rfl (fun _ => by simp) ?_
        simp
        refine callR hto1 rfl rfl (fun _ => by simp) ?_
        simp
        refine callR hc2 rfl rfl (fun _ => by simp) ?_
        simp
        refine callR (h21.o (some ([] : List (List Int))) none hsm0) rfl rfl (fun _ => rfl) ?_
        simp
        refine callR (h24.o (some (upT (1 : Int) ([] : List (List Int)))) (1 : Int) (upT_small hsm0 (1 : Int)) (by omega) (by omega)) rfl rfl (fun _ => rfl) ?_
        simp [heldL_all, kAt_zero]
      | none =>
        simp only [ownT, lso_none] at *
        refine callR hto0 rfl rfl (fun _ => by simp) ?_
        simp
        refine callR hto1 rfl rfl (fun _ => by simp) ?_
        simp
        refine callR hc1 rfl rfl (fun _ => by simp) ?_
        simp
        refine callR hto0 rfl rfl (fun _ => by simp) ?_
        simp
        refine callR hto1 rfl rfl (fun _ => by simp) ?_
        simp
        refine callR hc2 rfl rfl (fun _ => by simp) ?_
        simp
        refine callR (h21.o none none hsm0) rfl rfl (fun _ => rfl) ?_
        simp
        refine callR hto0 rfl rfl (fun _ => by simp) ?_
        simp
        refine callR (h18.o F0 S0 F0 S0 hfa0 hfb0) rfl rfl (fun _ => rfl) ?_
        simp
        refine callR hto1 rfl rfl (fun _ => by simp) ?_
        simp
        refine callR (h9.o (some w1) (some w1) hw1) rfl rfl (fun _ => rfl) ?_
        simp
        refine callM (ts' := [.agg [.mem .own (some 1) (rows (upT (1 : Int) F0)), .mem .own (some 1) (rows (upT (kAt (1 : Int) F0 F0.length) S0))], I (1 : Int)]) (r := I (kAt (kAt (1 : Int) F0 F0.length) S0 S0.length)) ?_ ?_ ?_ ?_
        · simp
        · simpa using h22 F0 S0 (1 : Int) hfa0 hfb0 (by omega) (by omega)
        · simp
        simp
        refine callM (ts' := [.mem .own (some 1) ((up (kAt (kAt (1 : Int) F0 F0.length) S0 S0.length) w1.length).map I), I (kAt (kAt (1 : Int) F0 F0.length) S0 S0.length)]) (r := I ((kAt (kAt (1 : Int) F0 F0.length) S0 S0.length) + w1.length)) ?_ ?_ ?_ ?_
        · simp
        · simpa using h12.at w1 (kAt (kAt (1 : Int) F0 F0.length) S0 S0.length) hw1 (by omega) (by omega)
        · simp
        simp [hkN]
        refine callR (h21.o none none hsm0) rfl rfl (fun _ => rfl) ?_
        simp
        refine callM (ts' := [nil, I (1 : Int)]) (r := I (1 : Int)) ?_ ?_ ?_ ?_
        · simp
        · simpa using h23.at0 (1 : Int) (by omega) (by omega)
        · simp
        simp
        refine callR (h24.o none (1 : Int) hsm0 (by omega) (by omega)) rfl rfl (fun _ => rfl) ?_
        simp [heldL]
        refine callR hto0 rfl rfl (fun _ => by simp) ?_
        simp
        refine callR hto1 rfl rfl (fun _ => by simp) ?_
        simp
        refine callR hc2 rfl rfl (fun _ => by simp) ?_
        simp
        refine callR (h21.o none none hsm0) rfl rfl (fun _ => rfl) ?_
        simp
        refine callR (h24.o none (1 : Int) hsm0 (by omega) (by omega)) rfl rfl (fun _ => rfl) ?_
        simp [heldL]
end Go.Mch
/- From a statement's arguments to trees, and from a call that the machine makes good to what a statement asks. -/
namespace Go.Mch

/-- What is let of the caller's memory: all of it is the caller's. -/
abbrev okCl : K → Nat → Prop := fun k _ => k = .old

theorem repL_of {fm : Nat → Nat} {ok : K → Nat → Prop} {w : World} {g : Nat → Value} : ∀ (ts : List T) (i : Nat), (∀ j (h : j < ts.length), rep fm ok w (g (i + j)) ts[j]) → repL fm ok w g i ts
  | [], _, _ => trivial
  | t :: ts, i, h => ⟨h 0 (by simp), repL_of ts (i + 1) fun j hj => by
      have := h (j + 1) (by simpa using hj)
      simpa [show i + 1 + j = i + (j + 1) from by omega] using this⟩

/-- A call with the caller's arguments. -/
theorem run_true {P : Program} {fm : Nat → Nat} {f : Nat} {args args' : List T} (h : Pact P fm f args args' (B true)) (hno : T.noOwnL args = true) {w : World} {vs : Array Value} (hs : vs.size = args.length)
    (hrep : ∀ s t, args[s]? = some t → rep fm okCl w (vs.getD s undef) t) :
    Calls P (fm f) vs w fun e w' => e = .returned (.bool true) ∧ Keeps (fun _ => False) w w' := by
  have hA : ∀ b, (fun _ => False : Nat → Prop) b → b < w.heap.size := fun _ h => h.elim
  have hc : ∀ s t, init args s = some (.val t) → ∀ b, cnt w (vs.getD s undef) b t = 0 := by
    intro s t ht b
    obtain ⟨u, h1, h2⟩ := init_some ht
    cases h2
    exact cnt_noOwn _ _ _ _ (noOwnL_get hno h1)
  have hR : R (cx0 fm w (fun _ => False) (fun _ => False) hA) (init args) (fun s => vs.getD s undef) w := by
    refine ⟨Keeps.refl _ _, ⟨fun _ => 0, fun s t ht b => ?_⟩, fun s x hx => ?_⟩
    · rw [hc s t ht b]; simp
    · obtain ⟨t, h1, rfl⟩ := init_some hx
      refine .inl ⟨t, rfl, rep_ok (fun k b _ _ hk => ?_) t _ (fun b hb _ _ => ?_) (hrep s t h1)⟩
      · cases hk
        refine ⟨id, by simp, by simp, fun _ => ⟨?_, id⟩⟩
        rintro ⟨s', t', h3, h4⟩
        rw [hc s' t' h3 b] at h4
        omega
      · have h5 := hc s t hx b
        omega
  refine (h.2 w vs _ _ hA hs (fun _ _ hm => hm) hR).mono fun e w' hb => ?_
  cases e with
  | returned v =>
    obtain ⟨q, e', vl', _, h2, _, h4, _⟩ := hb
    refine ⟨?_, h2.keeps⟩
    have h5 := h2.rep q (.val (B true)) (by simp [Env.add])
    rcases h5 with ⟨t, h6, h7⟩ | h7
    · cases h6
      simp only [rep] at h7
      rw [← h4, h7.1]
    · simp only [arep, rep] at h7
      rw [← h4, h7.2.1]
  | _ => exact hb.elim

theorem Keeps.but {w w' : World} (h : Keeps (fun _ => False) w w') (may : MemPlace → Prop) : w.keptBut w' may := by
  refine ⟨h.os, h.output, fun i hi => ?_⟩
  rw [h.block i hi id]
  exact (World.keptBut_refl w may).2.2 i hi

theorem Keeps.at {w w' : World} (h : Keeps (fun _ => False) w w') {p : MemPlace} (hp : p.block < w.heap.size) : w.sameAt w' p := by
  cases p with
  | cell b off => exact World.cell?_of_block (a := ⟨b, off, none⟩) (h.block b hp id)
  | map b => exact h.block b hp id

/-! ### What is read is a tree -/

section
variable {H : Type} {enc : TypeId × Value → H} {P : Program} {w : World} {base : Nat} {sp : Nat → Bool} {held : Bool} {fm : Nat → Nat}

theorem each {α : Type} {Q : Nat → α → Prop} : ∀ (n : Nat), (∀ i, i < n → ∃ z, Q i z) → ∃ zs : List α, zs.length = n ∧ ∀ i (h : i < zs.length), Q i zs[i]
  | 0, _ => ⟨[], rfl, fun i h => by simp at h⟩
  | n + 1, h => by
    obtain ⟨zs, h1, h2⟩ := each n fun i hi => h i (by omega)
    obtain ⟨z, hz⟩ := h n (by omega)
    refine ⟨zs ++ [z], by simp [h1], fun i hi => ?_⟩
    rcases Nat.lt_or_ge i zs.length with hl | hl
    · rw [List.getElem_append_left hl]; exact h2 i hl
    · have : i = n := by simp at hi; omega
      subst this
      rw [List.getElem_append_right hl]
      simp [h1, hz]

/-- A slice, as it is read. -/
theorem open_raw {t e : TypeId} {fuel : Nat} {cs : List Value} {x : DataW H × List MemPlace} (ht : P.underlying t = some (.slice e)) (hc : P.cellsOf e = 1)
    (h : DataW.trod enc P w base (fun _ => true) held fuel t cs = some x) :
    (cs = [.slice none 0 0] ∧ x.1 = .nil) ∨ (∃ a, cs = [.slice (some a) 0 0] ∧ x.1 = .slice [] []) ∨
    ∃ b off len cap ds rest n, cs = [.slice (some ⟨b, off, none⟩) len cap] ∧ len ≤ cap ∧ x.1 = .slice ds rest ∧ ds.length = len ∧
      ∀ i, i < len → ∃ c y, w.cell? ⟨b, off + i, none⟩ = some c ∧ DataW.trod enc P w base (fun _ => true) held n e [c] = some y ∧ ds[i]? = some y.1 := by
  rcases DataW.trod_slice ht h with ⟨h1, rfl⟩ | ⟨a, len, cap, elems, rest, n, _, rfl, rfl, hb, hl, _, hlen, hel, hsp, _⟩
  · exact .inl ⟨h1, rfl⟩
  right
  obtain ⟨hr1, hr2⟩ := hsp rfl
  have cell : ∀ a' y, (w.cells? base a' (P.cellsOf e)).bind (DataW.trod enc P w base (fun _ => true) held n e) = some y → ∃ c, w.cell? a' = some c ∧ DataW.trod enc P w base (fun _ => true) held n e [c] = some y := by
    intro a' y hy
    rw [hc, Option.bind_eq_some_iff] at hy
    obtain ⟨c1, h1, h2⟩ := hy
    have h3 := (World.cells?_some h1).2.1
    match c1, h3 with
    | [c], _ => exact ⟨c, Go.ChangeShapes.cell_of_cells?_one h1, h2⟩
  by_cases hz : cap = 0
  · subst hz
    have h0 : len = 0 := by omega
    subst h0
    have h1 : elems = [] := List.eq_nil_of_length_eq_zero hlen
    have h2 : rest = [] := List.eq_nil_of_length_eq_zero (by simpa using hr1)
    subst h1 h2
    exact .inl ⟨a, rfl, rfl⟩
  right
  have hspot : a.spot = none := by
    by_cases h0 : 0 < len
    · have h1 : 0 < elems.length := by omega
      have := hel 0 h0
      rw [List.getElem?_eq_getElem h1] at this
      obtain ⟨c, hc1, _⟩ := cell _ _ this
      simp only [Nat.zero_mul] at hc1
      have := World.cell?_spot hc1
      simpa [Addr.add] using this
    · have h1 : 0 < rest.length := by omega
      have := hr2 0 (by omega)
      rw [List.getElem?_eq_getElem h1] at this
      obtain ⟨c, hc1, _⟩ := cell _ _ this
      have h2 := World.cell?_spot hc1
      simpa [Addr.add, show len = 0 from by omega] using h2
  obtain ⟨b, off, spot⟩ := a
  simp only at hspot
  subst hspot
  refine ⟨b, off, len, cap, elems.map (·.1), rest.map (·.1), n, rfl, hl, rfl, by simpa using hlen, fun i hi => ?_⟩
  have h1 : i < elems.length := by omega
  have h2 := hel i hi
  rw [List.getElem?_eq_getElem h1] at h2
  obtain ⟨c, h3, h4⟩ := cell _ _ h2
  refine ⟨c, elems[i], ?_, h4, by simp [h1]⟩
  rw [hc, Nat.mul_one] at h3
  rw [← Go.WideShapes.add_plain]; exact h3

theorem rep_slice {b off len cap : Nat} {us : List T} (hlen : us.length = len) (hl : len ≤ cap) (hno : T.noOwnL us = true) (h : ∀ i (hi : i < us.length), ∃ c, w.cell? ⟨b, off + i, none⟩ = some c ∧ rep fm okCl w c us[i]) :
    rep fm okCl w (.slice (some ⟨b, off, none⟩) len cap) (.mem .old (some 1) us) := by
  rw [rep_mem]
  refine ⟨⟨⟨len, rfl, by simp [hlen], by simp, hl⟩, fun i hi => ?_⟩, fun _ => rfl, by simp, fun _ => hno, ?_⟩
  · obtain ⟨c, hc, _⟩ := h i hi
    simp only [blk, ofs]
    rw [hc]; rfl
  · refine repL_of us 0 fun j hj => ?_
    obtain ⟨c, hc, hr⟩ := h j hj
    simp only [kid, Nat.zero_add]
    rw [hc]
    exact hr

/-- How much a datum holds. -/
structure Bulk (m : DataW H → Nat) : Prop where
  slice : ∀ es rest, es.length ≤ m (.slice es rest)
  elem : ∀ es rest d, d ∈ es → m d ≤ m (.slice es rest)
  part : ∀ ps d, d ∈ ps → m d ≤ m (.agg ps)

theorem open_rawI {m : DataW H → Nat} (hm : Bulk m) {t e : TypeId} {fuel : Nat} {cs : List Value} {x : DataW H × List MemPlace} (ht : P.underlying t = some (.slice e)) (he : P.underlying e = some (.int .i64)) (hc : P.cellsOf e = 1)
    (h : DataW.trod enc P w base (fun _ => true) held fuel t cs = some x) : ∃ v o, cs = [v] ∧ rep fm okCl w v (rawI o) ∧ (lst o).length ≤ m x.1 ∧ ∀ n ∈ lst o, (Lit.int .i64 n).wf = true := by
  rcases open_raw ht hc h with ⟨rfl, hx⟩ | ⟨a, rfl, hx⟩ | ⟨b, off, len, cap, ds, rest, n, rfl, hl, hx, hlen, hel⟩
  · exact ⟨_, .no, rfl, ⟨rfl, rfl⟩, by simp, by simp⟩
  · exact ⟨_, .odd a, rfl, ⟨rfl, rfl⟩, by simp, by simp⟩
  · obtain ⟨zs, h1, h2⟩ := each (Q := fun i (z : Int) => w.cell? ⟨b, off + i, none⟩ = some (.int .i64 z) ∧ (Lit.int .i64 z).wf = true) len (fun i hi => by
      obtain ⟨c, y, h3, h4, _⟩ := hel i hi
      obtain ⟨z, h5, _, h6⟩ := DataW.trod_int he h4
      simp only [List.cons.injEq, and_true] at h5
      exact ⟨z, by rw [h3, h5], h6⟩)
    refine ⟨_, .of zs, rfl, rep_slice (by simp [h1]) hl (by simp) (fun i hi => ?_), ?_, fun n hn => ?_⟩
    · have hi' : i < zs.length := by simpa using hi
      exact ⟨_, (h2 i hi').1, by simp [rep, scal]⟩
    · rw [hx]
      exact Nat.le_trans (by simp [h1, hlen]) (hm.slice ds rest)
    · obtain ⟨i, hi, rfl⟩ := List.getElem_of_mem hn
      exact (h2 i hi).2

theorem open_rawT {m : DataW H → Nat} (hm : Bulk m) {t r e : TypeId} {fuel : Nat} {cs : List Value} {x : DataW H × List MemPlace} (ht : P.underlying t = some (.slice r)) (hr : P.underlying r = some (.slice e)) (he : P.underlying e = some (.int .i64)) (hcr : P.cellsOf r = 1) (hc : P.cellsOf e = 1)
    (h : DataW.trod enc P w base (fun _ => true) held fuel t cs = some x) : ∃ v o, cs = [v] ∧ rep fm okCl w v (rawT o) ∧ (lst o).length ≤ m x.1 ∧ ∀ q ∈ lst o, (lst q).length ≤ m x.1 ∧ ∀ n ∈ lst q, (Lit.int .i64 n).wf = true := by
  rcases open_raw ht hcr h with ⟨rfl, hx⟩ | ⟨a, rfl, hx⟩ | ⟨b, off, len, cap, ds, rest, n, rfl, hl, hx, hlen, hel⟩
  · exact ⟨_, .no, rfl, ⟨rfl, rfl⟩, by simp, by simp⟩
  · exact ⟨_, .odd a, rfl, ⟨rfl, rfl⟩, by simp, by simp⟩
  · obtain ⟨zs, h1, h2⟩ := each (Q := fun i (z : Rw Int) => ∃ c, w.cell? ⟨b, off + i, none⟩ = some c ∧ rep fm okCl w c (rawI z) ∧ (lst z).length ≤ m x.1 ∧ ∀ n ∈ lst z, (Lit.int .i64 n).wf = true) len (fun i hi => by
      obtain ⟨c, y, h3, h4, h5⟩ := hel i hi
      obtain ⟨v, o, h6, h7, h8, h9⟩ := open_rawI (fm := fm) hm hr he hc h4
      simp only [List.cons.injEq, and_true] at h6
      refine ⟨o, c, h3, h6 ▸ h7, Nat.le_trans h8 ?_, h9⟩
      rw [hx]
      exact hm.elem ds rest _ (List.mem_of_getElem? h5))
    refine ⟨_, .of zs, rfl, rep_slice (by simp [h1]) hl (by simp) (fun i hi => ?_), ?_, fun n hn => ?_⟩
    · have hi' : i < zs.length := by simpa using hi
      obtain ⟨c, h3, h4, _⟩ := h2 i hi'
      exact ⟨c, h3, by simpa using h4⟩
    · rw [hx]
      exact Nat.le_trans (by simp [h1, hlen]) (hm.slice ds rest)
    · obtain ⟨i, hi, rfl⟩ := List.getElem_of_mem hn
      obtain ⟨c, _, _, h3⟩ := h2 i hi
      exact h3

/-- An argument that is a slice of numbers. -/
theorem open_argI {m : DataW H → Nat} (hm : Bulk m) {rc : Reach} {b0 : Nat} {t e : TypeId} {v : Value} {d : DataW H} {ps : List MemPlace} (ht : P.underlying t = some (.slice e)) (he : P.underlying e = some (.int .i64)) (hc : P.cellsOf e = 1)
    (hval : Value.okWide P w rc b0 t v) (h : DataW.Trod enc P w base (fun _ => true) held t v d ps) : ∃ a, rep fm okCl w v (rawI a) ∧ (lst a).length ≤ m d := by
  obtain ⟨ad, len, cap, rfl⟩ := Go.WideShapes.okWide_slice ht hval
  obtain ⟨fuel, h⟩ := h
  obtain ⟨v0, a, e1, e2, e3, _⟩ := open_rawI (fm := fm) hm ht he hc h
  simp only [Value.cells, List.cons.injEq, and_true] at e1
  subst e1
  exact ⟨a, e2, e3⟩
/-- A structure of two tables. -/
theorem open_sol {m : DataW H → Nat} (hm : Bulk m) {rc : Reach} {b0 : Nat} {t r e : TypeId} {f0 f1 : Field} {v : Value} {d : DataW H} {ps : List MemPlace} (ht : P.underlying t = some (.struct #[f0, f1])) (h0 : P.underlying f0.type = some (.slice r)) (h1 : P.underlying f1.type = some (.slice r)) (hr : P.underlying r = some (.slice e)) (he : P.underlying e = some (.int .i64))
    (hn : P.cellsOf t = 2) (hn0 : P.cellsOf f0.type = 1) (hn1 : P.cellsOf f1.type = 1) (hcr : P.cellsOf r = 1) (hc : P.cellsOf e = 1) (hof : f0.offset = 0) (hof1 : f1.offset = 1)
    (hval : Value.okWide P w rc b0 t v) (h : DataW.Trod enc P w base (fun _ => true) held t v d ps) :
    ∃ a b, rep fm okCl w v (.agg [rawT a, rawT b]) ∧ ((lst a).length ≤ m d ∧ ∀ q ∈ lst a, (lst q).length ≤ m d ∧ ∀ n ∈ lst q, (Lit.int .i64 n).wf = true) ∧ ((lst b).length ≤ m d ∧ ∀ q ∈ lst b, (lst q).length ≤ m d ∧ ∀ n ∈ lst q, (Lit.int .i64 n).wf = true) := by
  obtain ⟨cs, rfl, hs⟩ := Go.WideShapes.okWide_struct ht hval
  obtain ⟨fuel, h⟩ := h
  obtain ⟨y0, y1, n, hx, hl, g0, g1⟩ := Go.ChangeShapes.trod_struct2 ht h
  simp only [Prod.mk.injEq] at hx
  obtain ⟨rfl, rfl⟩ := hx
  rw [hn] at hs
  obtain ⟨c0, c1, rfl⟩ : ∃ c0 c1, cs = #[c0, c1] := by
    match cs, hs with
    | ⟨[c0, c1]⟩, _ => exact ⟨c0, c1, rfl⟩
  simp only [Value.cells, hof, hn0, List.drop_zero, List.take_succ_cons, List.take_zero] at g0
  simp only [Value.cells, hof1, hn1, List.drop_succ_cons, List.drop_zero, List.take_succ_cons, List.take_zero] at g1
  obtain ⟨v0, a, e1, e2, e3, e4⟩ := open_rawT (fm := fm) hm h0 hr he hcr hc g0
  obtain ⟨v1, b, i1, i2, i3, i4⟩ := open_rawT (fm := fm) hm h1 hr he hcr hc g1
  simp only [List.cons.injEq, and_true] at e1 i1
  subst e1 i1
  have hp : m y0.1 ≤ m (.agg [y0.1, y1.1]) := hm.part _ _ (by simp)
  have hp1 : m y1.1 ≤ m (.agg [y0.1, y1.1]) := hm.part _ _ (by simp)
  exact ⟨a, b, ⟨⟨_, rfl, rfl⟩, by simpa [kid] using e2, by simpa [kid] using i2, trivial⟩, ⟨by omega, fun q hq => ⟨Nat.le_trans (e4 q hq).1 hp, (e4 q hq).2⟩⟩, ⟨by omega, fun q hq => ⟨Nat.le_trans (i4 q hq).1 hp1, (i4 q hq).2⟩⟩⟩

/-! ### What a statement asks -/

theorem all_stays {W W' : World} {sp' : Nat → Bool} (hl : laidOutB P = true) : ∀ {ts : List TypeId} {vs : List Value} {ds : List (DataW H)} {ps : List MemPlace}, (∀ t ∈ ts, P.readableRec t = true ∧ t < P.types.size) →
    DataW.TrodAll enc P W 0 (fun _ => true) true ts vs ds ps → (∀ p ∈ ps, W.sameAt W' p) → (∀ p ∈ ps, sp' p.block = true) → DataW.TrodAll enc P W' 0 sp' true ts vs ds ps
  | [], vs, ds, ps, _, h, _, _ => by
    obtain ⟨rfl, rfl, rfl⟩ := Go.ChangeShapes.trodAll_nil h
    rfl
  | t :: ts, vs, ds, ps, ht, h, h1, h2 => by
    obtain ⟨v, vs', d, ds', p, q, rfl, rfl, rfl, h3, h4⟩ := Go.ChangeShapes.trodAll_cons h
    exact ⟨p, q, Go.WideElems.Trod_stays hl (ht t (by simp)).1 (ht t (by simp)).2 h3 (fun x hx => h1 x (by simp [hx])) (fun x hx => h2 x (by simp [hx])),
      all_stays hl (fun t' h' => ht t' (by simp [h'])) h4 (fun x hx => h1 x (by simp [hx])) (fun x hx => h2 x (by simp [hx])), rfl⟩

/-- The call returned true, and what was there is as it was. -/
theorem post_true {f : Func} {s : ChangeSpec} {W W' : World} {args : Array Value} {ds gs : List (DataW H)} {before : List MemPlace} {rt : TypeId} (hW : DataW.Whole enc P f.params.toList s.vars false W args.toList ds gs before) (hK : Keeps (fun _ => False) W W')
    (hv : s.vars = []) (hres : f.resultTypes = #[rt]) (hrt : P.underlying rt = some .bool) (hl : laidOutB P = true) (hr : ∀ t ∈ f.params.toList, P.readableRec t = true ∧ t < P.types.size)
    (hfn : s.fn H ds = { results := [.lit (.bool true)], args := ds }) : s.post enc P f false true false false W args (.bool true) W' := by
  have hlt := hW.lt
  have hW' := hW
  obtain ⟨p, q, hA, hV, rfl, _, _⟩ := hW
  rw [hv] at hV
  have hg : gs = [] ∧ q = [] := by
    cases gs with
    | nil => exact ⟨rfl, by simpa [DataW.TrodVars] using hV⟩
    | cons d ds => simp [DataW.TrodVars] at hV
  obtain ⟨rfl, rfl⟩ := hg
  simp only [List.append_nil] at hlt
  refine ⟨ds, [], p ++ [], [], p, [], hW', ?_, ?_, ?_, hK.but _, by simp⟩
  · rw [List.append_nil, hfn, hres]
    refine ⟨[], [], ⟨1, ?_⟩, rfl, rfl⟩
    simp [DataW.trod, hrt, Value.cells]
  · rw [List.append_nil, hfn]
    exact all_stays hl hr hA (fun x hx => hK.at (hlt x hx)) (fun x hx => by simpa using hlt x hx)
  · rw [List.append_nil, hfn, hv]
    rfl
end
end Go.Mch
/- What maps reach; the numbers of orbits. In plain Lean. -/
namespace Go.Mch

def act (p : List Int) (x : Int) : Int := p.getD x.toNat 0
/-- Closed under the maps. -/
def Cl (ms : List (List Int)) (S : Int → Prop) : Prop := ∀ x, S x → ∀ p ∈ ms, S (act p x)
/-- What the maps reach from i. -/
def Rch (ms : List (List Int)) (i x : Int) : Prop := ∀ S : Int → Prop, S i → Cl ms S → S x
/-! ### The numbers of the orbits -/

/-- Numbers, k given to what i reaches. -/
noncomputable def markO (ms : List (List Int)) (i : Int) (lab : List Int) (c : Int) : List Int := (List.range lab.length).map fun x : Nat => if dec (Rch ms i x) then c else lab.getD x 0
@[simp] theorem markO_length (ms : List (List Int)) (i : Int) (lab : List Int) (c : Int) : (markO ms i lab c).length = lab.length := by simp [markO]
/-- The numbers and how many orbits there are, when k elements are done. -/
noncomputable def orbS (ms : List (List Int)) (n : Nat) : Nat → List Int × Int
  | 0 => (List.replicate n (-1), 0)
  | k + 1 => if 0 ≤ (orbS ms n k).1.getD k 0 then orbS ms n k else (markO ms k (orbS ms n k).1 (orbS ms n k).2, (orbS ms n k).2 + 1)
noncomputable def orbL (ms : List (List Int)) (n : Nat) : List Int := (orbS ms n n).1
@[simp] theorem orbS_length (ms : List (List Int)) (n k : Nat) : (orbS ms n k).1.length = n := by
  induction k with
  | zero => simp [orbS]
  | succ k ih => unfold orbS; split <;> simp [ih]
@[simp] theorem orbL_length (ms : List (List Int)) (n : Nat) : (orbL ms n).length = n := by simp [orbL]

end Go.Mch
/- What a code leads to with something that is only known at its end, it leads to with that known before. -/
namespace Go.Mch

theorem bx {α β : Type} {o : Option α} {f : α → Prop} {g : β → α → Prop} (hf : ∀ a, f a → ∃ r, g r a) (h : bindP o f) : ∃ r, bindP o (g r) := by
  obtain ⟨a, h1, h2⟩ := h
  obtain ⟨r, h3⟩ := hf a h2
  exact ⟨r, a, h1, h3⟩
theorem ax {β : Type} {p : Prop} {K : β → Prop} (h : p ∧ ∃ r, K r) : ∃ r, p ∧ K r := by
  obtain ⟨h1, r, h2⟩ := h
  exact ⟨r, h1, h2⟩

theorem stepQ_ex {β : Type} {G : Rl} {m : K} {d : Option Nat} {q : Q} {k : β → Env → Prop} {e : Env} (h : stepQ G m d q (fun e => ∃ r, k r e) e) : ∃ r, stepQ G m d q (k r) e := by
  cases q <;> simp only [stepQ] at h ⊢
  case mv => exact bx (fun _ h => h) h
  case mvw => exact bx (fun _ h => ax h) h
  case stsw => exact bx (fun _ h => bx (fun _ h => bx (fun _ h => ax ⟨h.1, bx (fun _ h => h) h.2⟩) h) h) h
  case sts x y =>
    refine bx (fun a ha => bx (fun v hv => ?_) ha) h
    split at hv
    · split at hv
      · exact ax hv
      · exact hv.elim
    · exact hv.elim
  case asg x =>
    refine bx (fun v hv => ?_) h
    cases v
    case val t => exact hv
    all_goals exact bx (fun _ h => h) hv
  case pick => exact bx (fun _ h => bx (fun _ h => h) h) h
  case bin => exact bx (fun _ h => bx (fun _ h => bx (fun _ h => h) h) h) h
  case beq => exact bx (fun _ h => bx (fun _ h => h) h) h
  case isnil => exact bx (fun _ h => h) h
  case fncl => exact bx (fun _ h => bx (fun _ h => h) h) h
  case slen => exact bx (fun _ h => h) h
  case un => exact bx (fun _ h => bx (fun _ h => h) h) h
  case conv => exact bx (fun _ h => h) h
  case len => exact bx (fun _ h => h) h
  case idx => exact bx (fun _ h => bx (fun _ h => bx (fun _ h => h) h) h) h
  case fld => exact bx (fun _ h => bx (fun _ h => h) h) h
  case fldv => exact bx (fun _ h => bx (fun _ h => h) h) h
  case ld => exact bx (fun _ h => bx (fun _ h => h) h) h
  case st =>
    refine bx (fun a ha => bx (fun v hv => bx (fun y hy => ?_) hv) ha) h
    split at hy
    · split at hy
      · exact ax hy
      · exact hy.elim
    · exact hy.elim
  case nilck =>
    refine bx (fun a ha => ?_) h
    split at ha
    · exact ha
    · exact ha
    · exact ha.elim
  case alloc => exact h
  case box => exact bx (fun _ h => bx (fun _ h => ax h) h) h
  case build => exact bx (fun _ h => bx (fun _ h => h) h) h
  case mks => exact bx (fun _ h => ax h) h
  case bsl => exact bx (fun _ h => bx (fun _ h => ax h) h) h
  case app =>
    refine bx (fun a ha => bx (fun b hb => bx (fun z hz => bx (fun u hu => ?_) hz) hb) ha) h
    have h2 := hu.2
    split at h2
    · by_cases h0 : u.1 = []
      · obtain ⟨r, h3⟩ := h2.1 h0
        exact ⟨r, hu.1, fun _ => h3, fun h4 => (h4 h0).elim⟩
      · obtain ⟨r, h3⟩ := h2.2 h0
        exact ⟨r, hu.1, fun h4 => (h0 h4).elim, fun _ => h3⟩
    · obtain ⟨r, h3⟩ := h2
      exact ⟨r, hu.1, h3⟩
  case sl => exact bx (fun _ h => bx (fun _ h => bx (fun _ h => bx (fun _ h => h) h) h) h) h
  case ext => exact bx (fun _ h => bx (fun _ h => h) h) h
  case fnc => exact bx (fun _ h => h) h
  case call f args =>
    refine bx (fun fv hv => ?_) h
    split at hv
    · refine bx (fun ts ht => ?_) hv
      obtain ⟨ts', r, h1, h2, h3, h4⟩ := ht
      obtain ⟨y, h5⟩ := bx (fun _ h => h) h4
      exact ⟨y, ts', r, h1, h2, h3, h5⟩
    · exact hv.elim
  case freeze => exact bx (fun _ h => h) h
  case settle => exact bx (fun _ h => h) h
  case mm => exact bx (fun _ h => bx (fun _ h => bx (fun _ h => h) h) h) h
  case cap0 => exact bx (fun _ h => bx (fun _ h => h) h) h
  case bstr => exact bx (fun _ h => bx (fun _ h => h) h) h
  case bsls => exact bx (fun _ h => bx (fun _ h => ax h) h) h
  case bslv => exact bx (fun _ h => bx (fun _ h => h) h) h
  case bsl1 n =>
    refine bx (fun v hv => ?_) h
    split at hv
    · exact ax hv
    · exact hv.elim
  case apz =>
    refine bx (fun v hv => bx (fun _ hv => ?_) hv) h
    split at hv
    · exact ax hv
    · exact hv.elim
  case arr => exact bx (fun _ h => bx (fun _ h => bx (fun _ h => h) h) h) h
  case mkset => exact h
  case look => exact bx (fun _ h => bx (fun _ h => bx (fun _ h => h) h) h) h
  case upd => exact bx (fun _ h => bx (fun _ h => bx (fun _ h => h) h) h) h
  case bslk x n =>
    refine bx (fun v hv => bx (fun u hu => ?_) hv) h
    split at hu
    · exact ax hu
    · exact hu.elim
  case appk x y n =>
    refine bx (fun v hv => bx (fun v hv => bx (fun v hv => bx (fun v hv => bx (fun u hu => ?_) hv) hv) hv) hv) h
    split at hu
    · exact ax hu
    · exact hu.elim
  case boxk s =>
    refine bx (fun v hv => ?_) h
    split at hv
    · exact ax hv
    · exact hv.elim
  case callm f args ks =>
    refine bx (fun fv hv => ?_) h
    cases fv <;> try exact hv.elim
    rename_i t
    cases t <;> try exact hv.elim
    refine bx (fun vs hv => ax ⟨hv.1, bx (fun y hy => ?_) hv.2⟩) hv
    obtain ⟨h0, ts', r, h1, h2, h3⟩ := hy
    obtain ⟨z, h4⟩ := bx (fun _ h => bx (fun _ h => h) h) h3
    exact ⟨z, h0, ts', r, h1, h2, h4⟩
  refine bx (fun a ha => bx (fun n hn => ?_) ha) h
  split at hn
  · exact bx (fun _ h => h) hn
  · exact hn.elim

theorem stepO_ex {β : Type} {G : Rl} {m : K} {o : O} {k : β → Env → Prop} {e : Env} (h : stepO G m o (fun e => ∃ r, k r e) e) : ∃ r, stepO G m o (k r) e := by
  unfold stepO at *
  split
  · rename_i hg; simp only [hg] at h; exact stepQ_ex h
  · rename_i s b hg
    simp only [hg] at h
    split at h
    · split at h
      · rename_i h1; simp only [if_pos h1]; exact stepQ_ex h
      · rename_i h1; simp only [if_neg h1]; exact h
    · exact h
    · exact h.elim

theorem wpL_ex {β : Type} {G : Rl} {m : K} : ∀ (l : List O) {k : β → Env → Prop} {e : Env}, wpL G m l (fun e => ∃ r, k r e) e → ∃ r, wpL G m l (k r) e
  | [], _, _, h => h
  | _ :: l, k, _, h => stepO_ex (k := fun r => wpL G m l (k r)) (stepO_mono (fun _ _ _ _ h => h) (fun _ h => wpL_ex l h) h)

theorem after_ex {β : Type} {n : β → Env → Prop} {R : β → X → Env → Prop} : ∀ x e, X.after (fun e => ∃ r, n r e) (fun x e => ∃ r, R r x e) x e → ∃ r, X.after (n r) (R r) x e
  | .nrm, _, h => h
  | .ext _, _, h => h
  | .ret, _, h => h

theorem wp_ex {β : Type} {G : Rl} {m : K} (c : C) : ∀ {R : β → X → Env → Prop} {e : Env}, wp G m c (fun x e => ∃ r, R r x e) e → ∃ r, wp G m c (R r) e := by
  induction c with
  | skip => exact fun h => h
  | region dr ops ks => exact fun h => wpL_ex ops h
  | seq a b iha ihb =>
    intro R e h
    exact iha (wp_mono (fun _ _ _ _ h => h) a (fun x e hx => after_ex x e (after_mono (fun _ h => ihb h) (fun _ _ h => h) x e hx)) h)
  | cond c a b iha ihb =>
    intro R e h
    refine bx (fun t ht => ?_) h
    cases t
    · exact ihb ht
    · exact iha ht
  | block id b ih =>
    intro R e h
    refine ih (wp_mono (fun _ _ _ _ h => h) b (fun x e hx => ?_) h)
    cases x
    · exact hx
    · simp only [X.out] at hx ⊢
      split at hx
      · rename_i h1; simp only [if_pos h1]; exact hx
      · rename_i h1; simp only [if_neg h1]; exact hx
    · exact hx
  | loop b ih =>
    intro R e h
    refine h (fun e => ∃ r, wp G m (.loop b) (R r) e) fun e he => ?_
    obtain ⟨r, hr⟩ := ih (R := fun r => X.after (wp G m (.loop b) (R r)) (R r)) (wp_mono (fun _ _ _ _ h => h) b (fun x e hx => after_ex x e hx) he)
    exact ⟨r, wpLoop_round hr⟩
  | exit id => exact fun h => h
  | ret => exact fun h => h
  | stuck => exact fun h => h.elim

/-- A function that reads its arguments only, and whose result is found on the way. -/
theorem Call.find {α : Type} {pg : Pg} {f : Nat} {args : List T} {fn : F} {r : α → T} {Q : α → Prop} (hf : pg.fn f = some fn) (hn : fn.np = args.length) (hl : T.noOwnL args = true)
    (h : wp (Call pg) .fresh fn.body (fun x e => ∃ l, Q l ∧ post fn.rs args args (r l) x e) (init args)) : ∃ l, Q l ∧ Call pg f args args (r l) := by
  obtain ⟨⟨l, hq⟩, hl2⟩ := wp_ex (β := { l // Q l }) (R := fun l x e => post fn.rs args args (r l.1) x e) fn.body (wp_mono (fun _ _ _ _ h => h) _ (fun _ _ ⟨l, hq, hp⟩ => ⟨⟨l, hq⟩, hp⟩) h)
  exact ⟨l, hq, Call.intro hf hn hl hl2⟩
end Go.Mch
/- Numbering anew, elements that act alike, of the reference and of the program. -/
namespace Go.Mch

/-- The different numbers of a list, each at its first place. -/
def uniqs (xs : List Int) : List Int := xs.foldl (fun s x => if x ∈ s then s else s ++ [x]) []
def renum (xs : List Int) : List Int := (List.range xs.length).map fun k => ixOf (uniqs (xs.take (k + 1))) (xs.getD k 0)
@[simp] theorem renum_length (xs : List Int) : (renum xs).length = xs.length := by simp [renum]

end Go.Mch
/- The maps of a solution, one row behind the other, of the reference and of the program. -/
namespace Go.Mch

theorem frzL_rows (k : K) (t : List (List Int)) : T.frzL k (rows t) = t.map fun xs => .mem k (some 1) (xs.map I) := by
  have hI : ∀ xs : List Int, T.frzL k (xs.map I) = xs.map I := fun xs => by
    induction xs with
    | nil => rfl
    | cons x xs ih => simp [ih]
  induction t with
  | nil => rfl
  | cons r t ih =>
    show T.frz k _ :: T.frzL k (rows t) = _
    rw [ih]
    simp [hI]
theorem frz_rows_old (t : List (List Int)) : T.noOwnL (T.frzL .fresh (rows t)) = true ∧ T.eryL .old (T.frzL .fresh (rows t)) = tbL t := by
  rw [frzL_rows]
  induction t with
  | nil => exact ⟨rfl, rfl⟩
  | cons r t ih => exact ⟨by simp [ih.1], by simp [ih.2, tbL]⟩
/-! ### What is reached from an element -/

end Go.Mch
/- Elements that act alike, twists, of the reference and of the program. -/
namespace Go.Mch

/-- One more than the greatest number, or 0. -/
def greatest (xs : List Int) : Int := xs.foldl (fun a x => if a ≤ x then x + 1 else a) 0
/-- Two elements have the same rows in both tables. -/
def eqv (a b : List (List Int)) (i j : Nat) : Prop := a.getD i [] = a.getD j [] ∧ b.getD i [] = b.getD j []
instance (a b : List (List Int)) (i j : Nat) : Decidable (eqv a b i j) := by unfold eqv; infer_instance
/-- The first element that is like element i. -/
def lab (a b : List (List Int)) (i : Nat) : Nat := ((List.range i).find? fun j => decide (eqv a b i j)).getD i
/-- The numbers of the classes of elements that act alike. -/
def classes (f s : List (List Int)) : List Int := renum ((List.range f.length).map fun i => (lab f (turnL s) i : Int))
@[simp] theorem classes_length (f s : List (List Int)) : (classes f s).length = f.length := by simp [classes]
def idL (n : Nat) : List Int := (List.range n).map fun i : Nat => (i : Int)
@[simp] theorem idL_length (n : Nat) : (idL n).length = n := by simp [idL]
/-- The first like ones of the first i elements, then the elements. -/
def midL (a b : List (List Int)) (n i : Nat) : List Int := (List.range n).map fun x : Nat => if x < i then (lab a b x : Int) else (x : Int)
@[simp] theorem midL_length (a b : List (List Int)) (n i : Nat) : (midL a b n i).length = n := by simp [midL]
/-! ### IsTwist -/

end Go.Mch
/- The numbers of the orbits, of the reference and of the program. -/
namespace Go.Mch

/-- Numbers, c given to the elements of a list. -/
def putL (lab : List Int) (l : List Int) (c : Int) : List Int := (List.range lab.length).map fun x : Nat => if (x : Int) ∈ l then c else lab.getD x 0
@[simp] theorem putL_length (lab l : List Int) (c : Int) : (putL lab l c).length = lab.length := by simp [putL]
end Go.Mch
/- OrbitsOfSolution, IsIndecomposable, of the reference and of the program. -/
namespace Go.Mch

/-- The numbers of the orbits of a solution. -/
noncomputable def solO (f s : List (List Int)) : List Int := orbL (f ++ turnL s) f.length
@[simp] theorem solO_length (f s : List (List Int)) : (solO f s).length = f.length := by simp [solO]
/-! ### IsIndecomposable -/

end Go.Mch
/- Elements that act alike are led to elements that act alike: in plain Lean. -/
namespace Go.Mch

/-- A nondegenerate solution, by its maps. -/
structure Nd (n : Nat) (σ τ : Nat → Nat → Nat) : Prop where
  rs : ∀ x y, x < n → y < n → σ x y < n
  rt : ∀ x y, x < n → y < n → τ x y < n
  is : ∀ x y y', x < n → y < n → y' < n → σ x y = σ x y' → y = y'
  it : ∀ x y y', x < n → y < n → y' < n → τ x y = τ x y' → y = y'
  ss : ∀ x w, x < n → w < n → ∃ y, y < n ∧ σ x y = w
  st : ∀ x w, x < n → w < n → ∃ y, y < n ∧ τ x y = w
  e1 : ∀ x y z, x < n → y < n → z < n → σ (σ x y) (σ (τ y x) z) = σ x (σ y z)
  e2 : ∀ x y z, x < n → y < n → z < n → τ (σ (τ y x) z) (σ x y) = σ (τ (σ y z) x) (τ z y)
  e3 : ∀ x y z, x < n → y < n → z < n → τ z (τ y x) = τ (τ z y) (τ (σ y z) x)

/-- Two elements act alike. -/
def Alk (n : Nat) (σ τ : Nat → Nat → Nat) (x x' : Nat) : Prop := ∀ y, y < n → σ x y = σ x' y ∧ τ x y = τ x' y
theorem Nd.c1 {n : Nat} {σ τ : Nat → Nat → Nat} (h : Nd n σ τ) {x y y' : Nat} (hx : x < n) (hy : y < n) (hy' : y' < n) (ha : Alk n σ τ y y') : Alk n σ τ (σ x y) (σ x y') := by
  intro w hw
  have ht := (ha x hx).2
  constructor
  · obtain ⟨z, hz, rfl⟩ := h.ss (τ y x) w (h.rt _ _ hy hx) hw
    have a1 := h.e1 x y z hx hy hz
    have a2 := h.e1 x y' z hx hy' hz
    rw [← ht] at a2
    rw [a1, a2, (ha z hz).1]
  · have a1 := h.e3 w x y hw hx hy
    have a2 := h.e3 w x y' hw hx hy'
    rw [← (ha _ (h.rt x w hx hw)).2, a1, ← ht] at a2
    exact h.it _ _ _ (h.rt _ _ hy hx) (h.rt _ _ (h.rs _ _ hx hy) hw) (h.rt _ _ (h.rs _ _ hx hy') hw) a2
theorem Nd.c2 {n : Nat} {σ τ : Nat → Nat → Nat} (h : Nd n σ τ) {x x' y : Nat} (hx : x < n) (hx' : x' < n) (hy : y < n) (ha : Alk n σ τ x x') : Alk n σ τ (τ y x) (τ y x') := by
  intro w hw
  have hs := (ha y hy).1
  constructor
  · have a1 := h.e1 x y w hx hy hw
    have a2 := h.e1 x' y w hx' hy hw
    rw [← (ha _ (h.rs y w hy hw)).1, ← a1, ← hs] at a2
    exact (h.is _ _ _ (h.rs _ _ hx hy) (h.rs _ _ (h.rt _ _ hy hx') hw) (h.rs _ _ (h.rt _ _ hy hx) hw) a2).symm
  · obtain ⟨u, hu, rfl⟩ := h.st (σ x y) w (h.rs _ _ hx hy) hw
    have a1 := h.e3 u x y hu hx hy
    have a2 := h.e3 u x' y hu hx' hy
    rw [← (ha u hu).2, a1, ← hs] at a2
    exact a2

/-- A quotient: c numbers the classes, d gives an element of each. -/
structure Quo (n m : Nat) (σ τ : Nat → Nat → Nat) (c d : Nat → Nat) : Prop where
  cm : ∀ x, x < n → c x < m
  dn : ∀ i, i < m → d i < n
  cd : ∀ i, i < m → c (d i) = i
  ca : ∀ x x', x < n → x' < n → (c x = c x' ↔ Alk n σ τ x x')
theorem Quo.al {n m : Nat} {σ τ : Nat → Nat → Nat} {c d : Nat → Nat} (q : Quo n m σ τ c d) {x : Nat} (hx : x < n) : Alk n σ τ (d (c x)) x :=
  (q.ca _ _ (q.dn _ (q.cm x hx)) hx).1 (q.cd _ (q.cm x hx))
/-- The maps of the quotient may be read off at any elements. -/
theorem Quo.fs {n m : Nat} {σ τ : Nat → Nat → Nat} {c d : Nat → Nat} (h : Nd n σ τ) (q : Quo n m σ τ c d) {x y : Nat} (hx : x < n) (hy : y < n) : c (σ (d (c x)) (d (c y))) = c (σ x y) := by
  have h1 := q.dn _ (q.cm x hx)
  have h2 := q.dn _ (q.cm y hy)
  rw [(q.al hx _ h2).1]
  exact (q.ca _ _ (h.rs _ _ hx h2) (h.rs _ _ hx hy)).2 (h.c1 hx h2 hy (q.al hy))
theorem Quo.ft {n m : Nat} {σ τ : Nat → Nat → Nat} {c d : Nat → Nat} (h : Nd n σ τ) (q : Quo n m σ τ c d) {x y : Nat} (hx : x < n) (hy : y < n) : c (τ (d (c y)) (d (c x))) = c (τ y x) := by
  have h1 := q.dn _ (q.cm x hx)
  have h2 := q.dn _ (q.cm y hy)
  rw [(q.al hy _ h1).2]
  exact (q.ca _ _ (h.rt _ _ hy h1) (h.rt _ _ hy hx)).2 (h.c2 h1 hx hy (q.al hx))

theorem inj_of_surj {m : Nat} {g : Nat → Nat} (hs : ∀ w, w < m → ∃ j, j < m ∧ g j = w) : ∀ j j', j < m → j' < m → g j = g j' → j = j' := by
  have hnd : ((List.range m).map g).Nodup := nodup_of_sub (List.range m) ((List.range m).map g) List.nodup_range (fun x hx => by
    obtain ⟨j, hj, rfl⟩ := hs x (by simpa using hx)
    exact List.mem_map.2 ⟨j, by simpa using hj, rfl⟩) (by simp)
  intro j j' hj hj' he
  have := (List.getElem_inj (xs := (List.range m).map g) (i := j) (j := j') (h₀ := by simpa using hj) (h₁ := by simpa using hj') hnd).1 (by simpa using he)
  exact this

/-- The quotient of a nondegenerate solution is one. -/
theorem Quo.nd {n m : Nat} {σ τ : Nat → Nat → Nat} {c d : Nat → Nat} (h : Nd n σ τ) (q : Quo n m σ τ c d) : Nd m (fun i j => c (σ (d i) (d j))) (fun i j => c (τ (d i) (d j))) := by
  have rs : ∀ x y, x < m → y < m → c (σ (d x) (d y)) < m := fun x y hx hy => q.cm _ (h.rs _ _ (q.dn _ hx) (q.dn _ hy))
  have rt : ∀ x y, x < m → y < m → c (τ (d x) (d y)) < m := fun x y hx hy => q.cm _ (h.rt _ _ (q.dn _ hx) (q.dn _ hy))
  have ss : ∀ x w, x < m → w < m → ∃ y, y < m ∧ c (σ (d x) (d y)) = w := fun x w hx hw => by
    obtain ⟨y, hy, he⟩ := h.ss (d x) (d w) (q.dn _ hx) (q.dn _ hw)
    refine ⟨c y, q.cm _ hy, ?_⟩
    have := q.fs h (q.dn _ hx) hy
    rw [q.cd _ hx] at this
    rw [this, he, q.cd _ hw]
  have st : ∀ x w, x < m → w < m → ∃ y, y < m ∧ c (τ (d x) (d y)) = w := fun x w hx hw => by
    obtain ⟨y, hy, he⟩ := h.st (d x) (d w) (q.dn _ hx) (q.dn _ hw)
    refine ⟨c y, q.cm _ hy, ?_⟩
    have := q.ft h hy (q.dn _ hx)
    rw [q.cd _ hx] at this
    rw [this, he, q.cd _ hw]
  -- the class of a map of elements is the quotient's map of the classes
  have ks : ∀ u v, u < n → v < n → c (σ (d (c u)) (d (c v))) = c (σ u v) := fun u v hu hv => q.fs h hu hv
  have kt : ∀ u v, u < n → v < n → c (τ (d (c u)) (d (c v))) = c (τ u v) := fun u v hu hv => q.ft h hv hu
  constructor
  · exact rs
  · exact rt
  · exact fun x y y' hx hy hy' he => inj_of_surj (fun w hw => ss x w hx hw) y y' hy hy' he
  · exact fun x y y' hx hy hy' he => inj_of_surj (fun w hw => st x w hx hw) y y' hy hy' he
  · exact ss
  · exact st
  · intro x y z hx hy hz
    have dx := q.dn _ hx
    have dy := q.dn _ hy
    have dz := q.dn _ hz
    have a1 := h.e1 _ _ _ dx dy dz
    have l1 := ks _ _ (h.rt _ _ dy dx) dz
    rw [q.cd _ hz] at l1
    have l2 := ks _ _ (h.rs _ _ dx dy) (h.rs _ _ (h.rt _ _ dy dx) dz)
    have l3 := ks _ _ dx (h.rs _ _ dy dz)
    rw [q.cd _ hx] at l3
    rw [l1, l2, l3, a1]
  · intro x y z hx hy hz
    have dx := q.dn _ hx
    have dy := q.dn _ hy
    have dz := q.dn _ hz
    have a1 := h.e2 _ _ _ dx dy dz
    have l1 := ks _ _ (h.rt _ _ dy dx) dz
    rw [q.cd _ hz] at l1
    have l2 := kt _ _ (h.rs _ _ (h.rt _ _ dy dx) dz) (h.rs _ _ dx dy)
    have l3 := kt _ _ (h.rs _ _ dy dz) dx
    rw [q.cd _ hx] at l3
    have l4 := ks _ _ (h.rt _ _ (h.rs _ _ dy dz) dx) (h.rt _ _ dz dy)
    rw [l1, l2, l3, l4, a1]
  · intro x y z hx hy hz
    have dx := q.dn _ hx
    have dy := q.dn _ hy
    have dz := q.dn _ hz
    have a1 := h.e3 _ _ _ dx dy dz
    have l1 := kt _ _ dz (h.rt _ _ dy dx)
    rw [q.cd _ hz] at l1
    have l2 := kt _ _ (h.rs _ _ dy dz) dx
    rw [q.cd _ hx] at l2
    have l3 := kt _ _ (h.rt _ _ dz dy) (h.rt _ _ (h.rs _ _ dy dz) dx)
    rw [l1, l2, l3, a1]
end Go.Mch
/- DecompositionOf, of the reference and of the program. -/
namespace Go.Mch

/-- The first k places at which a list has a number with a property. -/
def plK (xs : List Int) (P : Int → Bool) (k : Nat) : List Int := ((List.range k).filter fun i => P (xs.getD i 0)).map fun i : Nat => (i : Int)
def pl (xs : List Int) (P : Int → Bool) : List Int := plK xs P xs.length
end Go.Mch
/- The classes of elements that act alike make a quotient: in plain Lean. -/
namespace Go.Mch

def σN (f : List (List Int)) (x y : Nat) : Nat := (v2 f x y).toNat
def τN (s : List (List Int)) (y x : Nat) : Nat := (v2 s x y).toNat
/-! ### Numbering anew -/

/-! ### The classes -/

/-- The first like elements, of all. -/
def labL (f s : List (List Int)) : List Int := (List.range f.length).map fun i => (lab f (turnL s) i : Int)
@[simp] theorem labL_length (f s : List (List Int)) : (labL f s).length = f.length := by simp [labL]
/-- How many classes there are. -/
def clM (f s : List (List Int)) : Nat := (uniqs (labL f s)).length
def clC (f s : List (List Int)) (x : Nat) : Nat := ((classes f s).getD x 0).toNat
def clD (f s : List (List Int)) (i : Nat) : Nat := (ixOf (labL f s) ((uniqs (labL f s)).getD i 0)).toNat
end Go.Mch
/- The retract of a solution: in plain Lean. -/
namespace Go.Mch

def retF (f s : List (List Int)) : List (List Int) := tabL (clM f s) fun i j => (clC f s (σN f (clD f s i) (clD f s j)) : Int)
def retS (f s : List (List Int)) : List (List Int) := tabL (clM f s) fun i j => (clC f s (τN s (clD f s j) (clD f s i)) : Int)
@[simp] theorem retF_length (f s : List (List Int)) : (retF f s).length = clM f s := by simp [retF]
@[simp] theorem retS_length (f s : List (List Int)) : (retS f s).length = clM f s := by simp [retS]
/-! ### The functions -/

/-- The elements of the classes that have been met. -/
def fsts (f s : List (List Int)) (k : Nat) : List Int := (List.range (uniqs ((labL f s).take k)).length).map fun i => (clD f s i : Int)
@[simp] theorem fsts_length (f s : List (List Int)) (k : Nat) : (fsts f s k).length = (uniqs ((labL f s).take k)).length := by simp [fsts]
end Go.Mch
/- The retract, of the program. -/
namespace Go.Mch

/-! ### Solutions made by values -/

/-! ### The retract -/

def dL (f s : List (List Int)) : List Int := (List.range (clM f s)).map fun i => (clD f s i : Int)
@[simp] theorem dL_length (f s : List (List Int)) : (dL f s).length = clM f s := by simp [dL]
/-! ### RetractOf, of the program -/

end Go.Mch
/- Comparing lists and tables, of Go's library and of the program. -/
namespace Go.Mch

def cmpI (a b : Int) : Int := if a < b then -1 else if b < a then 1 else 0
/-- The lexicographic order. -/
def cmpW {α : Type} (c : α → α → Int) : List α → List α → Int
  | [], [] => 0
  | [], _ :: _ => -1
  | _ :: _, [] => 1
  | a :: as, b :: bs => if c a b ≠ 0 then c a b else cmpW c as bs
theorem cmpI_zero (a b : Int) : cmpI a b = 0 ↔ a = b := by
  unfold cmpI
  constructor
  · intro h
    split at h
    · omega
    · split at h <;> omega
  · rintro rfl; simp
theorem cmpW_zero {α : Type} {c : α → α → Int} (hc : ∀ a b, c a b = 0 ↔ a = b) : ∀ as bs : List α, cmpW c as bs = 0 ↔ as = bs
  | [], [] => by simp [cmpW]
  | [], _ :: _ => by simp [cmpW]
  | _ :: _, [] => by simp [cmpW]
  | a :: as, b :: bs => by
    have ih := cmpW_zero hc as bs
    unfold cmpW
    by_cases h : c a b = 0
    · have := (hc a b).1 h
      subst this
      simp [h, ih]
    · have : a ≠ b := fun he => h ((hc a b).2 he)
      simp [h, this]
abbrev cmpL : List Int → List Int → Int := cmpW cmpI
theorem cmpL_zero (a b : List Int) : cmpL a b = 0 ↔ a = b := cmpW_zero cmpI_zero a b
theorem cmpW_drop {α : Type} {c : α → α → Int} {a b : List α} {i : Nat} (ha : i < a.length) (hb : i < b.length) : cmpW c (a.drop i) (b.drop i) = if c a[i] b[i] ≠ 0 then c a[i] b[i] else cmpW c (a.drop (i + 1)) (b.drop (i + 1)) := by
  rw [List.drop_eq_getElem_cons ha, List.drop_eq_getElem_cons hb, cmpW]
theorem cmpW_end {α : Type} {c : α → α → Int} {a b : List α} {i : Nat} (ha : i < a.length) (hb : ¬ i < b.length) : cmpW c (a.drop i) (b.drop i) = 1 := by
  rw [List.drop_eq_getElem_cons ha, List.drop_of_length_le (by omega : b.length ≤ i), cmpW]
theorem cmpW_last {α : Type} {c : α → α → Int} {a b : List α} : cmpW c (a.drop a.length) (b.drop a.length) = if a.length < b.length then -1 else 0 := by
  rw [List.drop_length]
  split
  · rename_i h; rw [List.drop_eq_getElem_cons h, cmpW]
  · rename_i h; rw [List.drop_of_length_le (by omega : b.length ≤ a.length), cmpW]

def S_nan (pg : Pg) : Prop := ∀ a : Int, Call pg 443 [I a] [I a] (B false)
theorem t_isNaN {pg : Pg} (hp : pg.fn 443 = some c_cmp_isNaN_int64_) : S_nan pg := by
  intro a
  refine Call.intro hp rfl (by simp) ?_
  show wp _ _ c_cmp_isNaN_int64_.body (post [.t 2] _ _ _) _
  simp [c_cmp_isNaN_int64_]
def S_cmpI (pg : Pg) : Prop := ∀ a b : Int, Call pg 395 [I a, I b] [I a, I b] (I (cmpI a b))
theorem t_cmpI {pg : Pg} (hp : pg.fn 395 = some c_cmp_Compare_int64_) (h443 : S_nan pg) : S_cmpI pg := by
  intro a b
  refine Call.intro hp rfl (by simp) ?_
  show wp _ _ c_cmp_Compare_int64_.body (post [.t 4] _ _ _) _
  simp [c_cmp_Compare_int64_]
  refine callR (h443 a) rfl rfl (fun _ => rfl) ?_
  simp
  refine callR (h443 b) rfl rfl (fun _ => rfl) ?_
  unfold cmpI
  by_cases h1 : a < b
  · simp [h1]
  · by_cases h2 : b < a
    · simp [h1, h2]
    · simp [h1, h2]
def S_cmpL (pg : Pg) : Prop := ∀ a b : List Int, a.length ≤ 1048576 → Call pg 314 [ix a, ix b] [ix a, ix b] (I (cmpL a b))
theorem t_cmpL {pg : Pg} (hp : pg.fn 314 = some c_slices_Compare___int64_int64_) (h395 : S_cmpI pg) : S_cmpL pg := by
  intro a b hl
  refine Call.intro hp rfl (by simp) ?_
  show wp _ _ c_slices_Compare___int64_int64_.body (post [.t 4] _ _ _) _
  simp [c_slices_Compare___int64_int64_]
  refine wpLoop_count (fun i e => cmpL a b = cmpL (a.drop i) (b.drop i) ∧ e = fr [(0, some (.val (ix a))), (1, some (.val (ix b))), (9, some (.val (ix a))), (10, some (.val (I a.length))), (11, some (.val (I i)))]) a.length ?_ ?_ 0 _ (by omega) ⟨by simp, by simp⟩
  · rintro i e hi ⟨g, rfl⟩
    rw [g]
    clear g
    by_cases hb : i < b.length
    · have hd := cmpW_drop (c := cmpI) hi hb
      rw [show cmpL (a.drop i) (b.drop i) = _ from hd]
      have hnb : ¬ b.length ≤ i := by omega
      simp [hi, hb, hnb]
      refine callR (h395 _ _) rfl rfl (fun _ => rfl) ?_
      by_cases hc : cmpI a[i] b[i] = 0
      · simp [hc]
        omega
      · simp [hc]
    · have hd := cmpW_end (c := cmpI) hi hb
      rw [show cmpL (a.drop i) (b.drop i) = _ from hd]
      have hnb : b.length ≤ i := by omega
      simp [hi, hnb]
  · rintro e ⟨g, rfl⟩
    rw [g, show cmpL (a.drop a.length) (b.drop a.length) = _ from cmpW_last]
    by_cases h : a.length < b.length
    · simp [h]
    · simp [h]
end Go.Mch
/- Texts of lists, of the program; lists in order, of the reference. -/
namespace Go.Mch

def atV (k : Env → Prop) (e : Env) (d : Option Nat) (n : Int) : V → Prop
  | .val (.sc (.string s)) => bindP (if 0 ≤ n then s[n.toNat]? else none) fun b => k (e.setD d (.val (.sc (.int .u8 b.toNat))))
  | _ => False
section
variable (G : Rl) (m : K) (d : Option Nat) (k : Env → Prop) (e : Env)
@[simp] theorem q_at (x i : Opd) : stepQ G m d (.at x i) k e = bindP (e.opd x) fun a => bindP ((e.opd i).bind asI) fun n => atV k e d n a := by
  unfold stepQ atV
  rfl
@[simp ↓, simp] theorem asgV_same (r : Nat) : asgV e d k (.same r) = bindP (e.take (.same r)) fun y => k (y.2.setD d (.val y.1)) := rfl
@[simp ↓, simp] theorem atV_str (n : Int) (s : ByteArray) : atV k e d n (.val (.sc (.string s))) = bindP (if 0 ≤ n then s[n.toNat]? else none) fun b => k (e.setD d (.val (.sc (.int .u8 b.toNat)))) := rfl
end
def dgt (x : Int) : UInt8 := if x < 10 then UInt8.ofNat (48 + x.toNat) else UInt8.ofNat (87 + x.toNat)
def digs : ByteArray := ByteArray.mk #[48, 49, 50, 51, 52, 53, 54, 55, 56, 57, 97, 98]
theorem digs_at {x : Int} (h : 0 ≤ x ∧ x < 12) : digs[x.toNat]? = some (dgt x) := by
  have key : ∀ i : Fin 12, digs[i.val]? = some (dgt (i.val : Nat)) := by decide
  have := key ⟨x.toNat, by omega⟩
  rwa [show ((x.toNat : Nat) : Int) = x by omega] at this
theorem dgt_inj {x y : Int} (hx : 0 ≤ x ∧ x < 12) (hy : 0 ≤ y ∧ y < 12) (h : dgt x = dgt y) : x = y := by
  have key : ∀ i j : Fin 12, dgt (i.val : Nat) = dgt (j.val : Nat) → i = j := by decide
  have := key ⟨x.toNat, by omega⟩ ⟨y.toNat, by omega⟩ (by
    rw [show ((x.toNat : Nat) : Int) = x by omega, show ((y.toNat : Nat) : Int) = y by omega]; exact h)
  have := congrArg Fin.val this
  simp only at this
  omega
/-- The text of a list. -/
def txt (xs : List Int) : ByteArray := ⟨(xs.map dgt).toArray⟩
theorem txt_inj : ∀ {xs ys : List Int}, inN 12 xs → inN 12 ys → txt xs = txt ys → xs = ys := by
  intro xs ys hx hy h
  have h1 : xs.map dgt = ys.map dgt := by
    have := congrArg (fun b : ByteArray => b.data.toList) h
    simpa [txt] using this
  clear h
  induction xs generalizing ys with
  | nil => cases ys with
    | nil => rfl
    | cons y ys => simp at h1
  | cons x xs ih => cases ys with
    | nil => simp at h1
    | cons y ys =>
      simp only [List.map_cons, List.cons.injEq] at h1
      have e1 := dgt_inj (hx x (by simp)) (hy y (by simp)) h1.1
      have e2 := ih (fun z hz => hx z (by simp [hz])) (ys := ys) (fun z hz => hy z (by simp [hz])) h1.2
      rw [e1, e2]
abbrev U8 (n : Nat) : T := .sc (.int .u8 n)
theorem bytesL_map (l : List UInt8) : bytesL (l.map fun b => U8 b.toNat) = some l := by
  induction l with
  | nil => rfl
  | cons b l ih =>
    have hb : b.toNat < 256 := b.toNat_lt
    simp only [List.map_cons, bytesL]
    rw [if_pos (by omega), ih]
    simp
def S_text (pg : Pg) : Prop := ∀ xs : List Int, inN 12 xs → xs.length ≤ 1048576 → Call pg 312 [ix xs] [ix xs] (.sc (.string (txt xs)))
theorem t_digitsText {pg : Pg} (hp : pg.fn 312 = some c_impl_digitsText) : S_text pg := by
  intro xs hin hl
  refine Call.intro hp rfl (by simp) ?_
  show wp _ _ c_impl_digitsText.body (post [.t 2] _ _ _) _
  simp [c_impl_digitsText]
  refine ⟨by unfold roomy; omega, ?_⟩
  refine wpLoop_count (fun k e => e = fr [(3, some (.val (.mem .own (some 1) (((xs.take k).map dgt).map (fun b => U8 b.toNat) ++ List.replicate (xs.length - k) (U8 0))))), (9, some (.val (ix xs))), (10, some (.val (I xs.length))), (11, some (.val (I k)))]) xs.length ?_ ?_ 0 _ (by omega) ?_
  · rintro k e hk rfl
    have hr := hin _ (List.getElem_mem hk)
    have hd : (ByteArray.mk #[48, 49, 50, 51, 52, 53, 54, 55, 56, 57, 97, 98])[(xs[k]).toNat]? = some (dgt xs[k]) := digs_at hr
    have hlen : (((xs.take k).map dgt).map (fun b => U8 b.toNat)).length = k := by simp; omega
    have hs : ((xs.take (k + 1)).map dgt).map (fun b => U8 b.toNat) = ((xs.take k).map dgt).map (fun b => U8 b.toNat) ++ [U8 (dgt xs[k]).toNat] := by
      rw [List.take_succ_eq_append_getElem hk, List.map_append, List.map_append]; rfl
    rw [hs, fill_succ (U8 0) hk]
    generalize ((xs.take k).map dgt).map (fun b => U8 b.toNat) = A at *
    have hrl : (List.replicate (xs.length - (k + 1)) (U8 0)).length = xs.length - (k + 1) := by simp
    generalize List.replicate (xs.length - (k + 1)) (U8 0) = Z at *
    have hr1 := hr.1
    simp [hk, set_mid hlen, hr1, hd]
    omega
  · rintro e rfl
    have hb := bytesL_map (xs.map dgt)
    have e1 : ((xs.take xs.length).map dgt).map (fun b => U8 b.toNat) = (xs.map dgt).map fun b => U8 b.toNat := by rw [List.take_length]
    have hl2 : ((xs.map dgt).map fun b => U8 b.toNat).length = xs.length := by simp
    rw [e1]
    simp only [Nat.sub_self, List.replicate_zero, List.append_nil]
    have hx : txt xs = ⟨(xs.map dgt).toArray⟩ := rfl
    generalize (xs.map dgt).map (fun b => U8 b.toNat) = A at *
    have hw : win A 0 A.length = A := by simp [win]
    simp [hl2, hb, hx]
  · simp
    rfl

/-! ### Lists in order -/

theorem cmpI_neg (a b : Int) : cmpI b a = - cmpI a b := by
  unfold cmpI
  split
  · rw [if_neg (by omega)]
  · split <;> rfl
theorem cmpL_neg : ∀ a b : List Int, cmpL b a = - cmpL a b
  | [], [] => rfl
  | [], _ :: _ => rfl
  | _ :: _, [] => rfl
  | a :: as, b :: bs => by
    have ih := cmpL_neg as bs
    have h := cmpI_neg a b
    simp only [cmpW]
    by_cases hz : cmpI a b = 0
    · have hz2 : cmpI b a = 0 := by omega
      simp only [hz, hz2, ne_eq, not_true_eq_false, if_false]
      exact ih
    · have hz2 : cmpI b a ≠ 0 := by omega
      simp only [ne_eq, hz, hz2, not_false_eq_true, if_true]
      exact h
theorem cmpI_lt {a b : Int} : cmpI a b < 0 ↔ a < b := by
  unfold cmpI
  by_cases h : a < b
  · simp [h]
  · by_cases h2 : b < a
    · simp [h, h2]
    · simp [h, h2]
theorem cmpL_trans : ∀ a b c : List Int, cmpL a b < 0 → cmpL b c < 0 → cmpL a c < 0
  | [], [], _, h, _ => by simp [cmpW] at h
  | [], _ :: _, [], _, h => by simp [cmpW] at h
  | [], _ :: _, _ :: _, _, _ => by simp [cmpW]
  | _ :: _, [], _, h, _ => by simp [cmpW] at h
  | _ :: _, _ :: _, [], _, h => by simp [cmpW] at h
  | a :: as, b :: bs, c :: cs, h1, h2 => by
    have ih := cmpL_trans as bs cs
    simp only [cmpW] at h1 h2 ⊢
    have z1 := cmpI_zero a b
    have z2 := cmpI_zero b c
    have l1 := @cmpI_lt a b
    have l2 := @cmpI_lt b c
    have l3 := @cmpI_lt a c
    have z3 := cmpI_zero a c
    by_cases e1 : cmpI a b = 0
    · have := z1.1 e1
      subst this
      by_cases e2 : cmpI a c = 0
      · simp [e1, e2] at h1 h2 ⊢
        exact ih h1 h2
      · simp only [ne_eq, e2, not_false_eq_true, if_true] at h2 ⊢
        exact h2
    · by_cases e2 : cmpI b c = 0
      · have := z2.1 e2
        subst this
        simp only [ne_eq, e1, not_false_eq_true, if_true] at h1 ⊢
        exact h1
      · simp only [ne_eq, e1, e2, not_false_eq_true, if_true] at h1 h2
        have : cmpI a c < 0 := l3.2 (by have := l1.1 h1; have := l2.1 h2; omega)
        rw [if_pos (by omega)]
        exact this
/-- In order, none twice. -/
def Srt (X : List (List Int)) : Prop := X.Pairwise fun a b => cmpL a b < 0
theorem Srt.lt {X : List (List Int)} (h : Srt X) {i j : Nat} (hj : j < X.length) (hij : i < j) : cmpL (X[i]'(by omega)) X[j] < 0 :=
  List.pairwise_iff_getElem.1 h i j (by omega) hj hij
def S_less (pg : Pg) : Prop := ∀ a b : List Int, a.length ≤ 1048576 → Call pg 408 [ix a, ix b] [ix a, ix b] (B (decide (cmpL a b < 0)))
theorem t_l01Less {pg : Pg} (hp : pg.fn 408 = some c_spec_l01Less) : S_less pg := by
  intro a b hl
  refine Call.intro hp rfl (by simp) ?_
  show wp _ _ c_spec_l01Less.body (post [.t 4] _ _ _) _
  simp [c_spec_l01Less]
  refine wpLoop_lower (α := Nat) (fun i => a.length - i) (fun i e => (i ≤ a.length ∧ i ≤ b.length ∧ cmpL a b = cmpL (a.drop i) (b.drop i)) ∧ e = fr [(0, some (.val (ix a))), (1, some (.val (ix b))), (5, some (.val (I i)))]) ?_ 0 _ ⟨⟨by omega, by omega, by simp⟩, by simp⟩
  rintro i e ⟨⟨g1, g2, g⟩, rfl⟩
  rw [g]
  have hd := fun ha hb => cmpW_drop (c := cmpI) (a := a) (b := b) (i := i) ha hb
  have hnext : ∀ ha hb, cmpI (a[i]'ha) (b[i]'hb) = 0 → cmpL a b = cmpL (a.drop (i + 1)) (b.drop (i + 1)) := fun ha hb hz => by
    rw [g, show cmpL (a.drop i) (b.drop i) = _ from hd ha hb]
    simp [hz]
  clear g
  by_cases ha : i < a.length
  · by_cases hb : i < b.length
    · rw [show cmpL (a.drop i) (b.drop i) = _ from hd ha hb]
      clear hd hnext
      have z := cmpI_zero a[i] b[i]
      have l := @cmpI_lt a[i] b[i]
      by_cases hc : a[i] = b[i]
      · have hz := z.2 hc
        rw [hc] at hz
        simp [ha, hb, hc]
        exact ⟨by omega, i + 1, by omega, ⟨by omega, by omega, by simp [hz]⟩, by simp⟩
      · have hz : cmpI a[i] b[i] ≠ 0 := fun hh => hc (z.1 hh)
        simp [ha, hb, hc, hz, l]
    · have hbl : b.length = i := by omega
      have : cmpL (a.drop i) (b.drop i) = 1 := cmpW_end ha hb
      rw [this]
      clear hd hnext
      have : ¬ a.length < b.length := by omega
      have h2 : ¬ (a.length : Int) < b.length := by omega
      have h3 : b.length ≤ a.length := by omega
      simp [ha, hbl]
      omega
  · have hal : i = a.length := by omega
    subst hal
    rw [show cmpL (a.drop a.length) (b.drop a.length) = _ from cmpW_last]
    clear hd hnext
    by_cases h : a.length < b.length
    · simp [h, undefV]
    · simp [h, undefV]
end Go.Mch
/- Rows that are exchanged within an interval: in plain Lean. -/
namespace Go.Mch

def gt (X : List (List Int)) (k : Nat) : List Int := X.getD k []
theorem gt_at {X : List (List Int)} {k : Nat} (h : k < X.length) : X[k] = gt X k := by simp [gt, h]
def tau (i j k : Nat) : Nat := if k = j then i else if k = i then j else k
theorem tau_inj {i j k k' : Nat} (h : tau i j k = tau i j k') : k = k' := by
  unfold tau at h
  split at h <;> split at h <;> (try split at h) <;> (try split at h) <;> omega
theorem tau_tau (i j k : Nat) : tau i j (tau i j k) = k := by
  unfold tau
  split <;> (try split) <;> (try split) <;> (try split) <;> omega
theorem tau_in {i j k a b : Nat} (hi : a ≤ i ∧ i < b) (hj : a ≤ j ∧ j < b) (hk : a ≤ k ∧ k < b) : a ≤ tau i j k ∧ tau i j k < b := by
  unfold tau
  split <;> (try split) <;> omega
def swL (X : List (List Int)) (i j : Nat) : List (List Int) := (X.set i (gt X j)).set j (gt X i)
@[simp] theorem swL_length (X : List (List Int)) (i j : Nat) : (swL X i j).length = X.length := by simp [swL]
theorem gt_swL {X : List (List Int)} {i j : Nat} (hi : i < X.length) (hj : j < X.length) (k : Nat) : gt (swL X i j) k = gt X (tau i j k) := by
  unfold tau
  simp only [gt, swL, List.getD_eq_getElem?_getD, List.getElem?_set, List.length_set]
  by_cases h1 : j = k
  · subst h1; simp [hj]
  · have h1' : ¬ k = j := fun h => h1 h.symm
    by_cases h2 : i = k
    · subst h2; simp [h1, h1', hi]
    · have h2' : ¬ k = i := fun h => h2 h.symm
      simp [h1, h2, h1', h2']
theorem rows_swL (X : List (List Int)) (i j : Nat) : ((rows X).set i (.mem .own (some 1) ((gt X j).map I))).set j (.mem .own (some 1) ((gt X i).map I)) = rows (swL X i j) := by
  simp [rows, swL, List.map_set]
/-- All different. -/
def Dj (X : List (List Int)) : Prop := ∀ k k', k < X.length → k' < X.length → gt X k = gt X k' → k = k'
def bef (x y : List Int) : Prop := cmpL x y < 0
instance (x y : List Int) : Decidable (bef x y) := by unfold bef; infer_instance
theorem bef_trans {x y z : List Int} (h1 : bef x y) (h2 : bef y z) : bef x z := cmpL_trans _ _ _ h1 h2
theorem bef_irr (x : List Int) : ¬ bef x x := by
  have := (cmpL_zero x x).2 rfl
  unfold bef
  omega
theorem bef_not {x y : List Int} (h : bef x y) : ¬ bef y x := fun h2 => bef_irr x (bef_trans h h2)
theorem bef_or {x y : List Int} (hne : x ≠ y) (h : ¬ bef x y) : bef y x := by
  have h1 := cmpL_neg x y
  have h2 : cmpL x y ≠ 0 := fun hz => hne ((cmpL_zero x y).1 hz)
  unfold bef at h ⊢
  omega
theorem Dj.or {X : List (List Int)} (h : Dj X) {i j : Nat} (hi : i < X.length) (hj : j < X.length) (hij : i ≠ j) (hn : ¬ bef (gt X i) (gt X j)) : bef (gt X j) (gt X i) :=
  bef_or (fun he => hij (h i j hi hj he)) hn
theorem Dj.swap {X : List (List Int)} (h : Dj X) {i j : Nat} (hi : i < X.length) (hj : j < X.length) : Dj (swL X i j) := by
  intro k k' hk hk' he
  rw [swL_length] at hk hk'
  rw [gt_swL hi hj, gt_swL hi hj] at he
  have h1 := tau_in (i := i) (j := j) (a := 0) (b := X.length) (k := k) (by omega) (by omega) (by omega)
  have h2 := tau_in (i := i) (j := j) (a := 0) (b := X.length) (k := k') (by omega) (by omega) (by omega)
  exact tau_inj (h _ _ h1.2 h2.2 he)
/-- The same rows in [a, b), the same places elsewhere. -/
structure PI (X Y : List (List Int)) (a b : Nat) : Prop where
  len : Y.length = X.length
  out : ∀ k, k < a ∨ b ≤ k → gt Y k = gt X k
  fwd : ∀ k, a ≤ k → k < b → ∃ k', a ≤ k' ∧ k' < b ∧ gt Y k = gt X k'
  bwd : ∀ k, a ≤ k → k < b → ∃ k', a ≤ k' ∧ k' < b ∧ gt X k = gt Y k'
  dj : Dj Y
theorem PI.refl {X : List (List Int)} (h : Dj X) (a b : Nat) : PI X X a b := ⟨rfl, fun _ _ => rfl, fun k h1 h2 => ⟨k, h1, h2, rfl⟩, fun k h1 h2 => ⟨k, h1, h2, rfl⟩, h⟩
theorem PI.trans {X Y Z : List (List Int)} {a b : Nat} (h : PI X Y a b) (g : PI Y Z a b) : PI X Z a b :=
  ⟨g.len.trans h.len, fun k hk => (g.out k hk).trans (h.out k hk), fun k h1 h2 => by
    obtain ⟨k', p1, p2, p3⟩ := g.fwd k h1 h2
    obtain ⟨k'', q1, q2, q3⟩ := h.fwd k' p1 p2
    exact ⟨k'', q1, q2, p3.trans q3⟩, fun k h1 h2 => by
    obtain ⟨k', p1, p2, p3⟩ := h.bwd k h1 h2
    obtain ⟨k'', q1, q2, q3⟩ := g.bwd k' p1 p2
    exact ⟨k'', q1, q2, p3.trans q3⟩, g.dj⟩
theorem PI.wide {X Y : List (List Int)} {a b a' b' : Nat} (h : PI X Y a b) (ha : a' ≤ a) (hb : b ≤ b') : PI X Y a' b' :=
  ⟨h.len, fun k hk => h.out k (by omega), fun k h1 h2 => by
    by_cases hk : a ≤ k ∧ k < b
    · obtain ⟨k', p1, p2, p3⟩ := h.fwd k hk.1 hk.2
      exact ⟨k', by omega, by omega, p3⟩
    · exact ⟨k, h1, h2, h.out k (by omega)⟩, fun k h1 h2 => by
    by_cases hk : a ≤ k ∧ k < b
    · obtain ⟨k', p1, p2, p3⟩ := h.bwd k hk.1 hk.2
      exact ⟨k', by omega, by omega, p3⟩
    · exact ⟨k, h1, h2, (h.out k (by omega)).symm⟩, h.dj⟩
theorem PI.swap {X Y : List (List Int)} {a b i j : Nat} (h : PI X Y a b) (hb : b ≤ X.length) (hi : a ≤ i ∧ i < b) (hj : a ≤ j ∧ j < b) : PI X (swL Y i j) a b := by
  have hl := h.len
  have hg := gt_swL (X := Y) (i := i) (j := j) (by omega) (by omega)
  refine ⟨by simp [hl], fun k hk => ?_, fun k h1 h2 => ?_, fun k h1 h2 => ?_, h.dj.swap (by omega) (by omega)⟩
  · rw [hg]
    have : tau i j k = k := by unfold tau; split <;> (try split) <;> omega
    rw [this]
    exact h.out k hk
  · rw [hg]
    have := tau_in hi hj ⟨h1, h2⟩
    exact h.fwd _ this.1 this.2
  · obtain ⟨k', p1, p2, p3⟩ := h.bwd k h1 h2
    have := tau_in hi hj ⟨p1, p2⟩
    exact ⟨tau i j k', this.1, this.2, by rw [hg, tau_tau]; exact p3⟩
/-- In order on [a, b). -/
def SI (X : List (List Int)) (a b : Nat) : Prop := ∀ p q, a ≤ p → p < q → q < b → bef (gt X p) (gt X q)
theorem SI.one (X : List (List Int)) {a b : Nat} (h : b ≤ a + 1) : SI X a b := fun p q h1 h2 h3 => by omega
/-- In order but for place j. -/
def SJ (X : List (List Int)) (a j i : Nat) : Prop := ∀ p q, a ≤ p → p < q → q < i → q ≠ j → bef (gt X p) (gt X q)
theorem SI.sj {X : List (List Int)} {a i : Nat} (h : SI X a i) : SJ X a i (i + 1) := fun p q h1 h2 h3 h4 => h p q h1 h2 (by omega)
theorem SJ.done {X : List (List Int)} {a j i : Nat} (h : SJ X a j i) (hj : j = a ∨ bef (gt X (j - 1)) (gt X j)) : SI X a i := fun p q h1 h2 h3 => by
  by_cases hq : q = j
  · subst hq
    rcases hj with hj | hj
    · omega
    · by_cases hp : p = q - 1
      · subst hp; exact hj
      · exact bef_trans (h p (q - 1) h1 (by omega) (by omega) (by omega)) hj
  · exact h p q h1 h2 h3 hq
theorem SJ.step {X : List (List Int)} {a j i : Nat} (h : SJ X a (j + 1) i) (haj : a ≤ j) (hji : j + 1 < i) (hi : i ≤ X.length) (hb : bef (gt X (j + 1)) (gt X j)) : SJ (swL X (j + 1) j) a j i := by
  have hg := gt_swL (X := X) (i := j + 1) (j := j) (by omega) (by omega)
  intro p q h1 h2 h3 h4
  rw [hg, hg]
  unfold tau
  by_cases hq : q = j + 1
  · subst hq
    rw [if_neg h4, if_pos rfl]
    by_cases hp : p = j
    · rw [if_pos hp]; exact hb
    · rw [if_neg hp, if_neg (by omega)]
      exact h p j h1 (by omega) (by omega) (by omega)
  · rw [if_neg h4, if_neg hq]
    by_cases hp : p = j
    · rw [if_pos hp]; exact h (j + 1) q (by omega) (by omega) h3 hq
    · rw [if_neg hp]
      by_cases hp2 : p = j + 1
      · rw [if_pos hp2]; exact h j q (by omega) (by omega) h3 hq
      · rw [if_neg hp2]; exact h p q h1 h2 h3 hq
theorem SI.srt {X : List (List Int)} (h : SI X 0 X.length) : Srt X := by
  refine List.pairwise_iff_getElem.2 fun i j hi hj hij => ?_
  have := h i j (by omega) hij hj
  rw [← gt_at hi, ← gt_at hj] at this
  exact this
theorem PI.mem {X Y : List (List Int)} (h : PI X Y 0 X.length) (x : List Int) : x ∈ Y ↔ x ∈ X := by
  have hl := h.len
  constructor
  · intro hm
    obtain ⟨k, hk, rfl⟩ := List.getElem_of_mem hm
    obtain ⟨k', _, p2, p3⟩ := h.fwd k (by omega) (by omega)
    rw [gt_at hk, p3, ← gt_at p2]
    exact List.getElem_mem p2
  · intro hm
    obtain ⟨k, hk, rfl⟩ := List.getElem_of_mem hm
    obtain ⟨k', _, p2, p3⟩ := h.bwd k (by omega) hk
    have hk' : k' < Y.length := by omega
    rw [gt_at hk, p3, ← gt_at hk']
    exact List.getElem_mem hk'
end Go.Mch
/- Sorting by insertion, sifting, reversing: the walks. -/
namespace Go.Mch

abbrev ownR (X : List (List Int)) : T := .mem .own (some 1) (rows X)
/-- Rows small enough. -/
def Sm (X : List (List Int)) : Prop := X.length ≤ 1000000 ∧ ∀ k, (gt X k).length ≤ 1048576
theorem Sm.pi {X Y : List (List Int)} {a b : Nat} (h : Sm X) (p : PI X Y a b) : Sm Y := ⟨by rw [p.len]; exact h.1, fun k => by
  by_cases hk : a ≤ k ∧ k < b
  · obtain ⟨k', _, _, q⟩ := p.fwd k hk.1 hk.2
    rw [q]; exact h.2 k'
  · rw [p.out k (by omega)]; exact h.2 k⟩
/-- A function that orders [a, b) anew: what is known of the rows behind it is Q. -/
def S_srt (pg : Pg) (n : Nat) (r : T → Prop) (pre : List (List Int) → Nat → Nat → Prop) (Q : List (List Int) → List (List Int) → Nat → Nat → T → Prop) : Prop := ∀ (X : List (List Int)) (a b : Nat), Sm X → Dj X → a ≤ b → b ≤ X.length → pre X a b →
  ∃ Y res, PI X Y a b ∧ r res ∧ Q X Y a b res ∧ Call pg n [ownR X, I a, I b, .fn 314 []] [ownR Y, I a, I b, .fn 314 []] res
def S_insSort (pg : Pg) : Prop := S_srt pg 433 (fun r => r = .tup []) (fun _ _ _ => True) fun _ Y a b _ => SI Y a b
def postX {α : Type} (Q : α → Prop) (rs : List RV) (args : List T) (args' : α → List T) (r : α → T) : X → Env → Prop := fun x e => ∃ l, Q l ∧ post rs args (args' l) (r l) x e
theorem Call.findA {α : Type} {pg : Pg} {f : Nat} {args : List T} {fn : F} {args' : α → List T} {r : α → T} {Q : α → Prop} (hf : pg.fn f = some fn) (hn : fn.np = args.length) (hl : fn.lets args = true) (hk : kindOf args = .old)
    (h : wp (Call pg) .old fn.body (postX Q fn.rs args args' r) (init args)) : ∃ l, Q l ∧ Call pg f args (args' l) (r l) := by
  obtain ⟨⟨l, hq⟩, hl2⟩ := wp_ex (β := { l // Q l }) (R := fun l x e => post fn.rs args (args' l.1) (r l.1) x e) fn.body (wp_mono (fun _ _ _ _ h => h) _ (fun _ _ ⟨l, hq, hp⟩ => ⟨⟨l, hq⟩, hp⟩) h)
  exact ⟨l, hq, Call.intro_own hf hn hl (by rw [hk]; exact hl2)⟩
def ExY (P : List (List Int) → Prop) : Prop := ∃ Q, P Q
theorem ExY.mk {P : List (List Int) → Prop} (Q : List (List Int)) (h : P Q) : ExY P := ⟨Q, h⟩
theorem kind_own (X : List (List Int)) (l : List T) : kindOf (ownR X :: l) = .old := by simp [kindOf]
theorem SI.less {X : List (List Int)} {a i b : Nat} (h : SI X a i) (hb : b ≤ i) : SI X a b := fun p q h1 h2 h3 => h p q h1 h2 (by omega)
set_option maxRecDepth 10000 in
theorem t_insSort {pg : Pg} (hp : pg.fn 433 = some c_slices_insertionSortCmpFunc___int64_) (h314 : S_cmpL pg) : S_insSort pg := by
  intro X a b hS hD hab hb _
  have hX1 := hS.1
  have hfind := Call.findA (α := List (List Int)) (Q := fun Y => PI X Y a b ∧ SI Y a b) (args := [ownR X, I a, I b, .fn 314 []]) (args' := fun Y => [ownR Y, I a, I b, .fn 314 []]) (r := fun _ => .tup []) hp rfl (by simp [F.lets, c_slices_insertionSortCmpFunc___int64_, List.range, List.range.loop]) (kind_own _ _) ?_
  · obtain ⟨Y, h1, h2⟩ := hfind
    exact ⟨Y, _, h1.1, rfl, h1.2, h2⟩
  show wp _ _ c_slices_insertionSortCmpFunc___int64_.body (postX _ [] _ _ _) _
  generalize hR : postX (fun Y => PI X Y a b ∧ SI Y a b) [] [ownR X, I a, I b, .fn 314 []] (fun Y => [ownR Y, I a, I b, .fn 314 []]) (fun _ => T.tup []) = R
  simp [c_slices_insertionSortCmpFunc___int64_]
  refine ⟨by omega, ?_⟩
  refine wpLoop_lower (α := List (List Int) × Nat) (fun z => b - z.2) (fun z e => (PI X z.1 a b ∧ SI z.1 a z.2 ∧ a < z.2) ∧ e = fr [(0, some (.val (ownR z.1))), (1, some (.val (I a))), (2, some (.val (I b))), (3, some (.val (.fn 314 []))), (8, some (.val (I z.2)))]) ?_ (X, a + 1) _ ⟨⟨PI.refl hD a b, SI.one X (by omega), by simp⟩, by simp⟩
  rintro ⟨Y, i⟩ e ⟨⟨g1, g2, g3⟩, rfl⟩
  simp only at g1 g2 g3
  by_cases hi : i < b
  · simp [hi]
    refine wpLoop_lower (α := List (List Int) × Nat) (fun z => z.2) (fun z e => (PI X z.1 a b ∧ SJ z.1 a z.2 (i + 1) ∧ a ≤ z.2 ∧ z.2 ≤ i) ∧ e = fr [(0, some (.val (ownR z.1))), (1, some (.val (I a))), (2, some (.val (I b))), (3, some (.val (.fn 314 []))), (8, some (.val (I i))), (9, some (.val (I z.2)))]) ?_ (Y, i) _ ⟨⟨g1, g2.sj, by omega, by omega⟩, by simp⟩
    rintro ⟨Z, j⟩ e ⟨⟨k1, k2, k3, k4⟩, rfl⟩
    simp only at k1 k2 k3 k4
    have hZ := k1.len
    have hSZ := hS.pi k1
    by_cases hj : a < j
    · obtain ⟨r, rfl⟩ : ∃ r, j = r + 1 := ⟨j - 1, by omega⟩
      have hrl : r < Z.length := by omega
      have hrl1 : r + 1 < Z.length := by omega
      have e1 := gt_at hrl
      have e2 := gt_at hrl1
      have hc := h314 (gt Z (r + 1)) (gt Z r) (hSZ.2 _)
      have hj' : (a : Int) < (r : Int) + 1 := by omega
      simp [hj', hrl, hrl1, e1, e2]
      refine ⟨by omega, by omega, ?_⟩
      refine callR hc rfl rfl (fun _ => rfl) ?_
      by_cases hbf : bef (gt Z (r + 1)) (gt Z r)
      · have hb' : cmpL (gt Z (r + 1)) (gt Z r) < 0 := hbf
        have n1 : (r + 1 == r) = false := by simp
        have n2 : (r == r + 1) = false := by simp
        simp [hb', hrl, hrl1, e1, e2, n1]
        rw [rows_swL]
        exact ⟨by omega, by omega, by omega, by omega, swL Z (r + 1) r, r, by omega, ⟨k1.swap hb ⟨by omega, by omega⟩ ⟨by omega, by omega⟩, k2.step (by omega) (by omega) (by omega) hbf, by omega, by omega⟩, rfl⟩
      · have hb' : ¬ cmpL (gt Z (r + 1)) (gt Z r) < 0 := hbf
        simp [hb']
        have hbb := k1.dj.or hrl1 hrl (by omega) hbf
        exact ⟨by omega, Z, i + 1, by omega, ⟨k1, k2.done (.inr hbb), by omega⟩, by simp⟩
    · have hja : j = a := by omega
      subst hja
      simp [undefV]
      exact ⟨by omega, Z, i + 1, by omega, ⟨k1, k2.done (.inl rfl), by omega⟩, by simp⟩
  · simp [hi]
    rw [← hR]
    exact ⟨Y, ⟨g1, g2.less (by omega)⟩, by simp [post]⟩
/-! ### Reversing -/

def S_revR (pg : Pg) : Prop := S_srt pg 437 (fun r => r = .tup []) (fun _ _ _ => True) fun _ _ _ _ _ => True
set_option maxRecDepth 10000 in
theorem t_reverseRange {pg : Pg} (hp : pg.fn 437 = some c_slices_reverseRangeCmpFunc___int64_) : S_revR pg := by
  intro X a b hS hD hab hb _
  have hX1 := hS.1
  have hfind := Call.findA (α := List (List Int)) (Q := fun Y => PI X Y a b) (args := [ownR X, I a, I b, .fn 314 []]) (args' := fun Y => [ownR Y, I a, I b, .fn 314 []]) (r := fun _ => .tup []) hp rfl (by simp [F.lets, c_slices_reverseRangeCmpFunc___int64_, List.range, List.range.loop]) (kind_own _ _) ?_
  · obtain ⟨Y, h1, h2⟩ := hfind
    exact ⟨Y, _, h1, rfl, trivial, h2⟩
  show wp _ _ c_slices_reverseRangeCmpFunc___int64_.body (postX _ [] _ _ _) _
  generalize hR : postX (fun Y => PI X Y a b) [] [ownR X, I a, I b, .fn 314 []] (fun Y => [ownR Y, I a, I b, .fn 314 []]) (fun _ => T.tup []) = R
  simp [c_slices_reverseRangeCmpFunc___int64_]
  refine ⟨by omega, ?_⟩
  refine wpLoop_lower (α := List (List Int) × Nat × Int) (fun z => (b - z.2.1)) (fun z e => (PI X z.1 a b ∧ a ≤ z.2.1 ∧ z.2.2 < b ∧ -1 ≤ z.2.2) ∧ e = fr [(0, some (.val (ownR z.1))), (1, some (.val (I a))), (2, some (.val (I b))), (3, some (.val (.fn 314 []))), (8, some (.val (I z.2.1))), (9, some (.val (I z.2.2)))]) ?_ (X, a, (b : Int) - 1) _ ⟨⟨PI.refl hD a b, by simp, by simp only; omega, by simp only; omega⟩, by simp⟩
  rintro ⟨Y, i, j⟩ e ⟨⟨g1, g2, g3, g4⟩, rfl⟩
  simp only at g1 g2 g3 g4
  have hY := g1.len
  by_cases hij : (i : Int) < j
  · obtain ⟨k, rfl⟩ : ∃ k : Nat, j = k := ⟨j.toNat, by omega⟩
    have hil : i < Y.length := by omega
    have hkl : k < Y.length := by omega
    have e1 := gt_at hil
    have e2 := gt_at hkl
    have n1 : (i == k) = false := by simp; omega
    have n2 : (k == i) = false := by simp; omega
    have n3 : ¬ i = k := by omega
    have n4 : i < k := by omega
    simp [n1, n3, n4, hil, hkl, e1, e2]
    rw [rows_swL]
    exact ⟨by omega, by omega, by omega, swL Y i k, i + 1, by omega, (k : Int) - 1, ⟨g1.swap hb ⟨by omega, by omega⟩ ⟨by omega, by omega⟩, by omega, by omega, by omega⟩, rfl⟩
  · simp [hij]
    rw [← hR]
    exact ⟨Y, g1, by simp [post]⟩
end Go.Mch
/- Heaps; sifting down, sorting by a heap. -/
namespace Go.Mch

def chd (c p : Nat) : Prop := c = 2 * p + 1 ∨ c = 2 * p + 2
/-- No child is behind its parent. -/
def Hp (X : List (List Int)) (f lo hi : Nat) : Prop := ∀ p c, lo ≤ p → chd c p → c < hi → ¬ bef (gt X (f + p)) (gt X (f + c))
/-- So it is but at place r. -/
def HpR (X : List (List Int)) (f lo hi r : Nat) : Prop := (∀ p c, lo ≤ p → p ≠ r → chd c p → c < hi → ¬ bef (gt X (f + p)) (gt X (f + c))) ∧ ∀ q c, lo ≤ q → chd r q → chd c r → c < hi → ¬ bef (gt X (f + q)) (gt X (f + c))
theorem Hp.start {X : List (List Int)} {f lo hi : Nat} (h : Hp X f (lo + 1) hi) : HpR X f lo hi lo :=
  ⟨fun p c h1 h2 h3 h4 => h p c (by omega) h3 h4, fun q c h1 h2 h3 h4 => by unfold chd at h2; omega⟩
theorem HpR.out {X : List (List Int)} {f lo hi r : Nat} (h : HpR X f lo hi r) (hr : hi ≤ 2 * r + 1) : Hp X f lo hi := fun p c h1 h2 h3 => by
  by_cases hp : p = r
  · subst hp; unfold chd at h2; omega
  · exact h.1 p c h1 hp h2 h3
/-- The child that is not before the other one. -/
def Big (X : List (List Int)) (f hi r d : Nat) : Prop := chd d r ∧ d < hi ∧ ∀ c, chd c r → c < hi → ¬ bef (gt X (f + d)) (gt X (f + c))
theorem HpR.stop {X : List (List Int)} {f lo hi r d : Nat} (h : HpR X f lo hi r) (hD : Dj X) (hl : f + hi ≤ X.length) (hb : Big X f hi r d) (hn : ¬ bef (gt X (f + r)) (gt X (f + d))) : Hp X f lo hi := fun p c h1 h2 h3 => by
  by_cases hp : p = r
  · subst hp
    intro hbf
    by_cases hcd : c = d
    · subst hcd; exact hn hbf
    · have := hb.2.2 c h2 h3
      have hd := hb.2.1
      have h4 := hD.or (i := f + d) (j := f + c) (by omega) (by omega) (by omega) this
      exact hn (bef_trans hbf h4)
  · exact h.1 p c h1 hp h2 h3
theorem HpR.step {X : List (List Int)} {f lo hi r d : Nat} (h : HpR X f lo hi r) (hr : lo ≤ r) (hl : f + hi ≤ X.length) (hb : Big X f hi r d) (hn : bef (gt X (f + r)) (gt X (f + d))) : HpR (swL X (f + r) (f + d)) f lo hi d := by
  obtain ⟨b1, b2, b3⟩ := hb
  have hrd : r < d := by unfold chd at b1; omega
  have hg := gt_swL (X := X) (i := f + r) (j := f + d) (by omega) (by omega)
  have hgr : gt (swL X (f + r) (f + d)) (f + r) = gt X (f + d) := by rw [hg]; unfold tau; rw [if_neg (by omega), if_pos rfl]
  have hgd : gt (swL X (f + r) (f + d)) (f + d) = gt X (f + r) := by rw [hg]; unfold tau; rw [if_pos rfl]
  have hgo : ∀ k, k ≠ r → k ≠ d → gt (swL X (f + r) (f + d)) (f + k) = gt X (f + k) := fun k h1 h2 => by rw [hg]; unfold tau; rw [if_neg (by omega), if_neg (by omega)]
  refine ⟨fun p c h1 h2 h3 h4 => ?_, fun q c h1 h2 h3 h4 => ?_⟩
  · by_cases hp : p = r
    · subst hp
      rw [hgr]
      by_cases hc : c = d
      · subst hc; rw [hgd]; exact bef_not hn
      · have hcr : c ≠ p := by unfold chd at h3; omega
        rw [hgo c hcr hc]
        exact b3 c h3 h4
    · rw [hgo p hp h2]
      by_cases hc : c = r
      · subst hc
        rw [hgr]
        exact h.2 p d h1 h3 b1 b2
      · have hcd : c ≠ d := fun he => by subst he; unfold chd at h3 b1; omega
        rw [hgo c hc hcd]
        exact h.1 p c h1 hp h3 h4
  · have hq : q = r := by unfold chd at h2 b1; omega
    subst hq
    have hcq : c ≠ q := by unfold chd at h3; omega
    have hcd : c ≠ d := by unfold chd at h3; omega
    rw [hgr, hgo c hcq hcd]
    exact h.1 d c (by omega) (by omega) h3 h4
theorem Hp.top {X : List (List Int)} {f hi : Nat} (h : Hp X f 0 hi) (hD : Dj X) (hl : f + hi ≤ X.length) : ∀ k, k < hi → k ≠ 0 → bef (gt X (f + k)) (gt X f) := by
  intro k
  induction k using Nat.strongRecOn with
  | _ k ih =>
    intro hk h0
    obtain ⟨p, hp⟩ : ∃ p, chd k p := ⟨(k - 1) / 2, by unfold chd; omega⟩
    have hpk : p < k := by unfold chd at hp; omega
    have h1 := hD.or (i := f + p) (j := f + k) (by omega) (by omega) (by omega) (h p k (by omega) hp hk)
    by_cases hp0 : p = 0
    · subst hp0; exact h1
    · exact bef_trans h1 (ih p hpk (by omega) hp0)
def S_sift (pg : Pg) : Prop := ∀ (X : List (List Int)) (f lo hi : Nat), Sm X → Dj X → f + hi ≤ X.length → lo ≤ 1000000 → Hp X f (lo + 1) hi →
  ∃ Y, (PI X Y f (f + hi) ∧ Hp Y f lo hi) ∧ Call pg 450 [ownR X, I lo, I hi, I f, .fn 314 []] [ownR Y, I lo, I hi, I f, .fn 314 []] (.tup [])
set_option maxRecDepth 10000 in
theorem t_siftDown {pg : Pg} (hp : pg.fn 450 = some c_slices_siftDownCmpFunc___int64_) (h314 : S_cmpL pg) : S_sift pg := by
  intro X f lo hi hS hD hl hlo hH
  have hX1 := hS.1
  refine Call.findA (α := List (List Int)) (Q := fun Y => PI X Y f (f + hi) ∧ Hp Y f lo hi) (args' := fun Y => [ownR Y, I lo, I hi, I f, .fn 314 []]) (r := fun _ => .tup []) hp rfl (by simp [F.lets, c_slices_siftDownCmpFunc___int64_, List.range, List.range.loop]) (kind_own _ _) ?_
  show wp _ _ c_slices_siftDownCmpFunc___int64_.body (postX _ [] _ _ _) _
  generalize hR : postX (fun Y => PI X Y f (f + hi) ∧ Hp Y f lo hi) [] [ownR X, I lo, I hi, I f, .fn 314 []] (fun Y => [ownR Y, I lo, I hi, I f, .fn 314 []]) (fun _ => T.tup []) = R
  simp [c_slices_siftDownCmpFunc___int64_]
  refine wpLoop_lower (α := List (List Int) × Nat) (fun z => hi - z.2) (fun z e => (PI X z.1 f (f + hi) ∧ HpR z.1 f lo hi z.2 ∧ lo ≤ z.2 ∧ z.2 ≤ 1000000) ∧ e = fr [(0, some (.val (ownR z.1))), (1, some (.val (I lo))), (2, some (.val (I hi))), (3, some (.val (I f))), (4, some (.val (.fn 314 []))), (10, some (.val (I z.2)))]) ?_ (X, lo) _ ⟨⟨PI.refl hD _ _, hH.start, by simp, hlo⟩, by simp⟩
  rintro ⟨Y, r⟩ e ⟨⟨g1, g2, g3, g4⟩, rfl⟩
  simp only at g1 g2 g3 g4
  have hY := g1.len
  have hSY := hS.pi g1
  by_cases hc : hi ≤ 2 * r + 1
  · have hc' : (hi : Int) ≤ 2 * (r : Int) + 1 := by omega
    simp [hc']
    rw [← hR]
    exact ⟨by omega, by omega, Y, ⟨g1, g2.out hc⟩, by simp [post]⟩
  · have hc' : ¬ (hi : Int) ≤ 2 * (r : Int) + 1 := by omega
    obtain ⟨c, hcc⟩ : ∃ c : Nat, 2 * (r : Int) + 1 = c := ⟨2 * r + 1, by omega⟩
    have hrl : f + r < Y.length := by omega
    have e0 := gt_at hrl
    have t0 : ((f : Int) + r).toNat = f + r := by omega
    have q0 : 0 ≤ (f : Int) + r := by omega
    have q1 : (f : Int) + r < Y.length := by omega
    have hci : c < hi := by omega
    have hnc : ¬ hi ≤ c := by omega
    by_cases hc1 : c + 1 < hi
    · have hc1' : (c : Int) + 1 < hi := by omega
      have hcl : f + c < Y.length := by omega
      have hcl1 : f + c + 1 < Y.length := by omega
      have e1 := gt_at hcl
      have e2 := gt_at hcl1
      have t1 : ((f : Int) + c).toNat = f + c := by omega
      have t2 : ((f : Int) + c + 1).toNat = f + c + 1 := by omega
      have q5 : 0 ≤ (f : Int) + c := by omega
      have q6 : (f : Int) + c < Y.length := by omega
      have q7 : 0 ≤ (f : Int) + c + 1 := by omega
      have q8 : (f : Int) + c + 1 < Y.length := by omega
      have hcmp := h314 (gt Y (f + c)) (gt Y (f + c + 1)) (hSY.2 _)
      simp [hcc, hnc, hc1', hcl, hcl1, e1, e2, t1, t2, q5, q6, q7, q8]
      refine ⟨by omega, by omega, by omega, by omega, by omega, ?_⟩
      refine callR hcmp rfl rfl (fun _ => rfl) ?_
      by_cases hb1 : bef (gt Y (f + c)) (gt Y (f + c + 1))
      · have hb1' : cmpL (gt Y (f + c)) (gt Y (f + c + 1)) < 0 := hb1
        have hbig : Big Y f hi r (c + 1) := ⟨.inr (by omega), hc1, fun z h1 h2 => by
          have : z = c ∨ z = c + 1 := by unfold chd at h1; omega
          rcases this with rfl | rfl
          · exact bef_not hb1
          · exact bef_irr _⟩
        have hdl : f + (c + 1) < Y.length := by omega
        have e3 := gt_at hdl
        have n1 : (f + r == f + (c + 1)) = false := by simp; omega
        have n2 : (f + (c + 1) == f + r) = false := by simp; omega
        have n3 : ¬ f + r = f + (c + 1) := by omega
        have n4 : ¬ r = (c + 1) := by omega
        have n5 : (r == (c + 1)) = false := by simp; omega
        have n6 : ((c + 1) == r) = false := by simp; omega
        have t3 : ((f : Int) + (c + 1)).toNat = f + (c + 1) := by omega
        have q3 : 0 ≤ (f : Int) + (c + 1) := by omega
        have q4 : (f : Int) + (c + 1) < Y.length := by omega
        have hc2 := h314 (gt Y (f + r)) (gt Y (f + (c + 1))) (hSY.2 _)
        have hbd : (c + 1) < hi := by omega
        simp [hb1', hrl, hdl, e0, e3, t0, t3, q0, q1, q3, q4]
        refine ⟨by omega, by omega, by omega, ?_⟩
        refine callR hc2 rfl rfl (fun _ => rfl) ?_
        by_cases hb2 : bef (gt Y (f + r)) (gt Y (f + (c + 1)))
        · have hb2' : cmpL (gt Y (f + r)) (gt Y (f + (c + 1))) < 0 := hb2
          simp [hb2', hrl, hdl, e0, e3, t0, t3, q0, q1, q3, q4, n1, n4]
          rw [rows_swL]
          exact ⟨by omega, by omega, by omega, by omega, swL Y (f + r) (f + (c + 1)), (c + 1), by omega, ⟨g1.swap (by omega) ⟨by omega, by omega⟩ ⟨by omega, by omega⟩, g2.step g3 (by omega) hbig hb2, by omega, by omega⟩, by simp⟩
        · have hb2' : ¬ cmpL (gt Y (f + r)) (gt Y (f + (c + 1))) < 0 := hb2
          simp [hb2']
          rw [← hR]
          exact ⟨Y, ⟨g1, g2.stop g1.dj (by omega) hbig hb2⟩, by simp [post]⟩
      · have hb1' : ¬ cmpL (gt Y (f + c)) (gt Y (f + c + 1)) < 0 := hb1
        have hbig : Big Y f hi r c := ⟨.inl (by omega), hci, fun z h1 h2 => by
          have : z = c ∨ z = c + 1 := by unfold chd at h1; omega
          rcases this with rfl | rfl
          · exact bef_irr _
          · exact hb1⟩
        have hdl : f + c < Y.length := by omega
        have e3 := gt_at hdl
        have n1 : (f + r == f + c) = false := by simp; omega
        have n2 : (f + c == f + r) = false := by simp; omega
        have n3 : ¬ f + r = f + c := by omega
        have n4 : ¬ r = c := by omega
        have n5 : (r == c) = false := by simp; omega
        have n6 : (c == r) = false := by simp; omega
        have t3 : ((f : Int) + c).toNat = f + c := by omega
        have q3 : 0 ≤ (f : Int) + c := by omega
        have q4 : (f : Int) + c < Y.length := by omega
        have hc2 := h314 (gt Y (f + r)) (gt Y (f + c)) (hSY.2 _)
        have hbd : c < hi := by omega
        simp [hb1', hrl, hdl, e0, e3, t0, t3, q0, q1, q3, q4]
        refine ⟨by omega, by omega, ?_⟩
        refine callR hc2 rfl rfl (fun _ => rfl) ?_
        by_cases hb2 : bef (gt Y (f + r)) (gt Y (f + c))
        · have hb2' : cmpL (gt Y (f + r)) (gt Y (f + c)) < 0 := hb2
          simp [hb2', hrl, hdl, e0, e3, t0, t3, q0, q1, q3, q4, n1, n4]
          rw [rows_swL]
          exact ⟨by omega, by omega, by omega, by omega, swL Y (f + r) (f + c), c, by omega, ⟨g1.swap (by omega) ⟨by omega, by omega⟩ ⟨by omega, by omega⟩, g2.step g3 (by omega) hbig hb2, by omega, by omega⟩, by simp⟩
        · have hb2' : ¬ cmpL (gt Y (f + r)) (gt Y (f + c)) < 0 := hb2
          simp [hb2']
          rw [← hR]
          exact ⟨Y, ⟨g1, g2.stop g1.dj (by omega) hbig hb2⟩, by simp [post]⟩
    · have hc1' : ¬ (c : Int) + 1 < hi := by omega
      have hbig : Big Y f hi r c := ⟨.inl (by omega), hci, fun z h1 h2 => by
        have : z = c := by unfold chd at h1; omega
        subst this; exact bef_irr _⟩
      have hdl : f + c < Y.length := by omega
      have e3 := gt_at hdl
      have n1 : (f + r == f + c) = false := by simp; omega
      have n2 : (f + c == f + r) = false := by simp; omega
      have n3 : ¬ f + r = f + c := by omega
      have n4 : ¬ r = c := by omega
      have n5 : (r == c) = false := by simp; omega
      have n6 : (c == r) = false := by simp; omega
      have t3 : ((f : Int) + c).toNat = f + c := by omega
      have q3 : 0 ≤ (f : Int) + c := by omega
      have q4 : (f : Int) + c < Y.length := by omega
      have hc2 := h314 (gt Y (f + r)) (gt Y (f + c)) (hSY.2 _)
      have hbd : c < hi := by omega
      simp [hcc, hnc, hc1', undefV, hrl, hdl, e0, e3, t0, t3, q0, q1, q3, q4]
      refine ⟨by omega, by omega, by omega, by omega, by omega, ?_⟩
      refine callR hc2 rfl rfl (fun _ => rfl) ?_
      by_cases hb2 : bef (gt Y (f + r)) (gt Y (f + c))
      · have hb2' : cmpL (gt Y (f + r)) (gt Y (f + c)) < 0 := hb2
        simp [hb2', hrl, hdl, e0, e3, t0, t3, q0, q1, q3, q4, n1, n4]
        rw [rows_swL]
        exact ⟨by omega, by omega, by omega, by omega, swL Y (f + r) (f + c), c, by omega, ⟨g1.swap (by omega) ⟨by omega, by omega⟩ ⟨by omega, by omega⟩, g2.step g3 (by omega) hbig hb2, by omega, by omega⟩, by simp⟩
      · have hb2' : ¬ cmpL (gt Y (f + r)) (gt Y (f + c)) < 0 := hb2
        simp [hb2']
        rw [← hR]
        exact ⟨Y, ⟨g1, g2.stop g1.dj (by omega) hbig hb2⟩, by simp [post]⟩
/-! ### Sorting by a heap -/

def S_heap (pg : Pg) : Prop := S_srt pg 434 (fun r => r = .tup []) (fun _ _ _ => True) fun _ Y a b _ => SI Y a b
theorem Hp.pop {Y : List (List Int)} {a i : Nat} (h : Hp Y a 0 (i + 1)) (_ : Dj Y) (hl : a + (i + 1) ≤ Y.length) : Hp (swL Y a (a + i)) a 1 i := fun p c h1 h2 h3 => by
  have hg := gt_swL (X := Y) (i := a) (j := a + i) (by omega) (by omega)
  have hpc : p < c := by unfold chd at h2; omega
  rw [hg, hg]
  have e1 : tau a (a + i) (a + p) = a + p := by unfold tau; rw [if_neg (by omega), if_neg (by omega)]
  have e2 : tau a (a + i) (a + c) = a + c := by unfold tau; rw [if_neg (by omega), if_neg (by omega)]
  rw [e1, e2]
  exact h p c (by omega) h2 (by omega)
/-- The rows from place m on are in order, and behind the others. -/
def Tl (Y : List (List Int)) (a m n : Nat) : Prop := SI Y (a + m) (a + n) ∧ ∀ p q, p < m → m ≤ q → q < n → bef (gt Y (a + p)) (gt Y (a + q))
theorem swL_self {Y : List (List Int)} {a : Nat} (h : a < Y.length) : swL Y a a = Y := by
  apply List.ext_getElem
  · simp
  · intro k h1 h2
    simp only [swL, List.getElem_set]
    split
    · rename_i hh; subst hh; exact (gt_at h).symm
    · rfl
theorem rows_self {Y : List (List Int)} {a : Nat} (h : a < Y.length) : (rows Y).set a (.mem .own (some 1) ((gt Y a).map I)) = rows Y := by
  have hs := swL_self h
  have h1 := rows_swL Y a a
  rw [hs, List.set_set] at h1
  exact h1
theorem Tl.pop {Y Z : List (List Int)} {a i n : Nat} (h : Tl Y a (i + 1) n) (hp : Hp Y a 0 (i + 1)) (hD : Dj Y) (hl : a + n ≤ Y.length) (hin : i < n) (g : PI (swL Y a (a + i)) Z a (a + i)) : Tl Z a i n := by
  have hg := gt_swL (X := Y) (i := a) (j := a + i) (by omega) (by omega)
  have htop := hp.top hD (by omega)
  have hout : ∀ q, i < q → q < n → gt Z (a + q) = gt Y (a + q) := fun q h1 h2 => by
    rw [g.out (a + q) (by omega), hg]
    unfold tau; rw [if_neg (by omega), if_neg (by omega)]
  have hat : gt Z (a + i) = gt Y a := by
    rw [g.out (a + i) (by omega), hg]
    unfold tau; rw [if_pos rfl]
  have hin' : ∀ p, p < i → ∃ k, k < i + 1 ∧ k ≠ 0 ∧ gt Z (a + p) = gt Y (a + k) := fun p h1 => by
    obtain ⟨k', q1, q2, q3⟩ := g.fwd (a + p) (by omega) (by omega)
    rw [hg] at q3
    by_cases hk : k' = a
    · refine ⟨i, by omega, by omega, ?_⟩
      rw [q3]
      unfold tau
      rw [if_neg (by omega), if_pos hk]
    · refine ⟨k' - a, by omega, by omega, ?_⟩
      rw [q3]
      unfold tau
      rw [if_neg (by omega), if_neg hk]
      congr 1
      omega
  constructor
  · intro p q h1 h2 h3
    obtain ⟨p', rfl⟩ : ∃ p', p = a + p' := ⟨p - a, by omega⟩
    obtain ⟨q', rfl⟩ : ∃ q', q = a + q' := ⟨q - a, by omega⟩
    rw [hout q' (by omega) (by omega)]
    by_cases hpi : p' = i
    · subst hpi
      rw [hat]
      exact h.2 0 q' (by omega) (by omega) (by omega)
    · rw [hout p' (by omega) (by omega)]
      exact h.1 (a + p') (a + q') (by omega) (by omega) h3
  · intro p q h1 h2 h3
    obtain ⟨k, k1, k2, k3⟩ := hin' p h1
    rw [k3]
    by_cases hqi : q = i
    · subst hqi
      rw [hat]
      exact htop k k1 k2
    · rw [hout q (by omega) h3]
      exact h.2 k q (by omega) (by omega) h3
set_option maxRecDepth 10000 in
theorem t_heapSort {pg : Pg} (hp : pg.fn 434 = some c_slices_heapSortCmpFunc___int64_) (h450 : S_sift pg) : S_heap pg := by
  intro X a b hS hD hab hb _
  have hX1 := hS.1
  have hfind := Call.findA (α := List (List Int)) (Q := fun Y => PI X Y a b ∧ SI Y a b) (args := [ownR X, I a, I b, .fn 314 []]) (args' := fun Y => [ownR Y, I a, I b, .fn 314 []]) (r := fun _ => .tup []) hp rfl (by simp [F.lets, c_slices_heapSortCmpFunc___int64_, List.range, List.range.loop]) (kind_own _ _) ?_
  · obtain ⟨Y, h1, h2⟩ := hfind
    exact ⟨Y, _, h1.1, rfl, h1.2, h2⟩
  show wp _ _ c_slices_heapSortCmpFunc___int64_.body (postX _ [] _ _ _) _
  generalize hR : postX (fun Y => PI X Y a b ∧ SI Y a b) [] [ownR X, I a, I b, .fn 314 []] (fun Y => [ownR Y, I a, I b, .fn 314 []]) (fun _ => T.tup []) = R
  obtain ⟨n, rfl⟩ : ∃ n, b = a + n := ⟨b - a, by omega⟩
  have hn : (a : Int) + n - a = n := by omega
  obtain ⟨m0, hm0⟩ : ∃ m0 : Nat, m0 = (n - 1) / 2 := ⟨_, rfl⟩
  have hdiv : ((n : Int) - 1).tdiv 2 = (m0 : Int) := by
    by_cases h0 : n = 0
    · subst h0; rw [hm0]; decide
    · rw [Int.tdiv_eq_ediv_of_nonneg (by omega)]; omega
  simp [c_slices_heapSortCmpFunc___int64_, hn, hdiv]
  refine ⟨by omega, by omega, by omega, ?_⟩
  refine wpLoop_lower (α := List (List Int) × Nat) (fun z => z.2) (fun z e => (PI X z.1 a (a + n) ∧ Hp z.1 a z.2 n ∧ z.2 ≤ 1000001) ∧ e = fr [(0, some (.val (ownR z.1))), (1, some (.val (I a))), (2, some (.val (I (a + n)))), (3, some (.val (.fn 314 []))), (8, some (.val (I a))), (9, some (.val (I 0))), (10, some (.val (I n))), (11, some (.val (I ((z.2 : Int) - 1))))]) ?_ (X, m0 + 1) _ ⟨⟨PI.refl hD _ _, fun p c h1 h2 h3 => by unfold chd at h2; simp only at h1; omega, by simp only; omega⟩, by simp⟩
  rintro ⟨Y, m⟩ e ⟨⟨g1, g2, g3⟩, rfl⟩
  simp only at g1 g2 g3
  have hY := g1.len
  cases m with
  | succ k =>
    obtain ⟨Z, ⟨z1, z2⟩, z3⟩ := h450 Y a k n (hS.pi g1) g1.dj (by omega) (by omega) g2
    have hk1 : ((k + 1 : Nat) : Int) - 1 = k := by omega
    rw [hk1]
    simp
    refine callM (ts' := [ownR Z, I k, I n, I a, .fn 314 []]) (r := .tup []) ?_ ?_ ?_ ?_
    · simp
    · simpa using z3
    · simp
    · simp
      exact ⟨by omega, Z, k, by omega, ⟨g1.trans z1, z2, by omega⟩, by simp⟩
  | zero =>
    simp
    refine ⟨by omega, ?_⟩
    refine wpLoop_lower (α := List (List Int) × Nat) (fun z => z.2) (fun z e => (PI X z.1 a (a + n) ∧ Hp z.1 a 0 z.2 ∧ Tl z.1 a z.2 n ∧ z.2 ≤ n) ∧ e = fr [(0, some (.val (ownR z.1))), (1, some (.val (I a))), (2, some (.val (I (a + n)))), (3, some (.val (.fn 314 []))), (8, some (.val (I a))), (9, some (.val (I 0))), (12, some (.val (I ((z.2 : Int) - 1))))]) ?_ (Y, n) _ ⟨⟨g1, g2, ⟨SI.one _ (by simp only; omega), fun p q h1 h2 h3 => by simp only at h2; omega⟩, by simp⟩, by simp⟩
    clear g1 g2 g3 hY
    rintro ⟨Y, m⟩ e ⟨⟨g1, g2, g3, g4⟩, rfl⟩
    simp only at g1 g2 g3 g4
    have hY := g1.len
    cases m with
    | zero =>
      simp
      rw [← hR]
      exact ⟨Y, ⟨g1, by simpa using g3.1⟩, by simp [post]⟩
    | succ i =>
      have hk1 : ((i + 1 : Nat) : Int) - 1 = i := by omega
      rw [hk1]
      have hal : a < Y.length := by omega
      have hil : a + i < Y.length := by omega
      have e1 := gt_at hal
      have e2 := gt_at hil
      have t0 : ((a : Int) + i).toNat = a + i := by
        rw [show (a : Int) + i = ((a + i : Nat) : Int) from rfl]; exact Int.toNat_natCast _
      have q0 : 0 ≤ (a : Int) + i := by omega
      have q1 : (a : Int) + i < Y.length := by omega
      have hpi : PI X (swL Y a (a + i)) a (a + n) := g1.swap (by omega) ⟨by omega, by omega⟩ ⟨by omega, by omega⟩
      obtain ⟨Z, ⟨z1, z2⟩, z3⟩ := h450 (swL Y a (a + i)) a 0 i (hS.pi hpi) hpi.dj (by simp; omega) (by omega) (g2.pop g1.dj (by omega))
      have htl := g3.pop g2 g1.dj (by omega) (by omega) z1
      have hpz := hpi.trans (z1.wide (Nat.le_refl _) (show a + i ≤ a + n by omega))
      by_cases hi0 : i = 0
      · subst hi0
        rw [show swL Y a (a + 0) = Y from swL_self hal] at z3
        have hrs := rows_self hal
        simp [hal, e1, hrs]
        refine ⟨by omega, by omega, ?_⟩
        refine callM (ts' := [ownR Z, I 0, I 0, I a, .fn 314 []]) (r := .tup []) ?_ ?_ ?_ ?_
        · simp
        · simpa using z3
        · simp
        · simp
          exact ⟨Z, ⟨hpz, z2, htl⟩, by simp⟩
      · have n1 : (a == a + i) = false := by simp; omega
        have n2 : (a + i == a) = false := by simp; omega
        have n3 : ¬ a = a + i := by omega
        simp [hal, hil, e1, e2, t0, q0, q1, n1, hi0]
        rw [rows_swL]
        refine ⟨by omega, by omega, ?_⟩
        refine callM (ts' := [ownR Z, I 0, I i, I a, .fn 314 []]) (r := .tup []) ?_ ?_ ?_ ?_
        · simp
        · simpa using z3
        · simp
        · simp
          exact ⟨by omega, Z, i, by omega, ⟨hpz, z2, htl, by omega⟩, by simp⟩
end Go.Mch
/- Bit lengths, random numbers, patterns broken. -/
namespace Go.Mch

abbrev U64 (n : Nat) : T := .sc (.int .u64 n)
set_option maxRecDepth 100000 in
theorem lenT_ok : (List.range 256).all (fun i => match lenTab[i]? with | some b => decide (i < 2 ^ b.toNat ∧ (0 < i → 2 ^ b.toNat ≤ 2 * i) ∧ b.toNat ≤ 8) | none => false) = true := by decide
theorem lenT_at {i : Nat} (h : i < 256) : ∃ b, lenTab[i]? = some b ∧ i < 2 ^ b.toNat ∧ (0 < i → 2 ^ b.toNat ≤ 2 * i) ∧ b.toNat ≤ 8 := by
  have := List.all_eq_true.1 lenT_ok i (List.mem_range.2 h)
  split at this
  · rename_i b hb
    exact ⟨b, hb, of_decide_eq_true this⟩
  · cases this
def S_len (pg : Pg) (f : Nat) : Prop := ∀ n : Nat, n ≤ 1000000 → ∃ L : Nat, (n < 2 ^ L ∧ (0 < n → 2 ^ L ≤ 2 * n) ∧ L ≤ 30) ∧ Call pg f [U64 n] [U64 n] (I L)
theorem sh16 (n : Nat) : Int.fdiv (n : Int) (2 ^ Nat.min 16 IntKind.u64.bits) = ((n / 65536 : Nat) : Int) := by
  show Int.fdiv (n : Int) ((2 : Int) ^ 16) = _
  rw [Int.fdiv_eq_ediv_of_nonneg _ (by decide)]; rfl
theorem sh8 (n : Nat) : Int.fdiv (n : Int) (2 ^ Nat.min 8 IntKind.u64.bits) = ((n / 256 : Nat) : Int) := by
  show Int.fdiv (n : Int) ((2 : Int) ^ 8) = _
  rw [Int.fdiv_eq_ediv_of_nonneg _ (by decide)]; rfl
theorem wr8 {a : Int} (h0 : 0 ≤ a) (h : a < 256) : IntKind.u8.wrap a = a := by
  show a % 256 = a
  omega
theorem wr64 {n : Nat} (h : n ≤ 100000000) : IntKind.i64.wrap (n : Int) = n := by
  have h1 : (n : Int) % 18446744073709551616 = n := by omega
  show (if (true && decide ((n : Int) % 18446744073709551616 ≥ 9223372036854775808)) = true then _ else (n : Int) % 18446744073709551616) = _
  rw [h1, if_neg (by simp; omega)]
theorem t_len64 {pg : Pg} (hp : pg.fn 442 = some c_math_bits_Len64) : S_len pg 442 := by
  intro n hn
  have h32 : ¬ 4294967296 ≤ n := by omega
  have h32' : ¬ (4294967296 : Int) ≤ n := by omega
  by_cases h16 : 65536 ≤ n
  · obtain ⟨b, b1, b2, b3, b4⟩ := lenT_at (i := n / 65536) (by omega)
    have hx : 2 ^ (16 + b.toNat) = 65536 * 2 ^ b.toNat := by rw [Nat.pow_add]
    refine ⟨16 + b.toNat, ⟨by rw [hx]; omega, fun _ => by rw [hx]; omega, by omega⟩, Call.intro hp rfl (by simp) ?_⟩
    show wp _ _ c_math_bits_Len64.body (post [.t 2] _ _ _) _
    have h16' : (65536 : Int) ≤ n := by omega
    have h8 : ¬ (256 : Int) ≤ (n : Int) / 65536 := by omega
    have e2 : ((n : Int) / 65536).toNat = n / 65536 := by omega
    have e3 : (0 : Int) ≤ (n : Int) / 65536 := by omega
    have e1 : IntKind.u8.wrap ((n : Int) / 65536) = (n : Int) / 65536 := wr8 e3 (by omega)
    simp [c_math_bits_Len64, h32', h16', sh16, h8, e1, e2, e3, b1, wr64 (show b.toNat ≤ 100000000 by omega)]
    omega
  · by_cases h8 : 256 ≤ n
    · obtain ⟨b, b1, b2, b3, b4⟩ := lenT_at (i := n / 256) (by omega)
      have hx : 2 ^ (8 + b.toNat) = 256 * 2 ^ b.toNat := by rw [Nat.pow_add]
      refine ⟨8 + b.toNat, ⟨by rw [hx]; omega, fun _ => by rw [hx]; omega, by omega⟩, Call.intro hp rfl (by simp) ?_⟩
      show wp _ _ c_math_bits_Len64.body (post [.t 2] _ _ _) _
      have h16' : ¬ (65536 : Int) ≤ n := by omega
      have h8' : (256 : Int) ≤ n := by omega
      have e2 : ((n : Int) / 256).toNat = n / 256 := by omega
      have e3 : (0 : Int) ≤ (n : Int) / 256 := by omega
      have e1 : IntKind.u8.wrap ((n : Int) / 256) = (n : Int) / 256 := wr8 e3 (by omega)
      simp [c_math_bits_Len64, h32', h16', sh8, h8', e1, e2, e3, b1, wr64 (show b.toNat ≤ 100000000 by omega)]
      omega
    · obtain ⟨b, b1, b2, b3, b4⟩ := lenT_at (i := n) (by omega)
      refine ⟨b.toNat, ⟨b2, b3, by omega⟩, Call.intro hp rfl (by simp) ?_⟩
      show wp _ _ c_math_bits_Len64.body (post [.t 2] _ _ _) _
      have h16' : ¬ (65536 : Int) ≤ n := by omega
      have h8' : ¬ (256 : Int) ≤ n := by omega
      have e1 : IntKind.u8.wrap (n : Int) = n := wr8 (by omega) (by omega)
      simp [c_math_bits_Len64, h32', h16', h8', e1, b1, wr64 (show b.toNat ≤ 100000000 by omega)]
      omega
theorem t_len {pg : Pg} (hp : pg.fn 394 = some c_math_bits_Len) (hl : S_len pg 442) : S_len pg 394 := by
  intro n hn
  obtain ⟨L, hL, h⟩ := hl n hn
  refine ⟨L, hL, Call.intro hp rfl (by simp) ?_⟩
  show wp _ _ c_math_bits_Len.body (post _ _ _ _) _
  simp [c_math_bits_Len]
  refine callR h rfl rfl (fun _ => rfl) ?_
  simp
theorem wru {a : Int} (h0 : 0 ≤ a) (h : a < 18446744073709551616) : IntKind.u64.wrap a = a := by
  show a % 18446744073709551616 = a
  omega
def S_np2 (pg : Pg) : Prop := ∀ n : Nat, 0 < n → n ≤ 1000000 → ∃ P : Nat, (0 < P ∧ P ≤ 2 * n) ∧ Call pg 451 [I n] [I n] (U64 P)
theorem t_nextPowerOfTwo {pg : Pg} (hp : pg.fn 451 = some c_slices_nextPowerOfTwo) (hl : S_len pg 394) : S_np2 pg := by
  intro n h0 hn
  obtain ⟨L, ⟨l1, l2, l3⟩, h⟩ := hl n hn
  have l4 := l2 h0
  have l5 : 0 < 2 ^ L := Nat.two_pow_pos L
  have e1 : IntKind.u64.wrap (n : Int) = n := wru (by omega) (by omega)
  have e2 : min L IntKind.u64.bits = L := Nat.min_eq_left (by show L ≤ 64; omega)
  have e3 : IntKind.u64.wrap (2 ^ L : Int) = 2 ^ L := by
    have : ((2 ^ L : Nat) : Int) = (2 : Int) ^ L := by push_cast; rfl
    rw [← this]; exact wru (by omega) (by omega)
  refine ⟨2 ^ L, ⟨l5, l4⟩, Call.intro hp rfl (by simp) ?_⟩
  show wp _ _ c_slices_nextPowerOfTwo.body (post _ _ _ _) _
  simp [c_slices_nextPowerOfTwo, e1]
  refine callR h rfl rfl (fun _ => rfl) ?_
  have e4 : ¬ (L : Int) < 0 := by omega
  simp [e2, e3, e4]
abbrev bxU (r : Int) : T := .mem .own none [.sc (.int .u64 r)]
def S_next (pg : Pg) : Prop := ∀ r : Int, ∃ r' y : Int, Call pg 452 [bxU r] [bxU r'] (.sc (.int .u64 y))
theorem t_next {pg : Pg} (hp : pg.fn 452 = some c___slices_xorshift__Next) : S_next pg := by
  intro r
  have hfind := Call.findA (α := Int × Int) (Q := fun _ => True) (args := [bxU r]) (args' := fun Y => [bxU Y.1]) (r := fun Y => .sc (.int .u64 Y.2)) hp rfl (by simp [F.lets, c___slices_xorshift__Next, List.range, List.range.loop]) (by simp [kindOf]) ?_
  · obtain ⟨Y, _, h2⟩ := hfind
    exact ⟨_, _, h2⟩
  show wp _ _ c___slices_xorshift__Next.body (postX _ [.t 2] _ _ _) _
  simp [c___slices_xorshift__Next]
  generalize IntKind.wrap IntKind.u64 _ = y
  exact ⟨(y, y), trivial, by simp [post]⟩
/-! ### Patterns broken -/

def S_brk (pg : Pg) : Prop := S_srt pg 435 (fun r => r = .tup []) (fun _ _ _ => True) fun _ _ _ _ _ => True
theorem ofI64 {n : Nat} (h : n < 18446744073709551616) : (BitVec.ofInt IntKind.u64.bits (n : Int)).toNat = n := by
  show (BitVec.ofInt 64 (n : Int)).toNat = n
  rw [BitVec.ofInt_natCast, BitVec.toNat_ofNat]
  omega
theorem and_lt {a P : Nat} (h : 0 < P) : a &&& (P - 1) < P := by
  have := Nat.and_le_right (n := a) (m := P - 1)
  omega
end Go.Mch
/- Patterns broken. -/
namespace Go.Mch

def boxT : Option T → Bool
  | some (.mem _ none _) => true
  | _ => false
@[simp] theorem boxT_mem (k : K) (ts : List T) : boxT (some (.mem k none ts)) = true := rfl
@[simp] theorem whole_pref {e : Env} (r : Nat) (p : List Nat) (off : Nat) : e.whole (.pref r p off) = (off == 0 && boxT (e.tree r p)) := by
  unfold Env.whole boxT
  rfl
@[simp] theorem hole_pref {e : Env} (r : Nat) (p : List Nat) (off : Nat) : e.hole (.pref r p off) = e.isHole r p := rfl
@[simp] theorem give_pref {e : Env} (r : Nat) (p : List Nat) (off : Nat) (t : T) : e.give (.pref r p off) t = e.back1 r p t := by cases t <;> rfl
set_option maxRecDepth 10000 in
theorem t_breakPatterns {pg : Pg} (hp : pg.fn 435 = some c_slices_breakPatternsCmpFunc___int64_) (h451 : S_np2 pg) (h452 : S_next pg) : S_brk pg := by
  intro X a b hS hD hab hb _
  have hX1 := hS.1
  have hfind := Call.findA (α := List (List Int)) (Q := fun Y => PI X Y a b) (args := [ownR X, I a, I b, .fn 314 []]) (args' := fun Y => [ownR Y, I a, I b, .fn 314 []]) (r := fun _ => .tup []) hp rfl (by simp [F.lets, c_slices_breakPatternsCmpFunc___int64_, List.range, List.range.loop]) (kind_own _ _) ?_
  · obtain ⟨Y, h1, h2⟩ := hfind
    exact ⟨Y, _, h1, rfl, trivial, h2⟩
  show wp _ _ c_slices_breakPatternsCmpFunc___int64_.body (postX _ [] _ _ _) _
  generalize hR : postX (fun Y => PI X Y a b) [] [ownR X, I a, I b, .fn 314 []] (fun Y => [ownR Y, I a, I b, .fn 314 []]) (fun _ => T.tup []) = R
  obtain ⟨n, rfl⟩ : ∃ n, b = a + n := ⟨b - a, by omega⟩
  have hn : (a : Int) + n - a = n := by omega
  by_cases h8 : 8 ≤ n
  · have h8' : (8 : Int) ≤ n := by omega
    obtain ⟨q, hq⟩ : ∃ q : Nat, q = n / 4 := ⟨_, rfl⟩
    have hdiv : (n : Int).tdiv 4 = (q : Int) := by
      rw [Int.tdiv_eq_ediv_of_nonneg (by omega)]; omega
    have ew : IntKind.u64.wrap (n : Int) = n := wru (by omega) (by omega)
    obtain ⟨P, ⟨p1, p2⟩, hP⟩ := h451 n (by omega) (by omega)
    simp [c_slices_breakPatternsCmpFunc___int64_, hn, h8', ew]
    refine ⟨by omega, ?_⟩
    refine callR hP rfl rfl (fun _ => rfl) ?_
    obtain ⟨p0, hp0⟩ : ∃ p0 : Nat, (a : Int) + q * 2 - 1 = p0 := ⟨a + q * 2 - 1, by omega⟩
    simp [hdiv, hp0]
    refine ⟨by omega, by omega, by omega, by omega, ?_⟩
    refine wpLoop_lower (α := List (List Int) × Nat × Int) (fun z => (a + q * 2 + 2 - z.2.1)) (fun z e => (PI X z.1 a (a + n) ∧ p0 ≤ z.2.1 ∧ z.2.1 ≤ a + q * 2 + 2) ∧ e = fr [(0, some (.val (ownR z.1))), (1, some (.val (I a))), (2, some (.val (I (a + n)))), (3, some (.val (.fn 314 []))), (8, some (.val (I n))), (9, some (.val (bxU z.2.2))), (10, some (.val (U64 P))), (11, some (.val (I z.2.1)))]) ?_ (X, p0, n) _ ⟨⟨PI.refl hD _ _, Nat.le_refl _, by simp only; omega⟩, by simp⟩
    rintro ⟨Y, p, r⟩ e ⟨⟨g1, g2, g3⟩, rfl⟩
    simp only at g1 g2 g3
    have hY := g1.len
    by_cases hpp : p ≤ a + q * 2 + 1
    · have hpp' : (p : Int) ≤ a + q * 2 + 1 := by omega
      obtain ⟨r', y, hy⟩ := h452 r
      have hpl : p < Y.length := by omega
      have e1 := gt_at hpl
      obtain ⟨o, ho⟩ : ∃ o : Nat, o = (y % 2 ^ IntKind.u64.bits).toNat &&& (P - 1) := ⟨_, rfl⟩
      have hoP : o < P := by rw [ho]; exact and_lt p1
      simp [hdiv, hpp']
      repeat (refine And.intro (by omega) ?_)
      refine callM (ts' := [bxU r']) (r := .sc (.int .u64 y)) ?_ ?_ ?_ ?_
      · simp
      · simpa using hy
      · simp
      · have ea : arith IntKind.u64 ((P : Int) - 1) = some (.int .u64 ((P - 1 : Nat) : Int)) := by
          have : (P : Int) - 1 = ((P - 1 : Nat) : Int) := by omega
          rw [this]
          show some (Value.int .u64 (IntKind.u64.wrap ((P - 1 : Nat) : Int))) = _
          rw [wru (by omega) (by omega)]
        have ep := ofI64 (n := P - 1) (by omega)
        simp only [BitVec.toNat_ofInt] at ep
        have ep' : (P - 1) % 2 ^ IntKind.u64.bits = P - 1 := Nat.mod_eq_of_lt (by show P - 1 < 18446744073709551616; omega)
        have eo : IntKind.i64.wrap (IntKind.u64.wrap (((y % 2 ^ IntKind.u64.bits).toNat &&& (P - 1) % 2 ^ IntKind.u64.bits : Nat) : Int)) = o := by
          rw [ep', ← ho, wru (by omega) (by omega), wr64 (by omega)]
        by_cases hno : (n : Int) ≤ o
        · skip
          obtain ⟨t, ht⟩ : ∃ t : Nat, (o : Int) - n = t := ⟨o - n, by omega⟩
          have htn : t < n := by omega
          have hnt : ¬ n ≤ t := by omega
          have htl : a + t < Y.length := by omega
          have e2 := gt_at htl
          have t0 : ((a : Int) + t).toNat = a + t := by
            rw [show (a : Int) + t = ((a + t : Nat) : Int) from rfl]; exact Int.toNat_natCast _
          have q0 : 0 ≤ (a : Int) + t := by omega
          have q1 : (a : Int) + t < Y.length := by omega
          by_cases hpt : p = a + t
          · have hrs := rows_self hpl
            have hpa : (a : Int) + t = p := by omega
            simp [ea, eo, hno, ht, hpa, hpl, e1, hrs]
            exact ⟨by omega, by omega, by omega, by omega, Y, p + 1, by omega, ⟨g1, by omega, by omega⟩, r', by simp⟩
          · have n1 : (p == a + t) = false := by simp; omega
            have n2 : (a + t == p) = false := by simp; omega
            simp [ea, eo, hno, ht, hpl, htl, e1, e2, t0, q0, q1, n1, hpt]
            rw [rows_swL]
            exact ⟨by omega, by omega, by omega, by omega, swL Y p (a + t), p + 1, by omega, ⟨g1.swap (by omega) ⟨by omega, by omega⟩ ⟨by omega, by omega⟩, by omega, by omega⟩, r', by simp⟩
        · skip
          obtain ⟨t, ht⟩ : ∃ t : Nat, (o : Int) = t := ⟨o, rfl⟩
          have htn : t < n := by omega
          have hnt : ¬ n ≤ t := by omega
          have htl : a + t < Y.length := by omega
          have e2 := gt_at htl
          have t0 : ((a : Int) + t).toNat = a + t := by
            rw [show (a : Int) + t = ((a + t : Nat) : Int) from rfl]; exact Int.toNat_natCast _
          have q0 : 0 ≤ (a : Int) + t := by omega
          have q1 : (a : Int) + t < Y.length := by omega
          by_cases hpt : p = a + t
          · have hrs := rows_self hpl
            have hpa : (a : Int) + t = p := by omega
            simp [ea, eo, hnt, ht, hpa, hpl, e1, hrs]
            exact ⟨by omega, by omega, by omega, Y, p + 1, by omega, ⟨g1, by omega, by omega⟩, r', by simp⟩
          · have n1 : (p == a + t) = false := by simp; omega
            have n2 : (a + t == p) = false := by simp; omega
            simp [ea, eo, hnt, ht, hpl, htl, e1, e2, t0, q0, q1, n1, hpt]
            rw [rows_swL]
            exact ⟨by omega, by omega, by omega, swL Y p (a + t), p + 1, by omega, ⟨g1.swap (by omega) ⟨by omega, by omega⟩ ⟨by omega, by omega⟩, by omega, by omega⟩, r', by simp⟩
    · have hpp' : ¬ (p : Int) ≤ a + q * 2 + 1 := by omega
      simp [hdiv, hpp']
      repeat (refine And.intro (by omega) ?_)
      rw [← hR]
      exact ⟨Y, g1, by simp [post]⟩
  · have h8' : ¬ (8 : Int) ≤ n := by omega
    simp [c_slices_breakPatternsCmpFunc___int64_, hn, h8']
    refine ⟨by omega, ?_⟩
    rw [← hR]
    exact ⟨X, PI.refl hD _ _, by simp [post]⟩
end Go.Mch
/- Choosing a pivot. -/
namespace Go.Mch

abbrev bxI (s : Int) : T := .mem .own none [I s]
def S_ord2 (pg : Pg) : Prop := ∀ (X : List (List Int)) (i j s : Nat), Sm X → i < X.length → j < X.length → s ≤ 1000 →
  ∃ i' j' s' : Nat, (((i' = i ∧ j' = j) ∨ (i' = j ∧ j' = i)) ∧ s' ≤ s + 1) ∧ Call pg 465 [ownR X, I i, I j, bxI s, .fn 314 []] [ownR X, I i, I j, bxI s', .fn 314 []] (.tup [I i', I j'])
theorem t_order2 {pg : Pg} (hp : pg.fn 465 = some c_slices_order2CmpFunc___int64_) (h314 : S_cmpL pg) : S_ord2 pg := by
  intro X i j s hS hi hj hs
  have hX1 := hS.1
  have e1 := gt_at hi
  have e2 := gt_at hj
  have hc := h314 (gt X j) (gt X i) (hS.2 _)
  by_cases hb : cmpL (gt X j) (gt X i) < 0
  · refine ⟨j, i, s + 1, ⟨.inr ⟨rfl, rfl⟩, by omega⟩, Call.intro_own hp rfl (by simp [F.lets, c_slices_order2CmpFunc___int64_, List.range, List.range.loop]) ?_⟩
    show wp _ _ c_slices_order2CmpFunc___int64_.body (post [.t 10, .t 11] _ _ _) _
    simp [c_slices_order2CmpFunc___int64_, hi, hj, e1, e2]
    repeat (refine And.intro (by omega) ?_)
    refine callR hc rfl rfl (fun _ => rfl) ?_
    simp [hb]
    omega
  · refine ⟨i, j, s, ⟨.inl ⟨rfl, rfl⟩, by omega⟩, Call.intro_own hp rfl (by simp [F.lets, c_slices_order2CmpFunc___int64_, List.range, List.range.loop]) ?_⟩
    show wp _ _ c_slices_order2CmpFunc___int64_.body (post [.t 10, .t 11] _ _ _) _
    simp [c_slices_order2CmpFunc___int64_, hi, hj, e1, e2]
    repeat (refine And.intro (by omega) ?_)
    refine callR hc rfl rfl (fun _ => rfl) ?_
    simp [hb]
def S_med (pg : Pg) : Prop := ∀ (X : List (List Int)) (i j k s : Nat), Sm X → i < X.length → j < X.length → k < X.length → s ≤ 900 →
  ∃ m s' : Nat, ((m = i ∨ m = j ∨ m = k) ∧ s' ≤ s + 3) ∧ Call pg 454 [ownR X, I i, I j, I k, bxI s, .fn 314 []] [ownR X, I i, I j, I k, bxI s', .fn 314 []] (I m)
theorem t_median {pg : Pg} (hp : pg.fn 454 = some c_slices_medianCmpFunc___int64_) (h465 : S_ord2 pg) : S_med pg := by
  intro X i j k s hS hi hj hk hs
  obtain ⟨i1, j1, s1, ⟨c1, d1⟩, h1⟩ := h465 X i j s hS hi hj (by omega)
  obtain ⟨j2, k2, s2, ⟨c2, d2⟩, h2⟩ := h465 X j1 k s1 hS (by omega) hk (by omega)
  obtain ⟨i3, j3, s3, ⟨c3, d3⟩, h3⟩ := h465 X i1 j2 s2 hS (by omega) (by omega) (by omega)
  refine ⟨j3, s3, ⟨by omega, by omega⟩, Call.intro_own hp rfl (by simp [F.lets, c_slices_medianCmpFunc___int64_, List.range, List.range.loop]) ?_⟩
  show wp _ _ c_slices_medianCmpFunc___int64_.body (post [.t 12] _ _ _) _
  simp [c_slices_medianCmpFunc___int64_]
  refine callM (ts' := [ownR X, I i, I j, bxI s1, .fn 314 []]) (r := .tup [I i1, I j1]) ?_ ?_ ?_ ?_
  · simp
  · simpa using h1
  · simp
  · simp
    refine callM (ts' := [ownR X, I j1, I k, bxI s2, .fn 314 []]) (r := .tup [I j2, I k2]) ?_ ?_ ?_ ?_
    · simp
    · simpa using h2
    · simp
    · simp
      refine callM (ts' := [ownR X, I i1, I j2, bxI s3, .fn 314 []]) (r := .tup [I i3, I j3]) ?_ ?_ ?_ ?_
      · simp
      · simpa using h3
      · simp
      · simp
def S_madj (pg : Pg) : Prop := ∀ (X : List (List Int)) (i s : Nat), Sm X → 0 < i → i + 1 < X.length → s ≤ 800 →
  ∃ m s' : Nat, ((i ≤ m + 1 ∧ m ≤ i + 1) ∧ s' ≤ s + 3) ∧ Call pg 453 [ownR X, I i, bxI s, .fn 314 []] [ownR X, I i, bxI s', .fn 314 []] (I m)
theorem t_medianAdjacent {pg : Pg} (hp : pg.fn 453 = some c_slices_medianAdjacentCmpFunc___int64_) (h454 : S_med pg) : S_madj pg := by
  intro X i s hS h0 hi hs
  have hX1 := hS.1
  obtain ⟨m, s1, ⟨c1, d1⟩, h1⟩ := h454 X (i - 1) i (i + 1) s hS (by omega) (by omega) (by omega) (by omega)
  have ei : ((i - 1 : Nat) : Int) = (i : Int) - 1 := by omega
  rw [ei] at h1
  push_cast at h1
  refine ⟨m, s1, ⟨by omega, by omega⟩, Call.intro_own hp rfl (by simp [F.lets, c_slices_medianAdjacentCmpFunc___int64_, List.range, List.range.loop]) ?_⟩
  show wp _ _ c_slices_medianAdjacentCmpFunc___int64_.body (post [.t 8] _ _ _) _
  simp [c_slices_medianAdjacentCmpFunc___int64_]
  repeat (refine And.intro (by omega) ?_)
  refine callM (ts' := [ownR X, I ((i : Int) - 1), I i, I ((i : Int) + 1), bxI s1, .fn 314 []]) (r := I m) ?_ ?_ ?_ ?_
  · simp
  · simpa using h1
  · simp
  · simp
def S_piv (pg : Pg) : Prop := ∀ (X : List (List Int)) (a b : Nat), Sm X → a + 12 < b → b ≤ X.length →
  ∃ p h : Nat, (a < p ∧ p + 1 < b) ∧ Call pg 436 [ownR X, I a, I b, .fn 314 []] [ownR X, I a, I b, .fn 314 []] (.tup [I p, I h])
set_option maxRecDepth 10000 in
theorem t_choosePivot {pg : Pg} (hp : pg.fn 436 = some c_slices_choosePivotCmpFunc___int64_) (h453 : S_madj pg) (h454 : S_med pg) : S_piv pg := by
  intro X a b hS hab hb
  have hX1 := hS.1
  have hfind := Call.findA (α := Nat × Nat) (Q := fun z => a < z.1 ∧ z.1 + 1 < b) (args := [ownR X, I a, I b, .fn 314 []]) (args' := fun _ => [ownR X, I a, I b, .fn 314 []]) (r := fun z => .tup [I z.1, I z.2]) hp rfl (by simp [F.lets, c_slices_choosePivotCmpFunc___int64_, List.range, List.range.loop]) (kind_own _ _) ?_
  · obtain ⟨z, h1, h2⟩ := hfind
    exact ⟨z.1, z.2, h1, h2⟩
  show wp _ _ c_slices_choosePivotCmpFunc___int64_.body (postX _ [.t 8, .t 9] _ _ _) _
  generalize hR : postX (fun z : Nat × Nat => a < z.1 ∧ z.1 + 1 < b) [.t 8, .t 9] [ownR X, I a, I b, .fn 314 []] (fun _ => [ownR X, I a, I b, .fn 314 []]) (fun z => T.tup [I z.1, I z.2]) = R
  obtain ⟨n, rfl⟩ : ∃ n, b = a + n := ⟨b - a, by omega⟩
  have hn : (a : Int) + n - a = n := by omega
  obtain ⟨q, hq⟩ : ∃ q : Nat, q = n / 4 := ⟨_, rfl⟩
  have hdiv : (n : Int).tdiv 4 = (q : Int) := by
    rw [Int.tdiv_eq_ediv_of_nonneg (by omega)]; omega
  have h8 : (8 : Int) ≤ n := by omega
  obtain ⟨i, hi⟩ : ∃ i : Nat, (a : Int) + q = i := ⟨a + q, by omega⟩
  obtain ⟨j, hj⟩ : ∃ j : Nat, (a : Int) + q * 2 = j := ⟨a + q * 2, by omega⟩
  obtain ⟨k, hk⟩ : ∃ k : Nat, (a : Int) + q * 3 = k := ⟨a + q * 3, by omega⟩
  by_cases h50 : (50 : Int) ≤ n
  · have h50' : 50 ≤ n := by omega
    simp [c_slices_choosePivotCmpFunc___int64_, hn, hdiv, h8, h50, hi, hj, hk]
    repeat (refine And.intro (by omega) ?_)
    obtain ⟨m1, s1, ⟨cm1, dm1⟩, hm1⟩ := h453 X i 0 hS (by omega) (by omega) (by omega)
    refine callM (ts' := [ownR X, I i, bxI s1, .fn 314 []]) (r := I m1) ?_ ?_ ?_ ?_
    · simp
    · simpa using hm1
    · simp
    · simp
      obtain ⟨m2, s2, ⟨cm2, dm2⟩, hm2⟩ := h453 X j s1 hS (by omega) (by omega) (by omega)
      refine callM (ts' := [ownR X, I j, bxI s2, .fn 314 []]) (r := I m2) ?_ ?_ ?_ ?_
      · simp
      · simpa using hm2
      · simp
      · simp
        obtain ⟨m3, s3, ⟨cm3, dm3⟩, hm3⟩ := h453 X k s2 hS (by omega) (by omega) (by omega)
        refine callM (ts' := [ownR X, I k, bxI s3, .fn 314 []]) (r := I m3) ?_ ?_ ?_ ?_
        · simp
        · simpa using hm3
        · simp
        · simp
          obtain ⟨m, s, ⟨hm1, hm2⟩, hm⟩ := h454 X m1 m2 m3 s3 hS (by omega) (by omega) (by omega) (by omega)
          refine callM (ts' := [ownR X, I m1, I m2, I m3, bxI s, .fn 314 []]) (r := I m) ?_ ?_ ?_ ?_
          · simp
          · simpa using hm
          · simp
          · simp
            rw [← hR]
            by_cases hs0 : s = 0
            · simp [hs0]
              exact ⟨(m, 1), ⟨by simp only; omega, by simp only; omega⟩, by simp [post]⟩
            · by_cases hs12 : s = 12
              · simp [hs12]
                exact ⟨(m, 2), ⟨by simp only; omega, by simp only; omega⟩, by simp [post]⟩
              · have hs12' : ¬ (s : Int) = 12 := by omega
                simp [hs0, hs12']
                exact ⟨(m, 0), ⟨by simp only; omega, by simp only; omega⟩, by simp [post]⟩
  · have h50' : ¬ 50 ≤ n := by omega
    simp [c_slices_choosePivotCmpFunc___int64_, hn, hdiv, h8, h50, hi, hj, hk]
    repeat (refine And.intro (by omega) ?_)
    obtain ⟨m, s, ⟨hm1, hm2⟩, hm⟩ := h454 X i j k 0 hS (by omega) (by omega) (by omega) (by omega)
    refine callM (ts' := [ownR X, I i, I j, I k, bxI s, .fn 314 []]) (r := I m) ?_ ?_ ?_ ?_
    · simp
    · simpa using hm
    · simp
    · simp
      rw [← hR]
      by_cases hs0 : s = 0
      · simp [hs0]
        exact ⟨(m, 1), ⟨by simp only; omega, by simp only; omega⟩, by simp [post]⟩
      · by_cases hs12 : s = 12
        · simp [hs12]
          exact ⟨(m, 2), ⟨by simp only; omega, by simp only; omega⟩, by simp [post]⟩
        · have hs12' : ¬ (s : Int) = 12 := by omega
          simp [hs0, hs12']
          exact ⟨(m, 0), ⟨by simp only; omega, by simp only; omega⟩, by simp [post]⟩
end Go.Mch
/- Partition. -/
namespace Go.Mch

structure PV (X Y : List (List Int)) (a b i j : Nat) : Prop where
  pi : PI X Y a b
  l : ∀ k, a < k → k < i → bef (gt Y k) (gt Y a)
  r : ∀ k, j < k → k < b → ¬ bef (gt Y k) (gt Y a)
  h1 : a < i
  h2 : i ≤ j + 1
  h3 : j < b
def PtQ (X Y : List (List Int)) (a b m : Nat) : Prop := PI X Y a b ∧ a ≤ m ∧ m < b ∧ (∀ k, a ≤ k → k < m → bef (gt Y k) (gt Y m)) ∧ ∀ k, m < k → k < b → bef (gt Y m) (gt Y k)
section
variable {X Y : List (List Int)} {a b i j : Nat}
theorem PV.len (h : PV X Y a b i j) : Y.length = X.length := h.pi.len
theorem PV.facts (h : PV X Y a b i j) (hb : b ≤ X.length) (hab : a + 2 ≤ b) : Y.length = X.length ∧ a < Y.length ∧ a < i ∧ i ≤ j + 1 ∧ j < b := ⟨h.pi.len, by have := h.pi.len; omega, h.h1, h.h2, h.h3⟩
theorem PV.left (h : PV X Y a b i j) (hij : i ≤ j) (hb : bef (gt Y i) (gt Y a)) : PV X Y a b (i + 1) j :=
  ⟨h.pi, fun k h1 h2 => by
    by_cases hk : k = i
    · subst hk; exact hb
    · exact h.l k h1 (by omega), h.r, by have := h.h1; omega, by omega, h.h3⟩
theorem PV.right (h : PV X Y a b i j) (hij : i ≤ j) (hb : ¬ bef (gt Y j) (gt Y a)) : PV X Y a b i (j - 1) :=
  ⟨h.pi, h.l, fun k h1 h2 => by
    by_cases hk : k = j
    · subst hk; exact hb
    · exact h.r k (by omega) h2, h.h1, by have := h.h1; omega, by have := h.h3; omega⟩
theorem PV.swap (h : PV X Y a b i j) (hij : i < j) (hj : bef (gt Y j) (gt Y a)) (hi : ¬ bef (gt Y i) (gt Y a)) (hb : b ≤ X.length) : PV X (swL Y i j) a b (i + 1) (j - 1) := by
  have hl := h.len
  have h1 := h.h1
  have h3 := h.h3
  have hg := gt_swL (X := Y) (i := i) (j := j) (by omega) (by omega)
  have ha : tau i j a = a := by unfold tau; rw [if_neg (by omega), if_neg (by omega)]
  refine ⟨h.pi.swap hb (by omega) (by omega), fun k k1 k2 => ?_, fun k k1 k2 => ?_, by omega, by omega, by omega⟩
  · rw [hg, hg, ha]
    by_cases hk : k = i
    · subst hk
      have : tau k j k = j := by unfold tau; rw [if_neg (by omega), if_pos rfl]
      rw [this]; exact hj
    · have : tau i j k = k := by unfold tau; rw [if_neg (by omega), if_neg hk]
      rw [this]; exact h.l k k1 (by omega)
  · rw [hg, hg, ha]
    by_cases hk : k = j
    · subst hk
      have : tau i k k = i := by unfold tau; rw [if_pos rfl]
      rw [this]; exact hi
    · have : tau i j k = k := by unfold tau; rw [if_neg hk, if_neg (by omega)]
      rw [this]; exact h.r k (by omega) k2
theorem PV.fin (h : PV X Y a b i j) (hji : j < i) (hb : b ≤ X.length) : PtQ X (swL Y j a) a b j := by
  have hl := h.len
  have h1 := h.h1
  have h2 := h.h2
  have h3 := h.h3
  have hg := gt_swL (X := Y) (i := j) (j := a) (by omega) (by omega)
  have hj : tau j a j = a := by
    unfold tau
    by_cases he : j = a
    · rw [if_pos he, he]
    · rw [if_neg he, if_pos rfl]
  refine ⟨h.pi.swap hb (by omega) (by omega), by omega, h3, fun k k1 k2 => ?_, fun k k1 k2 => ?_⟩
  · rw [hg, hg, hj]
    by_cases hk : k = a
    · have : tau j a k = j := by unfold tau; rw [if_pos hk]
      rw [this]; exact h.l j (by omega) hji
    · have : tau j a k = k := by unfold tau; rw [if_neg hk, if_neg (by omega)]
      rw [this]; exact h.l k (by omega) (by omega)
  · rw [hg, hg, hj]
    have : tau j a k = k := by unfold tau; rw [if_neg (by omega), if_neg (by omega)]
    rw [this]
    exact h.pi.dj.or (by omega) (by omega) (by omega) (h.r k k1 k2)
end
def S_part (pg : Pg) : Prop := ∀ (X : List (List Int)) (a b p : Nat), Sm X → Dj X → a < p → p < b → b ≤ X.length →
  ∃ (Y : List (List Int)) (m : Nat) (ap : Bool), PtQ X Y a b m ∧ Call pg 440 [ownR X, I a, I b, I p, .fn 314 []] [ownR Y, I a, I b, I p, .fn 314 []] (.tup [I m, .sc (.bool ap)])
set_option maxRecDepth 10000 in
theorem t_partition {pg : Pg} (hp : pg.fn 440 = some c_slices_partitionCmpFunc___int64_) (h314 : S_cmpL pg) : S_part pg := by
  intro X a b p hS hD hap hpb hb
  have hX1 := hS.1
  have hab2 : a + 2 ≤ b := by omega
  have hfind := Call.findA (α := List (List Int) × Nat × Bool) (Q := fun z => PtQ X z.1 a b z.2.1) (args := [ownR X, I a, I b, I p, .fn 314 []]) (args' := fun z => [ownR z.1, I a, I b, I p, .fn 314 []]) (r := fun z => .tup [I z.2.1, .sc (.bool z.2.2)]) hp rfl (by simp [F.lets, c_slices_partitionCmpFunc___int64_, List.range, List.range.loop]) (kind_own _ _) ?_
  · obtain ⟨z, h1, h2⟩ := hfind
    exact ⟨z.1, z.2.1, z.2.2, h1, h2⟩
  show wp _ _ c_slices_partitionCmpFunc___int64_.body (postX _ [.t 10, .t 11] _ _ _) _
  generalize hR : postX (fun z : List (List Int) × Nat × Bool => PtQ X z.1 a b z.2.1) [.t 10, .t 11] [ownR X, I a, I b, I p, .fn 314 []] (fun z => [ownR z.1, I a, I b, I p, .fn 314 []]) (fun z => T.tup [I z.2.1, .sc (.bool z.2.2)]) = R
  have hal0 : a < X.length := by omega
  have hpl0 : p < X.length := by omega
  have e1 := gt_at hal0
  have e2 := gt_at hpl0
  have n1 : (a == p) = false := by simp; omega
  have n2 : (p == a) = false := by simp; omega
  have n3 : ¬ a = p := by omega
  have hg0 : PV X (swL X a p) a b (a + 1) (b - 1) := ⟨(PI.refl hD a b).swap hb (by omega) (by omega), fun k h1 h2 => by omega, fun k h1 h2 => by omega, by omega, by omega, by omega⟩
  obtain ⟨Y0, hY0⟩ : ∃ Y0, swL X a p = Y0 := ⟨_, rfl⟩
  obtain ⟨j0, hj0⟩ : ∃ j0 : Nat, (b - 1 : Nat) = j0 := ⟨_, rfl⟩
  have hj0' : (b : Int) - 1 = j0 := by omega
  rw [hY0, hj0] at hg0
  simp [c_slices_partitionCmpFunc___int64_, hal0, hpl0, e1, e2, n1, n3, hj0']
  rw [rows_swL, hY0]
  repeat (refine And.intro (by omega) ?_)
  clear e1 e2 n1 n2 n3
  generalize hK1 : Go.Mch.X.out 0 _ = K1
  have hk1 : ∀ s : Nat, PV X Y0 a b s j0 → (a + 1) ≤ s → (j0 < s ∨ ¬ bef (gt Y0 s) (gt Y0 a)) → K1 (.ext 0) (fr [(0, some (.val (ownR Y0))), (1, some (.val (I a))), (2, some (.val (I b))), (3, some (.val (I p))), (4, some (.val (.fn 314 []))), (12, some (.val (I s))), (13, some (.val (I j0))), (47, some (.val (.sc (.bool false))))]) := by
    intro s g1 hss hx1
    rw [← hK1]
    have hlen1 := g1.len
    simp
    generalize hK2 : Go.Mch.X.out 2 _ = K2
    have hk2 : ∀ r : Nat, PV X Y0 a b s r → r ≤ j0 → (r < s ∨ bef (gt Y0 r) (gt Y0 a)) → K2 (.ext 2) (fr [(0, some (.val (ownR Y0))), (1, some (.val (I a))), (2, some (.val (I b))), (3, some (.val (I p))), (4, some (.val (.fn 314 []))), (12, some (.val (I s))), (13, some (.val (I r))), (66, some (.val (.sc (.bool false))))]) := by
      intro r g2 hjj hx2
      rw [← hK2]
      obtain ⟨hY, hal, hj1, hj2, hj3⟩ := g2.facts hb hab2
      simp
      by_cases hij0 : r < s
      · skip
        have hjl : r < (Y0).length := by omega
        have e1 := gt_at hjl
        have e2 := gt_at hal
        have hji : r < s := by omega
        by_cases hja : r = a
        · have hrs := rows_self hal
          have hq := g2.fin hji hb
          rw [hja, swL_self hal] at hq
          subst hja
          simp [hji, hal, e2, hrs]
          repeat (refine And.intro (by omega) ?_)
          rw [← hR]
          exact ⟨(Y0, r, true), hq, by simp [post]⟩
        · have n1 : (r == a) = false := by simp; omega
          have n2 : (a == r) = false := by simp; omega
          simp [hji, hal, hjl, e1, e2, n1, hja]
          rw [rows_swL]
          repeat (refine And.intro (by omega) ?_)
          rw [← hR]
          exact ⟨(swL (Y0) r a, r, true), g2.fin hji hb, by simp [post]⟩
      · skip
        have hij : s ≤ r := by omega
        have hnb := hx1.resolve_left (by omega)
        have hb1 := hx2.resolve_left (by omega)
        have hne : s ≠ r := fun h => hnb (by rw [h]; exact hb1)
        have hjl : r < (Y0).length := by omega
        have hil : s < (Y0).length := by omega
        have e1 := gt_at hjl
        have e2 := gt_at hil
        have n1 : (r == s) = false := by simp; omega
        have n2 : (s == r) = false := by simp; omega
        have n3 : ¬ r < s := by omega
        have hjr : (r : Int) - 1 = ((r - 1 : Nat) : Int) := by omega
        have hsw := g2.swap (by omega) hb1 hnb hb
        simp [n3, hil, hjl, e1, e2, n2, hne, hjr]
        rw [rows_swL]
        repeat (refine And.intro (by omega) ?_)
        refine wpLoop_lower (α := List (List Int) × Nat × Nat) (fun z => z.2.2 + 1 - z.2.1) (fun z e => PV X z.1 a b z.2.1 z.2.2 ∧ e = fr [(0, some (.val (ownR z.1))), (1, some (.val (I a))), (2, some (.val (I b))), (3, some (.val (I p))), (4, some (.val (.fn 314 []))), (12, some (.val (I z.2.1))), (13, some (.val (I z.2.2)))]) ?_ (swL Y0 s r, s + 1, r - 1) _ ⟨hsw, by simp⟩
        clear hal hj1 hj2 hj3 hjl hil e1 e2 n1 n2 n3 hjr hsw hnb hb1 hne hij hij0 hx1 hx2 hss hjj g1 g2
        rintro ⟨Y, i, j⟩ e ⟨g, rfl⟩
        simp only at g
        simp
        generalize hK3 : Go.Mch.X.out 6 _ = K3
        have hk3 : ∀ s : Nat, PV X Y a b s j → i ≤ s → (j < s ∨ ¬ bef (gt Y s) (gt Y a)) → K3 (.ext 6) (fr [(0, some (.val (ownR Y))), (1, some (.val (I a))), (2, some (.val (I b))), (3, some (.val (I p))), (4, some (.val (.fn 314 []))), (12, some (.val (I s))), (13, some (.val (I j))), (120, some (.val (.sc (.bool false))))]) := by
          intro s g3 hss hx3
          rw [← hK3]
          have hlen3 := g3.len
          simp
          generalize hK4 : Go.Mch.X.out 8 _ = K4
          have hk4 : ∀ r : Nat, PV X Y a b s r → r ≤ j → (r < s ∨ bef (gt Y r) (gt Y a)) → K4 (.ext 8) (fr [(0, some (.val (ownR Y))), (1, some (.val (I a))), (2, some (.val (I b))), (3, some (.val (I p))), (4, some (.val (.fn 314 []))), (12, some (.val (I s))), (13, some (.val (I r))), (139, some (.val (.sc (.bool false))))]) := by
            intro r g4 hjj hx4
            rw [← hK4]
            obtain ⟨hY, hal, hj1, hj2, hj3⟩ := g4.facts hb hab2
            simp
            by_cases hij0 : r < s
            · skip
              have hjl : r < (Y).length := by omega
              have e1 := gt_at hjl
              have e2 := gt_at hal
              have hji : r < s := by omega
              by_cases hja : r = a
              · have hrs := rows_self hal
                have hq := g4.fin hji hb
                rw [hja, swL_self hal] at hq
                subst hja
                simp [hji, hal, e2, hrs]
                repeat (refine And.intro (by omega) ?_)
                rw [← hR]
                exact ⟨(Y, r, false), hq, by simp [post]⟩
              · have n1 : (r == a) = false := by simp; omega
                have n2 : (a == r) = false := by simp; omega
                simp [hji, hal, hjl, e1, e2, n1, hja]
                rw [rows_swL]
                repeat (refine And.intro (by omega) ?_)
                rw [← hR]
                exact ⟨(swL (Y) r a, r, false), g4.fin hji hb, by simp [post]⟩
            · skip
              have hij : s ≤ r := by omega
              have hnb := hx3.resolve_left (by omega)
              have hb1 := hx4.resolve_left (by omega)
              have hne : s ≠ r := fun h => hnb (by rw [h]; exact hb1)
              have hjl : r < (Y).length := by omega
              have hil : s < (Y).length := by omega
              have e1 := gt_at hjl
              have e2 := gt_at hil
              have n1 : (r == s) = false := by simp; omega
              have n2 : (s == r) = false := by simp; omega
              have n3 : ¬ r < s := by omega
              have hjr : (r : Int) - 1 = ((r - 1 : Nat) : Int) := by omega
              have hsw := g4.swap (by omega) hb1 hnb hb
              simp [n3, hil, hjl, e1, e2, n2, hne, hjr]
              rw [rows_swL]
              repeat (refine And.intro (by omega) ?_)
              exact ⟨swL Y s r, s + 1, r - 1, by omega, hsw, by simp⟩
          clear hK4
          refine wpLoop_lower (α := Nat) (fun z => z) (fun z e => (PV X Y a b s z ∧ z ≤ j) ∧ (e = fr [(0, some (.val (ownR Y))), (1, some (.val (I a))), (2, some (.val (I b))), (3, some (.val (I p))), (4, some (.val (.fn 314 []))), (12, some (.val (I s))), (13, some (.val (I z))), (120, some (.val (.sc (.bool false))))] ∨ e = fr [(0, some (.val (ownR Y))), (1, some (.val (I a))), (2, some (.val (I b))), (3, some (.val (I p))), (4, some (.val (.fn 314 []))), (12, some (.val (I s))), (13, some (.val (I z)))])) ?_ j _ ⟨⟨g3, Nat.le_refl _⟩, .inl (by simp)⟩
          rintro r e ⟨⟨g, gj⟩, hee⟩
          obtain ⟨hY, hal, hj1, hj2, hj3⟩ := g.facts hb hab2
          have hSY := hS.pi g.pi
          by_cases hij : s ≤ r
          · have hjl : r < (Y).length := by omega
            have e1 := gt_at hjl
            have e2 := gt_at hal
            have hc := h314 (gt Y r) (gt Y a) (hSY.2 _)
            rcases hee with rfl | rfl
            all_goals
              simp [hij, hjl, hal, e1, e2]
              repeat (refine And.intro (by omega) ?_)
              refine callR hc rfl rfl (fun _ => rfl) ?_
              by_cases hbf : bef (gt Y r) (gt Y a)
              · have hb' : cmpL (gt Y r) (gt Y a) < 0 := hbf
                simp [hb']
                exact hk4 r g gj (.inr hbf)
              · have hb' : ¬ cmpL (gt Y r) (gt Y a) < 0 := hbf
                have hjr : ((r - 1 : Nat) : Int) = (r : Int) - 1 := by omega
                simp [hb']
                exact ⟨by omega, r - 1, by omega, ⟨g.right hij hbf, by omega⟩, .inr (by rw [hjr])⟩
          · rcases hee with rfl | rfl
            all_goals
              simp [hij, undefV]
              exact hk4 r g gj (.inl (by omega))
        clear hK3
        refine wpLoop_lower (α := Nat) (fun z => b - z) (fun z e => (PV X Y a b z j ∧ i ≤ z) ∧ e = fr [(0, some (.val (ownR Y))), (1, some (.val (I a))), (2, some (.val (I b))), (3, some (.val (I p))), (4, some (.val (.fn 314 []))), (12, some (.val (I z))), (13, some (.val (I j)))]) ?_ i _ ⟨⟨g, Nat.le_refl _⟩, by simp⟩
        rintro s e ⟨⟨g, gs⟩, rfl⟩
        obtain ⟨hY, hal, hj1, hj2, hj3⟩ := g.facts hb hab2
        have hSY := hS.pi g.pi
        by_cases hij : s ≤ j
        · have hij' : (s : Int) ≤ j := by omega
          have hil : s < (Y).length := by omega
          have e1 := gt_at hil
          have e2 := gt_at hal
          have hc := h314 (gt Y s) (gt Y a) (hSY.2 _)
          simp [hij, hil, hal, e1, e2]
          repeat (refine And.intro (by omega) ?_)
          refine callR hc rfl rfl (fun _ => rfl) ?_
          by_cases hbf : bef (gt Y s) (gt Y a)
          · have hb' : cmpL (gt Y s) (gt Y a) < 0 := hbf
            simp [hb']
            exact ⟨by omega, s + 1, by omega, ⟨g.left hij hbf, by omega⟩, by simp⟩
          · have hb' : ¬ cmpL (gt Y s) (gt Y a) < 0 := hbf
            simp [hb']
            exact hk3 s g gs (.inr hbf)
        · simp [hij, undefV]
          exact hk3 s g gs (.inl (by omega))
    clear hK2
    refine wpLoop_lower (α := Nat) (fun z => z) (fun z e => (PV X Y0 a b s z ∧ z ≤ j0) ∧ (e = fr [(0, some (.val (ownR Y0))), (1, some (.val (I a))), (2, some (.val (I b))), (3, some (.val (I p))), (4, some (.val (.fn 314 []))), (12, some (.val (I s))), (13, some (.val (I z))), (47, some (.val (.sc (.bool false))))] ∨ e = fr [(0, some (.val (ownR Y0))), (1, some (.val (I a))), (2, some (.val (I b))), (3, some (.val (I p))), (4, some (.val (.fn 314 []))), (12, some (.val (I s))), (13, some (.val (I z)))])) ?_ j0 _ ⟨⟨g1, Nat.le_refl _⟩, .inl (by simp)⟩
    rintro r e ⟨⟨g, gj⟩, hee⟩
    obtain ⟨hY, hal, hj1, hj2, hj3⟩ := g.facts hb hab2
    have hSY := hS.pi g.pi
    by_cases hij : s ≤ r
    · have hjl : r < (Y0).length := by omega
      have e1 := gt_at hjl
      have e2 := gt_at hal
      have hc := h314 (gt Y0 r) (gt Y0 a) (hSY.2 _)
      rcases hee with rfl | rfl
      all_goals
        simp [hij, hjl, hal, e1, e2]
        repeat (refine And.intro (by omega) ?_)
        refine callR hc rfl rfl (fun _ => rfl) ?_
        by_cases hbf : bef (gt Y0 r) (gt Y0 a)
        · have hb' : cmpL (gt Y0 r) (gt Y0 a) < 0 := hbf
          simp [hb']
          exact hk2 r g gj (.inr hbf)
        · have hb' : ¬ cmpL (gt Y0 r) (gt Y0 a) < 0 := hbf
          have hjr : ((r - 1 : Nat) : Int) = (r : Int) - 1 := by omega
          simp [hb']
          exact ⟨by omega, r - 1, by omega, ⟨g.right hij hbf, by omega⟩, .inr (by rw [hjr])⟩
    · rcases hee with rfl | rfl
      all_goals
        simp [hij, undefV]
        exact hk2 r g gj (.inl (by omega))
  clear hK1
  refine wpLoop_lower (α := Nat) (fun z => b - z) (fun z e => (PV X Y0 a b z j0 ∧ (a + 1) ≤ z) ∧ e = fr [(0, some (.val (ownR Y0))), (1, some (.val (I a))), (2, some (.val (I b))), (3, some (.val (I p))), (4, some (.val (.fn 314 []))), (12, some (.val (I z))), (13, some (.val (I j0)))]) ?_ (a + 1) _ ⟨⟨hg0, Nat.le_refl _⟩, by simp⟩
  rintro s e ⟨⟨g, gs⟩, rfl⟩
  obtain ⟨hY, hal, hj1, hj2, hj3⟩ := g.facts hb hab2
  have hSY := hS.pi g.pi
  by_cases hij : s ≤ j0
  · have hij' : (s : Int) ≤ j0 := by omega
    have hil : s < (Y0).length := by omega
    have e1 := gt_at hil
    have e2 := gt_at hal
    have hc := h314 (gt Y0 s) (gt Y0 a) (hSY.2 _)
    simp [hij, hil, hal, e1, e2]
    repeat (refine And.intro (by omega) ?_)
    refine callR hc rfl rfl (fun _ => rfl) ?_
    by_cases hbf : bef (gt Y0 s) (gt Y0 a)
    · have hb' : cmpL (gt Y0 s) (gt Y0 a) < 0 := hbf
      simp [hb']
      exact ⟨by omega, s + 1, by omega, ⟨g.left hij hbf, by omega⟩, by simp⟩
    · have hb' : ¬ cmpL (gt Y0 s) (gt Y0 a) < 0 := hbf
      simp [hb']
      exact hk1 s g gs (.inr hbf)
  · simp [hij, undefV]
    exact hk1 s g gs (.inl (by omega))
end Go.Mch
