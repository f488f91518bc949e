/- Our texts YfA YgA YfC YfD YfE YfB YfF YfG YfH YfI YfJ YfK YfL YfM YfN YfO YfP YfX YfY YfQ YfR YfV YfZ YfW YgB YgC YgE YgQ YgF YgG YgH YfS YfT YgI YgV YgJ YgL YgW YgX YkS YkT YkU YiZ, end to end. -/
import Derived.Test.YtflabnhdfdlplaaYeA
import Derived.Test.YtflabnhdfdlplaaM3
import Derived.ProofKit
import Derived.OpenShut
import Derived.JoinedCond
import Derived.WideKeyArgs
import Derived.Test.YtflabnhdfdlplaaYeB
import Derived.Test.YtflabnhdfdlplaaM1
import Derived.Test.YtflabnhdfdlplaaYeC
import Derived.Test.YtflabnhdfdlplaaYeE
import Derived.Test.YtflabnhdfdlplaaYeF
/- Lists of numbers and of lists as trees; what the laws read and make. -/
namespace Go.Mch

abbrev nil : T := .sc (.slice none 0 0)

/-- What a slice of the caller's is: nil, an empty one without cells, or one with cells. -/
inductive Rw (α : Type) where
  | no
  | odd (a : Addr)
  | of (l : List α)

def lst {α : Type} : Rw α → List α
  | .of l => l
  | _ => []
def lso {α : Type} (o : Option (List α)) : List α := o.getD []
def Rw.ofO {α : Type} : Option (List α) → Rw α
  | none => .no
  | some l => .of l

/-- A slice of the caller's. -/
def rawI : Rw Int → T
  | .no => nil
  | .odd a => .sc (.slice (some a) 0 0)
  | .of xs => .mem .old (some 1) (xs.map I)

@[simp] theorem lst_of {α : Type} (l : List α) : lst (.of l) = l := rfl
@[simp] theorem lst_no {α : Type} : lst (.no : Rw α) = [] := rfl
@[simp] theorem lst_odd {α : Type} (a : Addr) : lst (.odd a : Rw α) = [] := rfl
@[simp] theorem lso_some {α : Type} (l : List α) : lso (some l) = l := rfl
@[simp] theorem lso_none {α : Type} : lso (none : Option (List α)) = [] := rfl
@[simp] theorem lst_ofO {α : Type} (o : Option (List α)) : lst (Rw.ofO o) = lso o := by cases o <;> rfl

@[simp] theorem noOwnL_mapI (xs : List Int) : T.noOwnL (xs.map I) = true := by
  induction xs with
  | nil => rfl
  | cons x xs ih => simp [ih]
@[simp] theorem eryL_mapI (k : K) (xs : List Int) : T.eryL k (xs.map I) = xs.map I := by
  induction xs with
  | nil => rfl
  | cons x xs ih => simp [ih]
@[simp] theorem noOldL_mapI (xs : List Int) : T.noOldL (xs.map I) = true := by
  induction xs with
  | nil => rfl
  | cons x xs ih => simp [ih]
@[simp] theorem lendL_mapI (xs : List Int) : T.lendL (xs.map I) = xs.map I := by
  induction xs with
  | nil => rfl
  | cons x xs ih => simp [ih]
@[simp] theorem rawI_noOwn (a : Rw Int) : (rawI a).noOwn = true := by cases a <;> simp [rawI]
@[simp] theorem rawI_peek (a : Rw Int) (n : Nat) (p : List Nat) : (rawI a).peek n p = .val (rawI a) := by cases a <;> rfl
@[simp] theorem rawI_ery (a : Rw Int) : (rawI a).ery .old = rawI a := by cases a <;> simp [rawI]
@[simp] theorem rawI_len (a : Rw Int) : lenV (.val (rawI a)) = some (lst a).length := by cases a <;> simp [rawI]
@[simp] theorem rawI_idx (a : Rw Int) (i : Int) : idxV 1 (.val (rawI a)) i = if 0 ≤ i ∧ i < ((lst a).length : Int) then some (.val (.mem .old none (win ((lst a).map I) (i.toNat * 1) 1))) else none := by
  cases a with
  | no =>
    simp only [rawI, idxV, lst_no, List.length_nil, List.map_nil]
    rw [if_neg]
    omega
  | odd ad =>
    simp only [rawI, idxV, lst_odd, List.length_nil, List.map_nil]
    rw [if_neg]
    omega
  | of xs => simp [rawI]
/-- A slice of slices of the caller's. -/
def rawT : Rw (Rw Int) → T
  | .no => nil
  | .odd a => .sc (.slice (some a) 0 0)
  | .of rs => .mem .old (some 1) (rs.map rawI)
@[simp] theorem noOwnL_mapR (rs : List (Rw Int)) : T.noOwnL (rs.map rawI) = true := by
  induction rs with
  | nil => rfl
  | cons x xs ih => simp [ih]
@[simp] theorem eryL_mapR (rs : List (Rw Int)) : T.eryL .old (rs.map rawI) = rs.map rawI := by
  induction rs with
  | nil => rfl
  | cons x xs ih => simp [ih]
@[simp] theorem rawT_noOwn (a : Rw (Rw Int)) : (rawT a).noOwn = true := by cases a <;> simp [rawT]
@[simp] theorem rawT_peek (a : Rw (Rw Int)) (n : Nat) (p : List Nat) : (rawT a).peek n p = .val (rawT a) := by cases a <;> rfl
@[simp] theorem rawT_ery (a : Rw (Rw Int)) : (rawT a).ery .old = rawT a := by cases a <;> simp [rawT]
@[simp] theorem rawT_len (a : Rw (Rw Int)) : lenV (.val (rawT a)) = some (lst a).length := by cases a <;> simp [rawT]
@[simp] theorem rawT_idx (a : Rw (Rw Int)) (i : Int) : idxV 1 (.val (rawT a)) i = if 0 ≤ i ∧ i < ((lst a).length : Int) then some (.val (.mem .old none (win ((lst a).map rawI) (i.toNat * 1) 1))) else none := by
  cases a with
  | no =>
    simp only [rawT, idxV, lst_no, List.length_nil, List.map_nil]
    rw [if_neg]
    omega
  | odd ad =>
    simp only [rawT, idxV, lst_odd, List.length_nil, List.map_nil]
    rw [if_neg]
    omega
  | of xs => simp [rawT]
@[simp] theorem rawT_cells (a : Rw (Rw Int)) : (rawT a).cells = [rawT a] := by cases a <;> rfl
@[simp] theorem rawT_isCell (a : Rw (Rw Int)) : (rawT a).isCell = true := by cases a <;> rfl
@[simp] theorem rawI_isCell (a : Rw Int) : (rawI a).isCell = true := by cases a <;> rfl

/-- A call all of whose arguments are read only. -/
theorem callR {G : Rl} {d : Option Nat} {k : Env → Prop} {e : Env} {args : List (Opd × Mode)} {id : Nat} {caps ts : List T} {r : T} (hc : G id (ts ++ T.eryL .old caps) (ts ++ T.eryL .old caps) r) (hall : args.all (fun x => x.2 == .r) = true) (hlen : args.length = ts.length)
    (hold : e.lends args = true → r.noOld = true) (hk : k (e.setD d (.val r))) : callP G d k e args id caps ts := by
  refine ⟨ts, r, hc, rfl, fun h => ⟨hold h, hall⟩, ?_⟩
  have : ∀ (xs : List (Opd × Mode)) (us : List T), xs.all (fun x => x.2 == .r) = true → xs.length = us.length → e.back xs us = some e := by
    intro xs
    induction xs with
    | nil => intro us _ h; cases us with | nil => rfl | cons => simp at h
    | cons x xs ih =>
      intro us h h2
      obtain ⟨x, md⟩ := x
      simp only [List.all_cons, Bool.and_eq_true, beq_iff_eq] at h
      obtain ⟨rfl, h⟩ := h
      cases us with
      | nil => simp at h2
      | cons u us => simp only [Env.back]; exact ih us (by simpa using h) (by simpa using h2)
  rw [this args ts hall hlen]
  exact ⟨e, rfl, hk⟩

theorem set_fill {α : Type} {xs : List α} {z : α} {k : Nat} (hk : k < xs.length) :
    (List.take k xs ++ List.replicate (xs.length - k) z).set k xs[k] = List.take (k + 1) xs ++ List.replicate (xs.length - (k + 1)) z := by
  rw [List.set_append_right _ _ (by simp; omega)]
  have h1 : (List.take k xs).length = k := by simp; omega
  rw [h1, Nat.sub_self, show xs.length - k = (xs.length - (k + 1)) + 1 from by omega, List.replicate_succ, List.set_cons_zero]
  rw [List.take_succ_eq_append_getElem hk, List.append_assoc]
  rfl

theorem take_len {α : Type} (l : List α) {n : Nat} (h : l.length ≤ n) : l.take n = l := List.take_of_length_le h
@[simp] theorem take_map_len {α β : Type} (l : List α) (f : α → β) : List.take l.length (l.map f) = l.map f := List.take_of_length_le (by simp)

theorem callM {G : Rl} {d : Option Nat} {k : Env → Prop} {e : Env} {gs : List Bool} {ks : List Nat} {id : Nat} {caps : List T} {vs : List V} {y : List T × Env} {ts' : List T} {r : T} (hh : y.2.holes vs gs = true) (hc : G id (T.lendL y.1 ++ T.eryL .old caps) (ts' ++ T.eryL .old caps) r)
    (hl : ts'.length = y.1.length) (hk : bindP (y.2.gives vs gs ts') fun e2 => bindP (e.revive y.2 e2 vs gs ks) fun e3 => k (e3.setD d (.val r))) : callmP G d k e gs ks id caps vs y := ⟨hh, ts', r, hc, hl, hk⟩

/-! ### Copies -/

def S_toI (pg : Pg) : Prop := ∀ a : Rw Int, (lst a).length ≤ 1048576 → Call pg 7 [rawI a] [rawI a] (ints .own (lst a))
theorem t_toI {pg : Pg} (hp : pg.fn 7 = some c_laws_toInt64S) : S_toI pg := by
  intro a hl
  refine Call.intro hp rfl (by simp) ?_
  show wp _ _ c_laws_toInt64S.body (post [.t 2] _ _ _) _
  simp [c_laws_toInt64S, ints]
  refine ⟨by unfold roomy; omega, ?_⟩
  refine wpLoop_count (fun k e => e = fr [(0, some (.val (rawI a))), (3, some (.val (.mem .own (some 1) ((lst a).map I |>.take k |>.append (List.replicate ((lst a).length - k) (I 0)))))), (4, some (.val (I k)))]) (lst a).length ?_ ?_ 0 _ (by omega) ?_
  · rintro k e hk rfl
    simp [hk]
    refine ⟨by omega, by omega, by omega, ?_⟩
    have := set_fill (xs := (lst a).map I) (z := I 0) (k := k) (by simpa using hk)
    simp at this
    rw [this]
  · rintro e rfl
    simp [take_len]
  · simp

theorem S_toI.at {pg : Pg} (h : S_toI pg) (a : Rw Int) (hl : (lst a).length ≤ 1048576) : Call pg 7 [rawI a] [rawI a] (.mem .own (some 1) ((lst a).map I)) := h a hl

/-- A table of the frame's own. -/
def rows (xss : List (List Int)) : List T := xss.map fun xs => .mem .own (some 1) (xs.map I)
@[simp] theorem rows_length (xss : List (List Int)) : (rows xss).length = xss.length := by simp [rows]

@[simp] theorem noOldL_rows (xss : List (List Int)) : T.noOldL (rows xss) = true := by
  induction xss with
  | nil => rfl
  | cons x xs ih => simp only [rows, List.map_cons] at ih ⊢; simp [ih]
@[simp] theorem lendL_rows (xss : List (List Int)) : T.lendL (rows xss) = rows xss := by
  induction xss with
  | nil => rfl
  | cons x xs ih => simp only [rows, List.map_cons] at ih ⊢; simp [ih]
/-- A slice that is only read. -/
abbrev ix (xs : List Int) : T := .mem .old (some 1) (xs.map I)
/-- The rows of a table that is only read. -/
def tbL (xss : List (List Int)) : List T := xss.map fun xs => ix xs
/-- A table that is only read. -/
abbrev tb (xss : List (List Int)) : T := .mem .old (some 1) (tbL xss)
@[simp] theorem tbL_length (xss : List (List Int)) : (tbL xss).length = xss.length := by simp [tbL]
@[simp] theorem noOwnL_tbL (xss : List (List Int)) : T.noOwnL (tbL xss) = true := by
  induction xss with
  | nil => rfl
  | cons x xs ih => simp only [tbL, List.map_cons] at ih ⊢; simp [ih]
@[simp] theorem eryL_tbL (xss : List (List Int)) : T.eryL .old (tbL xss) = tbL xss := by
  induction xss with
  | nil => rfl
  | cons x xs ih => simp only [tbL, List.map_cons] at ih ⊢; simp [ih]
@[simp] theorem eryL_rows (xss : List (List Int)) : T.eryL .old (rows xss) = tbL xss := by
  induction xss with
  | nil => rfl
  | cons x xs ih => simp only [rows, tbL, List.map_cons] at ih ⊢; simp [ih]
theorem rawT_tb (xss : List (List Int)) : rawT (.of (xss.map .of)) = tb xss := by simp [rawT, tbL, rawI]
theorem rows_get (xss : List (List Int)) (j : Nat) : (rows xss)[j]? = (xss[j]?).map fun xs => .mem .own (some 1) (xs.map I) := by simp [rows]
@[simp] theorem rows_getElem (xss : List (List Int)) (j : Nat) (h : j < (rows xss).length) : (rows xss)[j] = .mem .own (some 1) ((xss[j]'(by simpa using h)).map I) := by simp [rows]

def small (a : Rw (Rw Int)) : Prop := (lst a).length ≤ 1048576 ∧ ∀ r ∈ lst a, (lst r).length ≤ 1048576

def S_toT (pg : Pg) : Prop := ∀ a, small a → Call pg 32 [rawT a] [rawT a] (.mem .own (some 1) (rows ((lst a).map lst)))
theorem t_toT {pg : Pg} (hp : pg.fn 32 = some c_laws_toInt64SS) (h7 : S_toI pg) : S_toT pg := by
  intro a ⟨hl, hr⟩
  refine Call.intro hp rfl (by simp) ?_
  show wp _ _ c_laws_toInt64SS.body (post [.t 2] _ _ _) _
  simp [c_laws_toInt64SS]
  refine ⟨by unfold roomy; omega, ?_⟩
  refine wpLoop_count (fun k e => e = fr [(0, some (.val (rawT a))), (3, some (.val (.mem .own (some 1) ((rows ((lst a).map lst)).take k ++ List.replicate ((lst a).length - k) nil)))), (4, some (.val (I k)))]) (lst a).length ?_ ?_ 0 _ (by omega) ?_
  · rintro k e hk rfl
    simp [hk]
    refine callR (h7.at _ (hr _ (List.getElem_mem hk))) rfl rfl (fun _ => by simp) ?_
    simp
    refine ⟨by omega, by omega, by omega, ?_⟩
    have := set_fill (xs := rows ((lst a).map lst)) (z := nil) (k := k) (by simpa using hk)
    simp [rows] at this
    simp [rows, this]
  · rintro e rfl
    simp [take_len]
  · simp


def S_toSol (pg : Pg) : Prop := ∀ a b, small a → small b → Call pg 16 [.agg [rawT a, rawT b]] [.agg [rawT a, rawT b]] (.agg [.mem .own (some 1) (rows ((lst a).map lst)), .mem .own (some 1) (rows ((lst b).map lst))])
theorem t_toSol {pg : Pg} (hp : pg.fn 16 = some c_laws_toSolution) (h32 : S_toT pg) : S_toSol pg := by
  intro a b ha hb
  refine Call.intro hp rfl (by simp) ?_
  show wp _ _ c_laws_toSolution.body (post [.cell 2 (some 2)] _ _ _) _
  simp [c_laws_toSolution]
  refine callR (h32 _ ha) rfl rfl (fun _ => by simp) ?_
  simp
  refine callR (h32 _ hb) rfl rfl (fun _ => by simp) ?_
  simp

/-! ### Sizes -/

def sz1 (r : Rw Int) (l : Int) : Int := if l - ((lst r).length : Int) < 0 then -1 else l - ((lst r).length : Int)
def szL : List (Rw Int) → Int → Int
  | [], l => l
  | r :: rs, l => if sz1 r l < 0 then -1 else szL rs (sz1 r l)
def szT (a : Rw (Rw Int)) (l : Int) : Int := if l - ((lst a).length : Int) < 0 then -1 else szL (lst a) (l - ((lst a).length : Int))
theorem sz1_le {r : Rw Int} {l : Int} (h : -1 ≤ l) : -1 ≤ sz1 r l ∧ sz1 r l ≤ max l 0 := by
  unfold sz1; split <;> omega
theorem szL_le : ∀ (rs : List (Rw Int)) {l : Int}, -1 ≤ l → -1 ≤ szL rs l ∧ szL rs l ≤ max l 0
  | [], l, h => by unfold szL; omega
  | r :: rs, l, h => by
    have h1 := sz1_le (r := r) h
    unfold szL
    split
    · omega
    · have := szL_le rs (l := sz1 r l) h1.1
      omega
theorem szT_le {a : Rw (Rw Int)} {l : Int} (h : -1 ≤ l) : -1 ≤ szT a l ∧ szT a l ≤ max l 0 := by
  unfold szT
  split
  · omega
  · have := szL_le (lst a) (l := l - ((lst a).length : Int)) (by omega)
    omega

def S_szI (pg : Pg) : Prop := ∀ (a : Rw Int) (l : Int), (lst a).length ≤ 1048576 → -1 ≤ l → l ≤ 1048576 → Call pg 45 [rawI a, I l] [rawI a, I l] (I (sz1 a l))
theorem t_szI {pg : Pg} (hp : pg.fn 45 = some c_laws_szInt64S) : S_szI pg := by
  intro a l ha h1 h2
  refine Call.intro hp rfl (by simp) ?_
  show wp _ _ c_laws_szInt64S.body (post [.t 4] _ _ _) _
  by_cases hlt : l - ((lst a).length : Int) < 0
  · simp [c_laws_szInt64S, hlt, sz1]
    omega
  · simp [c_laws_szInt64S, hlt, sz1]
    omega

def S_szT (pg : Pg) : Prop := ∀ (a : Rw (Rw Int)) (l : Int), small a → -1 ≤ l → l ≤ 1048576 → Call pg 27 [rawT a, I l] [rawT a, I l] (I (szT a l))
theorem t_szT {pg : Pg} (hp : pg.fn 27 = some c_laws_szInt64SS) (h45 : S_szI pg) : S_szT pg := by
  intro a l ⟨ha, hr⟩ h1 h2
  refine Call.intro hp rfl (by simp) ?_
  show wp _ _ c_laws_szInt64SS.body (post [.t 4] _ _ _) _
  by_cases hlt : l - ((lst a).length : Int) < 0
  · simp [c_laws_szInt64SS, hlt, szT]
    omega
  · simp [c_laws_szInt64SS, hlt, szT]
    refine ⟨by omega, ?_⟩
    refine wpLoop_count (fun k e => ∃ l' : Int, -1 ≤ l' ∧ l' ≤ 1048576 ∧ szL ((lst a).drop k) l' = szL (lst a) (l - ((lst a).length : Int)) ∧ e = fr [(0, some (.val (rawT a))), (1, some (.val (I l'))), (5, some (.val (I k)))]) (lst a).length ?_ ?_ 0 _ (by omega) ?_
    · rintro k e hk ⟨l', g1, g2, g3, rfl⟩
      simp [hk]
      have hd : (lst a).drop k = (lst a)[k] :: (lst a).drop (k + 1) := List.drop_eq_getElem_cons hk
      rw [hd] at g3
      simp only [szL] at g3
      have h3 := sz1_le (r := (lst a)[k]) g1
      refine callR (h45 _ _ (hr _ (List.getElem_mem hk)) g1 g2) rfl rfl (fun _ => rfl) ?_
      by_cases hn : sz1 (lst a)[k] l' < 0
      · simp [hn]
        rw [if_pos hn] at g3
        exact g3
      · simp [hn]
        rw [if_neg hn] at g3
        refine ⟨by omega, sz1 (lst a)[k] l', by omega, by omega, g3, ?_⟩
        simp
    · rintro e ⟨l', g1, g2, g3, rfl⟩
      simp
      rw [List.drop_length] at g3
      exact g3
    · exact ⟨_, by omega, by omega, rfl, by simp⟩

def S_szSol (pg : Pg) : Prop := ∀ (a b : Rw (Rw Int)) (l : Int), small a → small b → -1 ≤ l → l ≤ 1048576 → ∃ r, -1 ≤ r ∧ r ≤ 1048576 ∧ Call pg 14 [.agg [rawT a, rawT b], I l] [.agg [rawT a, rawT b], I l] (I r)
theorem t_szSol {pg : Pg} (hp : pg.fn 14 = some c_laws_szSolution) (h27 : S_szT pg) : S_szSol pg := by
  intro a b l ha hb h1 h2
  have h3 := szT_le (a := a) h1
  have h4 := szT_le (a := b) h3.1
  by_cases hn : szT a l < 0
  · refine ⟨-1, by omega, by omega, Call.intro hp rfl (by simp) ?_⟩
    show wp _ _ c_laws_szSolution.body (post [.t 4] _ _ _) _
    simp [c_laws_szSolution]
    refine callR (h27 _ _ ha h1 h2) rfl rfl (fun _ => rfl) ?_
    simp [hn]
  · refine ⟨szT b (szT a l), by omega, by omega, Call.intro hp rfl (by simp) ?_⟩
    show wp _ _ c_laws_szSolution.body (post [.t 4] _ _ _) _
    simp [c_laws_szSolution]
    refine callR (h27 _ _ ha h1 h2) rfl rfl (fun _ => rfl) ?_
    simp [hn]
    refine callR (h27 _ _ hb (by omega) (by omega)) rfl rfl (fun _ => rfl) ?_
    by_cases hn2 : szT b (szT a l) < 0
    · simp [hn2]; omega
    · simp [hn2]

/-! ### Equality -/

def S_eqI (pg : Pg) : Prop := ∀ a b : Rw Int, (lst a).length ≤ 1048576 → Call pg 9 [rawI a, rawI b] [rawI a, rawI b] (B (decide (lst a = lst b)))
theorem t_eqI {pg : Pg} (hp : pg.fn 9 = some c_laws_eqInt64S) : S_eqI pg := by
  intro a b ha
  refine Call.intro hp rfl (by simp) ?_
  show wp _ _ c_laws_eqInt64S.body (post [.t 4] _ _ _) _
  by_cases hl : (lst a).length = (lst b).length
  · simp [c_laws_eqInt64S, hl]
    refine wpLoop_count (fun k e => (∀ i, i < k → (lst a)[i]? = (lst b)[i]?) ∧ e = fr [(0, some (.val (rawI a))), (1, some (.val (rawI b))), (5, some (.val (I k)))]) (lst a).length ?_ ?_ 0 _ (by omega) ?_
    · rintro k e hk ⟨h1, rfl⟩
      have hk2 : k < (lst b).length := by omega
      by_cases hne : (lst a)[k] = (lst b)[k]
      · simp [hk, hk2, hne]
        refine ⟨by omega, fun i hi => ?_⟩
        rcases Nat.lt_or_ge i k with h2 | h2
        · exact h1 i h2
        · have : i = k := by omega
          subst this
          rw [List.getElem?_eq_getElem hk, List.getElem?_eq_getElem hk2, hne]
      · simp [hk, hk2, hne]
        intro h2
        exact hne (by simp [h2])
    · rintro e ⟨h1, rfl⟩
      simp [hl]
      apply List.ext_getElem?
      intro i
      rcases Nat.lt_or_ge i (lst a).length with h2 | h2
      · exact h1 i h2
      · rw [List.getElem?_eq_none h2, List.getElem?_eq_none (by omega)]
    · exact ⟨fun i hi => by omega, by simp⟩
  · have : lst a ≠ lst b := fun h => hl (by rw [h])
    have h2 : ((lst a).length : Int) ≠ (lst b).length := by omega
    simp [c_laws_eqInt64S, h2, this]

def S_eqT (pg : Pg) : Prop := ∀ a b : Rw (Rw Int), small a → Call pg 21 [rawT a, rawT b] [rawT a, rawT b] (B (decide ((lst a).map lst = (lst b).map lst)))
theorem t_eqT {pg : Pg} (hp : pg.fn 21 = some c_laws_eqInt64SS) (h9 : S_eqI pg) : S_eqT pg := by
  intro a b ⟨ha, hr⟩
  refine Call.intro hp rfl (by simp) ?_
  show wp _ _ c_laws_eqInt64SS.body (post [.t 4] _ _ _) _
  by_cases hl : (lst a).length = (lst b).length
  · simp [c_laws_eqInt64SS, hl]
    refine wpLoop_count (fun k e => (∀ i, i < k → ((lst a).map lst)[i]? = ((lst b).map lst)[i]?) ∧ e = fr [(0, some (.val (rawT a))), (1, some (.val (rawT b))), (5, some (.val (I k)))]) (lst a).length ?_ ?_ 0 _ (by omega) ?_
    · rintro k e hk ⟨h1, rfl⟩
      have hk2 : k < (lst b).length := by omega
      simp [hk, hk2]
      refine callR (h9 _ _ (hr _ (List.getElem_mem hk))) rfl rfl (fun _ => rfl) ?_
      by_cases hne : lst (lst a)[k] = lst (lst b)[k]
      · simp [hne]
        refine ⟨by omega, fun i hi => ?_⟩
        rcases Nat.lt_or_ge i k with h2 | h2
        · have := h1 i h2
          simpa using this
        · have : i = k := by omega
          subst this
          simp [hk, hk2, hne]
      · simp [hne]
        intro h2
        have h3 := congrArg (fun l => l[k]?) h2
        simp [hk, hk2] at h3
        exact hne h3
    · rintro e ⟨h1, rfl⟩
      simp [hl]
      apply List.ext_getElem?
      intro i
      rcases Nat.lt_or_ge i (lst a).length with h2 | h2
      · exact h1 i h2
      · rw [List.getElem?_eq_none (by simpa using h2), List.getElem?_eq_none (by simp; omega)]
    · exact ⟨fun i hi => by omega, by simp⟩
  · have : (lst a).map lst ≠ (lst b).map lst := fun h => hl (by have := congrArg List.length h; simpa using this)
    have h2 : ((lst a).length : Int) ≠ (lst b).length := by omega
    simp [c_laws_eqInt64SS, h2, this]

def S_eqRack (pg : Pg) : Prop := ∀ a b : Rw (Rw Int), small a → Call pg 10 [.agg [rawT a], .agg [rawT b]] [.agg [rawT a], .agg [rawT b]] (B (decide ((lst a).map lst = (lst b).map lst)))
def S_eqSol (pg : Pg) : Prop := ∀ a b c d : Rw (Rw Int), small a → small b → Call pg 18 [.agg [rawT a, rawT b], .agg [rawT c, rawT d]] [.agg [rawT a, rawT b], .agg [rawT c, rawT d]] (B (decide ((lst a).map lst = (lst c).map lst ∧ (lst b).map lst = (lst d).map lst)))
theorem t_eqSol {pg : Pg} (hp : pg.fn 18 = some c_laws_eqSolution) (h21 : S_eqT pg) : S_eqSol pg := by
  intro a b c d ha hb
  refine Call.intro hp rfl (by simp) ?_
  show wp _ _ c_laws_eqSolution.body (post [.t 4] _ _ _) _
  simp [c_laws_eqSolution]
  refine callR (h21 _ _ ha) rfl rfl (fun _ => rfl) ?_
  by_cases h : (lst a).map lst = (lst c).map lst
  · simp [h]
    refine callR (h21 _ _ hb) rfl rfl (fun _ => rfl) ?_
    by_cases h2 : (lst b).map lst = (lst d).map lst <;> simp [h2]
  · simp [h]

end Go.Mch
/- From a statement's arguments to trees, and from a call that the machine makes good to what a statement asks. -/
namespace Go.Mch

/-- What is let of the caller's memory: all of it is the caller's. -/
abbrev okCl : K → Nat → Prop := fun k _ => k = .old

theorem repL_of {fm : Nat → Nat} {ok : K → Nat → Prop} {w : World} {g : Nat → Value} : ∀ (ts : List T) (i : Nat), (∀ j (h : j < ts.length), rep fm ok w (g (i + j)) ts[j]) → repL fm ok w g i ts
  | [], _, _ => trivial
  | t :: ts, i, h => ⟨h 0 (by simp), repL_of ts (i + 1) fun j hj => by
      have := h (j + 1) (by simpa using hj)
      simpa [show i + 1 + j = i + (j + 1) from by omega] using this⟩

/-- A call with the caller's arguments. -/
theorem run_true {P : Program} {fm : Nat → Nat} {f : Nat} {args args' : List T} (h : Pact P fm f args args' (B true)) (hno : T.noOwnL args = true) {w : World} {vs : Array Value} (hs : vs.size = args.length)
    (hrep : ∀ s t, args[s]? = some t → rep fm okCl w (vs.getD s undef) t) :
    Calls P (fm f) vs w fun e w' => e = .returned (.bool true) ∧ Keeps (fun _ => False) w w' := by
  have hA : ∀ b, (fun _ => False : Nat → Prop) b → b < w.heap.size := fun _ h => h.elim
  have hc : ∀ s t, init args s = some (.val t) → ∀ b, cnt w (vs.getD s undef) b t = 0 := by
    intro s t ht b
    obtain ⟨u, h1, h2⟩ := init_some ht
    cases h2
    exact cnt_noOwn _ _ _ _ (noOwnL_get hno h1)
  have hR : R (cx0 fm w (fun _ => False) (fun _ => False) hA) (init args) (fun s => vs.getD s undef) w := by
    refine ⟨Keeps.refl _ _, ⟨fun _ => 0, fun s t ht b => ?_⟩, fun s x hx => ?_⟩
    · rw [hc s t ht b]; simp
    · obtain ⟨t, h1, rfl⟩ := init_some hx
      refine .inl ⟨t, rfl, rep_ok (fun k b _ _ hk => ?_) t _ (fun b hb _ _ => ?_) (hrep s t h1)⟩
      · cases hk
        refine ⟨id, by simp, by simp, fun _ => ⟨?_, id⟩⟩
        rintro ⟨s', t', h3, h4⟩
        rw [hc s' t' h3 b] at h4
        omega
      · have h5 := hc s t hx b
        omega
  refine (h.2 w vs _ _ hA hs (fun _ _ hm => hm) hR).mono fun e w' hb => ?_
  cases e with
  | returned v =>
    obtain ⟨q, e', vl', _, h2, _, h4, _⟩ := hb
    refine ⟨?_, h2.keeps⟩
    have h5 := h2.rep q (.val (B true)) (by simp [Env.add])
    rcases h5 with ⟨t, h6, h7⟩ | h7
    · cases h6
      simp only [rep] at h7
      rw [← h4, h7.1]
    · simp only [arep, rep] at h7
      rw [← h4, h7.2.1]
  | _ => exact hb.elim

theorem Keeps.but {w w' : World} (h : Keeps (fun _ => False) w w') (may : MemPlace → Prop) : w.keptBut w' may := by
  refine ⟨h.os, h.output, fun i hi => ?_⟩
  rw [h.block i hi id]
  exact (World.keptBut_refl w may).2.2 i hi

theorem Keeps.at {w w' : World} (h : Keeps (fun _ => False) w w') {p : MemPlace} (hp : p.block < w.heap.size) : w.sameAt w' p := by
  cases p with
  | cell b off => exact World.cell?_of_block (a := ⟨b, off, none⟩) (h.block b hp id)
  | map b => exact h.block b hp id

/-! ### What is read is a tree -/

section
variable {H : Type} {enc : TypeId × Value → H} {P : Program} {w : World} {base : Nat} {sp : Nat → Bool} {held : Bool} {fm : Nat → Nat}

theorem each {α : Type} {Q : Nat → α → Prop} : ∀ (n : Nat), (∀ i, i < n → ∃ z, Q i z) → ∃ zs : List α, zs.length = n ∧ ∀ i (h : i < zs.length), Q i zs[i]
  | 0, _ => ⟨[], rfl, fun i h => by simp at h⟩
  | n + 1, h => by
    obtain ⟨zs, h1, h2⟩ := each n fun i hi => h i (by omega)
    obtain ⟨z, hz⟩ := h n (by omega)
    refine ⟨zs ++ [z], by simp [h1], fun i hi => ?_⟩
    rcases Nat.lt_or_ge i zs.length with hl | hl
    · rw [List.getElem_append_left hl]; exact h2 i hl
    · have : i = n := by simp at hi; omega
      subst this
      rw [List.getElem_append_right hl]
      simp [h1, hz]

/-- A slice, as it is read. -/
theorem open_raw {t e : TypeId} {fuel : Nat} {cs : List Value} {x : DataW H × List MemPlace} (ht : P.underlying t = some (.slice e)) (hc : P.cellsOf e = 1)
    (h : DataW.trod enc P w base (fun _ => true) held fuel t cs = some x) :
    (cs = [.slice none 0 0] ∧ x.1 = .nil) ∨ (∃ a, cs = [.slice (some a) 0 0] ∧ x.1 = .slice [] []) ∨
    ∃ b off len cap ds rest n, cs = [.slice (some ⟨b, off, none⟩) len cap] ∧ len ≤ cap ∧ x.1 = .slice ds rest ∧ ds.length = len ∧
      ∀ i, i < len → ∃ c y, w.cell? ⟨b, off + i, none⟩ = some c ∧ DataW.trod enc P w base (fun _ => true) held n e [c] = some y ∧ ds[i]? = some y.1 := by
  rcases DataW.trod_slice ht h with ⟨h1, rfl⟩ | ⟨a, len, cap, elems, rest, n, _, rfl, rfl, hb, hl, _, hlen, hel, hsp, _⟩
  · exact .inl ⟨h1, rfl⟩
  right
  obtain ⟨hr1, hr2⟩ := hsp rfl
  have cell : ∀ a' y, (w.cells? base a' (P.cellsOf e)).bind (DataW.trod enc P w base (fun _ => true) held n e) = some y → ∃ c, w.cell? a' = some c ∧ DataW.trod enc P w base (fun _ => true) held n e [c] = some y := by
    intro a' y hy
    rw [hc, Option.bind_eq_some_iff] at hy
    obtain ⟨c1, h1, h2⟩ := hy
    have h3 := (World.cells?_some h1).2.1
    match c1, h3 with
    | [c], _ => exact ⟨c, Go.ChangeShapes.cell_of_cells?_one h1, h2⟩
  by_cases hz : cap = 0
  · subst hz
    have h0 : len = 0 := by omega
    subst h0
    have h1 : elems = [] := List.eq_nil_of_length_eq_zero hlen
    have h2 : rest = [] := List.eq_nil_of_length_eq_zero (by simpa using hr1)
    subst h1 h2
    exact .inl ⟨a, rfl, rfl⟩
  right
  have hspot : a.spot = none := by
    by_cases h0 : 0 < len
    · have h1 : 0 < elems.length := by omega
      have := hel 0 h0
      rw [List.getElem?_eq_getElem h1] at this
      obtain ⟨c, hc1, _⟩ := cell _ _ this
      simp only [Nat.zero_mul] at hc1
      have := World.cell?_spot hc1
      simpa [Addr.add] using this
    · have h1 : 0 < rest.length := by omega
      have := hr2 0 (by omega)
      rw [List.getElem?_eq_getElem h1] at this
      obtain ⟨c, hc1, _⟩ := cell _ _ this
      have h2 := World.cell?_spot hc1
      simpa [Addr.add, show len = 0 from by omega] using h2
  obtain ⟨b, off, spot⟩ := a
  simp only at hspot
  subst hspot
  refine ⟨b, off, len, cap, elems.map (·.1), rest.map (·.1), n, rfl, hl, rfl, by simpa using hlen, fun i hi => ?_⟩
  have h1 : i < elems.length := by omega
  have h2 := hel i hi
  rw [List.getElem?_eq_getElem h1] at h2
  obtain ⟨c, h3, h4⟩ := cell _ _ h2
  refine ⟨c, elems[i], ?_, h4, by simp [h1]⟩
  rw [hc, Nat.mul_one] at h3
  rw [← Go.WideShapes.add_plain]; exact h3

theorem rep_slice {b off len cap : Nat} {us : List T} (hlen : us.length = len) (hl : len ≤ cap) (hno : T.noOwnL us = true) (h : ∀ i (hi : i < us.length), ∃ c, w.cell? ⟨b, off + i, none⟩ = some c ∧ rep fm okCl w c us[i]) :
    rep fm okCl w (.slice (some ⟨b, off, none⟩) len cap) (.mem .old (some 1) us) := by
  rw [rep_mem]
  refine ⟨⟨⟨len, rfl, by simp [hlen], by simp, hl⟩, fun i hi => ?_⟩, fun _ => rfl, by simp, fun _ => hno, ?_⟩
  · obtain ⟨c, hc, _⟩ := h i hi
    simp only [blk, ofs]
    rw [hc]; rfl
  · refine repL_of us 0 fun j hj => ?_
    obtain ⟨c, hc, hr⟩ := h j hj
    simp only [kid, Nat.zero_add]
    rw [hc]
    exact hr

/-- How much a datum holds. -/
structure Bulk (m : DataW H → Nat) : Prop where
  slice : ∀ es rest, es.length ≤ m (.slice es rest)
  elem : ∀ es rest d, d ∈ es → m d ≤ m (.slice es rest)
  part : ∀ ps d, d ∈ ps → m d ≤ m (.agg ps)

theorem open_rawI {m : DataW H → Nat} (hm : Bulk m) {t e : TypeId} {fuel : Nat} {cs : List Value} {x : DataW H × List MemPlace} (ht : P.underlying t = some (.slice e)) (he : P.underlying e = some (.int .i64)) (hc : P.cellsOf e = 1)
    (h : DataW.trod enc P w base (fun _ => true) held fuel t cs = some x) : ∃ v o, cs = [v] ∧ rep fm okCl w v (rawI o) ∧ (lst o).length ≤ m x.1 ∧ ∀ n ∈ lst o, (Lit.int .i64 n).wf = true := by
  rcases open_raw ht hc h with ⟨rfl, hx⟩ | ⟨a, rfl, hx⟩ | ⟨b, off, len, cap, ds, rest, n, rfl, hl, hx, hlen, hel⟩
  · exact ⟨_, .no, rfl, ⟨rfl, rfl⟩, by simp, by simp⟩
  · exact ⟨_, .odd a, rfl, ⟨rfl, rfl⟩, by simp, by simp⟩
  · obtain ⟨zs, h1, h2⟩ := each (Q := fun i (z : Int) => w.cell? ⟨b, off + i, none⟩ = some (.int .i64 z) ∧ (Lit.int .i64 z).wf = true) len (fun i hi => by
      obtain ⟨c, y, h3, h4, _⟩ := hel i hi
      obtain ⟨z, h5, _, h6⟩ := DataW.trod_int he h4
      simp only [List.cons.injEq, and_true] at h5
      exact ⟨z, by rw [h3, h5], h6⟩)
    refine ⟨_, .of zs, rfl, rep_slice (by simp [h1]) hl (by simp) (fun i hi => ?_), ?_, fun n hn => ?_⟩
    · have hi' : i < zs.length := by simpa using hi
      exact ⟨_, (h2 i hi').1, by simp [rep, scal]⟩
    · rw [hx]
      exact Nat.le_trans (by simp [h1, hlen]) (hm.slice ds rest)
    · obtain ⟨i, hi, rfl⟩ := List.getElem_of_mem hn
      exact (h2 i hi).2

theorem open_rawT {m : DataW H → Nat} (hm : Bulk m) {t r e : TypeId} {fuel : Nat} {cs : List Value} {x : DataW H × List MemPlace} (ht : P.underlying t = some (.slice r)) (hr : P.underlying r = some (.slice e)) (he : P.underlying e = some (.int .i64)) (hcr : P.cellsOf r = 1) (hc : P.cellsOf e = 1)
    (h : DataW.trod enc P w base (fun _ => true) held fuel t cs = some x) : ∃ v o, cs = [v] ∧ rep fm okCl w v (rawT o) ∧ (lst o).length ≤ m x.1 ∧ ∀ q ∈ lst o, (lst q).length ≤ m x.1 ∧ ∀ n ∈ lst q, (Lit.int .i64 n).wf = true := by
  rcases open_raw ht hcr h with ⟨rfl, hx⟩ | ⟨a, rfl, hx⟩ | ⟨b, off, len, cap, ds, rest, n, rfl, hl, hx, hlen, hel⟩
  · exact ⟨_, .no, rfl, ⟨rfl, rfl⟩, by simp, by simp⟩
  · exact ⟨_, .odd a, rfl, ⟨rfl, rfl⟩, by simp, by simp⟩
  · obtain ⟨zs, h1, h2⟩ := each (Q := fun i (z : Rw Int) => ∃ c, w.cell? ⟨b, off + i, none⟩ = some c ∧ rep fm okCl w c (rawI z) ∧ (lst z).length ≤ m x.1 ∧ ∀ n ∈ lst z, (Lit.int .i64 n).wf = true) len (fun i hi => by
      obtain ⟨c, y, h3, h4, h5⟩ := hel i hi
      obtain ⟨v, o, h6, h7, h8, h9⟩ := open_rawI (fm := fm) hm hr he hc h4
      simp only [List.cons.injEq, and_true] at h6
      refine ⟨o, c, h3, h6 ▸ h7, Nat.le_trans h8 ?_, h9⟩
      rw [hx]
      exact hm.elem ds rest _ (List.mem_of_getElem? h5))
    refine ⟨_, .of zs, rfl, rep_slice (by simp [h1]) hl (by simp) (fun i hi => ?_), ?_, fun n hn => ?_⟩
    · have hi' : i < zs.length := by simpa using hi
      obtain ⟨c, h3, h4, _⟩ := h2 i hi'
      exact ⟨c, h3, by simpa using h4⟩
    · rw [hx]
      exact Nat.le_trans (by simp [h1, hlen]) (hm.slice ds rest)
    · obtain ⟨i, hi, rfl⟩ := List.getElem_of_mem hn
      obtain ⟨c, _, _, h3⟩ := h2 i hi
      exact h3

/-- A structure of two tables. -/
theorem open_sol {m : DataW H → Nat} (hm : Bulk m) {rc : Reach} {b0 : Nat} {t r e : TypeId} {f0 f1 : Field} {v : Value} {d : DataW H} {ps : List MemPlace} (ht : P.underlying t = some (.struct #[f0, f1])) (h0 : P.underlying f0.type = some (.slice r)) (h1 : P.underlying f1.type = some (.slice r)) (hr : P.underlying r = some (.slice e)) (he : P.underlying e = some (.int .i64))
    (hn : P.cellsOf t = 2) (hn0 : P.cellsOf f0.type = 1) (hn1 : P.cellsOf f1.type = 1) (hcr : P.cellsOf r = 1) (hc : P.cellsOf e = 1) (hof : f0.offset = 0) (hof1 : f1.offset = 1)
    (hval : Value.okWide P w rc b0 t v) (h : DataW.Trod enc P w base (fun _ => true) held t v d ps) :
    ∃ a b, rep fm okCl w v (.agg [rawT a, rawT b]) ∧ ((lst a).length ≤ m d ∧ ∀ q ∈ lst a, (lst q).length ≤ m d ∧ ∀ n ∈ lst q, (Lit.int .i64 n).wf = true) ∧ ((lst b).length ≤ m d ∧ ∀ q ∈ lst b, (lst q).length ≤ m d ∧ ∀ n ∈ lst q, (Lit.int .i64 n).wf = true) := by
  obtain ⟨cs, rfl, hs⟩ := Go.WideShapes.okWide_struct ht hval
  obtain ⟨fuel, h⟩ := h
  obtain ⟨y0, y1, n, hx, hl, g0, g1⟩ := Go.ChangeShapes.trod_struct2 ht h
  simp only [Prod.mk.injEq] at hx
  obtain ⟨rfl, rfl⟩ := hx
  rw [hn] at hs
  obtain ⟨c0, c1, rfl⟩ : ∃ c0 c1, cs = #[c0, c1] := by
    match cs, hs with
    | ⟨[c0, c1]⟩, _ => exact ⟨c0, c1, rfl⟩
  simp only [Value.cells, hof, hn0, List.drop_zero, List.take_succ_cons, List.take_zero] at g0
  simp only [Value.cells, hof1, hn1, List.drop_succ_cons, List.drop_zero, List.take_succ_cons, List.take_zero] at g1
  obtain ⟨v0, a, e1, e2, e3, e4⟩ := open_rawT (fm := fm) hm h0 hr he hcr hc g0
  obtain ⟨v1, b, i1, i2, i3, i4⟩ := open_rawT (fm := fm) hm h1 hr he hcr hc g1
  simp only [List.cons.injEq, and_true] at e1 i1
  subst e1 i1
  have hp : m y0.1 ≤ m (.agg [y0.1, y1.1]) := hm.part _ _ (by simp)
  have hp1 : m y1.1 ≤ m (.agg [y0.1, y1.1]) := hm.part _ _ (by simp)
  exact ⟨a, b, ⟨⟨_, rfl, rfl⟩, by simpa [kid] using e2, by simpa [kid] using i2, trivial⟩, ⟨by omega, fun q hq => ⟨Nat.le_trans (e4 q hq).1 hp, (e4 q hq).2⟩⟩, ⟨by omega, fun q hq => ⟨Nat.le_trans (i4 q hq).1 hp1, (i4 q hq).2⟩⟩⟩

/-! ### What a statement asks -/

theorem all_stays {W W' : World} {sp' : Nat → Bool} (hl : laidOutB P = true) : ∀ {ts : List TypeId} {vs : List Value} {ds : List (DataW H)} {ps : List MemPlace}, (∀ t ∈ ts, P.readableRec t = true ∧ t < P.types.size) →
    DataW.TrodAll enc P W 0 (fun _ => true) true ts vs ds ps → (∀ p ∈ ps, W.sameAt W' p) → (∀ p ∈ ps, sp' p.block = true) → DataW.TrodAll enc P W' 0 sp' true ts vs ds ps
  | [], vs, ds, ps, _, h, _, _ => by
    obtain ⟨rfl, rfl, rfl⟩ := Go.ChangeShapes.trodAll_nil h
    rfl
  | t :: ts, vs, ds, ps, ht, h, h1, h2 => by
    obtain ⟨v, vs', d, ds', p, q, rfl, rfl, rfl, h3, h4⟩ := Go.ChangeShapes.trodAll_cons h
    exact ⟨p, q, Go.WideElems.Trod_stays hl (ht t (by simp)).1 (ht t (by simp)).2 h3 (fun x hx => h1 x (by simp [hx])) (fun x hx => h2 x (by simp [hx])),
      all_stays hl (fun t' h' => ht t' (by simp [h'])) h4 (fun x hx => h1 x (by simp [hx])) (fun x hx => h2 x (by simp [hx])), rfl⟩

/-- The call returned true, and what was there is as it was. -/
theorem post_true {f : Func} {s : ChangeSpec} {W W' : World} {args : Array Value} {ds gs : List (DataW H)} {before : List MemPlace} {rt : TypeId} (hW : DataW.Whole enc P f.params.toList s.vars false W args.toList ds gs before) (hK : Keeps (fun _ => False) W W')
    (hv : s.vars = []) (hres : f.resultTypes = #[rt]) (hrt : P.underlying rt = some .bool) (hl : laidOutB P = true) (hr : ∀ t ∈ f.params.toList, P.readableRec t = true ∧ t < P.types.size)
    (hfn : s.fn H ds = { results := [.lit (.bool true)], args := ds }) : s.post enc P f false true false false W args (.bool true) W' := by
  have hlt := hW.lt
  have hW' := hW
  obtain ⟨p, q, hA, hV, rfl, _, _⟩ := hW
  rw [hv] at hV
  have hg : gs = [] ∧ q = [] := by
    cases gs with
    | nil => exact ⟨rfl, by simpa [DataW.TrodVars] using hV⟩
    | cons d ds => simp [DataW.TrodVars] at hV
  obtain ⟨rfl, rfl⟩ := hg
  simp only [List.append_nil] at hlt
  refine ⟨ds, [], p ++ [], [], p, [], hW', ?_, ?_, ?_, hK.but _, by simp⟩
  · rw [List.append_nil, hfn, hres]
    refine ⟨[], [], ⟨1, ?_⟩, rfl, rfl⟩
    simp [DataW.trod, hrt, Value.cells]
  · rw [List.append_nil, hfn]
    exact all_stays hl hr hA (fun x hx => hK.at (hlt x hx)) (fun x hx => by simpa using hlt x hx)
  · rw [List.append_nil, hfn, hv]
    rfl
end
end Go.Mch
/- The first functions of the program and of the reference: ranges, places in lists, tables, permutations. -/
namespace Go.Mch

def S_in (pg : Pg) (f : Nat) : Prop := ∀ n lo hi : Int, Call pg f [I n, I lo, I hi] [I n, I lo, I hi] (B (decide (lo ≤ n ∧ n ≤ hi)))
theorem t_l01In {pg : Pg} (hp : pg.fn 30 = some c_spec_l01In) : S_in pg 30 := by
  intro n lo hi
  refine Call.intro hp rfl (by simp) ?_
  show wp _ _ c_spec_l01In.body (post [.t 6] _ _ _) _
  by_cases h1 : lo ≤ n
  · by_cases h2 : n ≤ hi <;> simp [c_spec_l01In, h1, h2]
  · simp [c_spec_l01In, h1, undefV]
theorem t_within {pg : Pg} (hp : pg.fn 35 = some c_impl_within) : S_in pg 35 := by
  intro n lo hi
  refine Call.intro hp rfl (by simp) ?_
  show wp _ _ c_impl_within.body (post [.t 6] _ _ _) _
  by_cases h1 : lo ≤ n
  · by_cases h2 : n ≤ hi <;> simp [c_impl_within, h1, h2]
  · simp [c_impl_within, h1, undefV]

def S_own (pg : Pg) : Prop := ∀ xs : List Int, xs.length ≤ 1048576 → Call pg 31 [ix xs] [ix xs] (.mem .own (some 1) (xs.map I))
theorem t_own {pg : Pg} (hp : pg.fn 31 = some c_spec_l01Own) : S_own pg := by
  intro xs hl
  refine Call.intro hp rfl (by simp) ?_
  show wp _ _ c_spec_l01Own.body (post [.t 2] _ _ _) _
  simp [c_spec_l01Own, roomy]
  omega

/-- The first place of a number in a list, or -1. -/
def ixOf : List Int → Int → Int
  | [], _ => -1
  | x :: xs, n => if x = n then 0 else if ixOf xs n < 0 then -1 else ixOf xs n + 1
theorem ixOf_le : ∀ (xs : List Int) (n : Int), -1 ≤ ixOf xs n ∧ ixOf xs n < xs.length
  | [], n => by simp [ixOf]
  | x :: xs, n => by
    have := ixOf_le xs n
    unfold ixOf
    simp only [List.length_cons]
    split
    · omega
    · split <;> omega
theorem ixOf_mem : ∀ (xs : List Int) (n : Int), 0 ≤ ixOf xs n ↔ n ∈ xs
  | [], n => by simp [ixOf]
  | x :: xs, n => by
    have := ixOf_mem xs n
    have h2 := ixOf_le xs n
    unfold ixOf
    by_cases h : x = n
    · subst h; simp
    · rw [if_neg h]
      split
      · rename_i h3
        simp only [List.mem_cons]
        constructor
        · intro h4; omega
        · intro h4
          rcases h4 with h4 | h4
          · exact (h h4.symm).elim
          · have := this.2 h4; omega
      · rename_i h3
        simp only [List.mem_cons]
        exact ⟨fun _ => .inr (this.1 (by omega)), fun _ => by omega⟩
/-- Found behind k places that do not have it. -/
theorem ixOf_at : ∀ {xs : List Int} {n : Int} {k : Nat} (hk : k < xs.length), (∀ i (h : i < k), xs[i] ≠ n) → xs[k] = n → ixOf xs n = k
  | x :: xs, n, 0, _, _, h => by simp at h; simp [ixOf, h]
  | x :: xs, n, k + 1, hk, h1, h2 => by
    have h0 := h1 0 (by omega)
    simp only [List.getElem_cons_zero] at h0
    have := ixOf_at (xs := xs) (n := n) (k := k) (by simpa using hk) (fun i hi => by
      have := h1 (i + 1) (by omega)
      simpa using this) (by simpa using h2)
    unfold ixOf
    rw [if_neg h0, this, if_neg (by omega)]
    omega
theorem ixOf_none {xs : List Int} {n : Int} (h : ∀ i (h : i < xs.length), xs[i] ≠ n) : ixOf xs n = -1 := by
  have h1 := ixOf_le xs n
  have h2 : ¬ 0 ≤ ixOf xs n := fun hh => by
    obtain ⟨i, hi, he⟩ := List.getElem_of_mem ((ixOf_mem xs n).1 hh)
    exact h i hi he
  omega

def S_index (pg : Pg) : Prop := ∀ (xs : List Int) (n : Int), xs.length ≤ 1048576 → Call pg 69 [ix xs, I n] [ix xs, I n] (I (ixOf xs n))
theorem t_index {pg : Pg} (hp : pg.fn 69 = some c_spec_l01Index) : S_index pg := by
  intro xs n hl
  refine Call.intro hp rfl (by simp) ?_
  show wp _ _ c_spec_l01Index.body (post [.t 4] _ _ _) _
  simp [c_spec_l01Index]
  refine wpLoop_count (fun k e => (∀ i (h : i < xs.length), i < k → xs[i] ≠ n) ∧ e = fr [(0, some (.val (ix xs))), (1, some (.val (I n))), (5, some (.val (I k)))]) xs.length ?_ ?_ 0 _ (by omega) ?_
  · rintro k e hk ⟨h1, rfl⟩
    by_cases hx : xs[k] = n
    · simp [hk, hx]
      exact (ixOf_at hk (fun i hi => h1 i (by omega) hi) hx).symm
    · simp [hk, hx]
      refine ⟨by omega, fun i hi hik => ?_⟩
      rcases Nat.lt_or_ge i k with h2 | h2
      · exact h1 i hi h2
      · have : i = k := by omega
        subst this; exact hx
  · rintro e ⟨h1, rfl⟩
    simp
    exact (ixOf_none fun i hi => h1 i hi hi).symm
  · simp

def S_has (pg : Pg) : Prop := ∀ (xs : List Int) (n : Int), xs.length ≤ 1048576 → Call pg 62 [ix xs, I n] [ix xs, I n] (B (decide (n ∈ xs)))
theorem t_has {pg : Pg} (hp : pg.fn 62 = some c_spec_l01Has) (h69 : S_index pg) : S_has pg := by
  intro xs n hl
  refine Call.intro hp rfl (by simp) ?_
  show wp _ _ c_spec_l01Has.body (post [.t 4] _ _ _) _
  simp [c_spec_l01Has]
  refine callR (h69 xs n hl) rfl rfl (fun _ => rfl) ?_
  simp [ixOf_mem]

/-! ### Tables -/

/-- A square table of its own places. -/
def Tab (t : List (List Int)) : Prop := ∀ r ∈ t, r.length = t.length ∧ ∀ v ∈ r, 0 ≤ v ∧ v < t.length

def isTable (t : List (List Int)) : Prop := 1 ≤ t.length ∧ t.length ≤ 12 ∧ Tab t

instance (t : List (List Int)) : Decidable (Tab t) := by unfold Tab; infer_instance
instance (t : List (List Int)) : Decidable (isTable t) := by unfold isTable; infer_instance

def S_table (pg : Pg) (f : Nat) : Prop := ∀ t : List (List Int), t.length ≤ 1048576 → (∀ r ∈ t, r.length ≤ 1048576) → Call pg f [tb t] [tb t] (B (decide (isTable t)))

@[simp] theorem tbL_getElem {t : List (List Int)} {k : Nat} (h : k < (tbL t).length) : (tbL t)[k] = ix (t[k]'(by simpa using h)) := by simp [tbL]

theorem t_l01Table {pg : Pg} (hp : pg.fn 46 = some c_spec_l01Table) (h30 : S_in pg 30) : S_table pg 46 := by
  intro t hl hr
  refine Call.intro hp rfl (by simp) ?_
  show wp _ _ c_spec_l01Table.body (post [.t 2] _ _ _) _
  simp [c_spec_l01Table]
  refine callR (h30 _ 1 12) rfl rfl (fun _ => rfl) ?_
  by_cases hn : 1 ≤ t.length ∧ t.length ≤ 12
  · have hn' : (1 : Int) ≤ t.length ∧ (t.length : Int) ≤ 12 := by omega
    simp [hn']
    refine wpLoop_count (fun k e => (∀ i (h : i < t.length), i < k → t[i].length = t.length ∧ ∀ v ∈ t[i], 0 ≤ v ∧ v < t.length) ∧ e = fr [(0, some (.val (tb t))), (3, some (.val (I t.length))), (4, some (.val (I k)))]) t.length ?_ ?_ 0 _ (by omega) ?_
    · rintro k e hk ⟨h1, rfl⟩
      by_cases hlen : t[k].length = t.length
      · simp [hk, hlen]
        refine wpLoop_count (fun j e => (∀ i (h : i < t[k].length), i < j → 0 ≤ t[k][i] ∧ t[k][i] < t.length) ∧ e = fr [(0, some (.val (tb t))), (3, some (.val (I t.length))), (4, some (.val (I k))), (5, some (.val (I j)))]) t.length ?_ ?_ 0 _ (by omega) ?_
        · rintro j e hj ⟨h2, rfl⟩
          have hj2 : j < t[k].length := by omega
          simp [hk, hj, hj2]
          refine ⟨by omega, ?_⟩
          refine callR (h30 _ 0 _) rfl rfl (fun _ => rfl) ?_
          by_cases hv : 0 ≤ t[k][j] ∧ t[k][j] ≤ (t.length : Int) - 1
          · simp [hv]
            refine ⟨by omega, fun i hi hij => ?_⟩
            rcases Nat.lt_or_ge i j with h3 | h3
            · exact h2 i hi h3
            · have : i = j := by omega
              subst this; omega
          · have hvd : ¬ isTable t := fun ht => hv (by
              have := (ht.2.2 t[k] (List.getElem_mem hk)).2 t[k][j] (List.getElem_mem hj2)
              omega)
            simp [hv, hvd]
        · rintro e ⟨h2, rfl⟩
          simp
          refine ⟨by omega, fun i hi hik => ?_⟩
          rcases Nat.lt_or_ge i k with h3 | h3
          · exact h1 i hi h3
          · have : i = k := by omega
            subst this
            refine ⟨hlen, fun v hv => ?_⟩
            obtain ⟨j, hj, rfl⟩ := List.getElem_of_mem hv
            exact h2 j hj (by omega)
        · simp
      · have hvd : ¬ isTable t := fun ht => hlen (ht.2.2 t[k] (List.getElem_mem hk)).1
        have hne : ((t[k].length : Nat) : Int) ≠ t.length := by omega
        simp [hk, hne, hvd]
    · rintro e ⟨h1, rfl⟩
      have : isTable t := ⟨hn.1, hn.2, fun r hr => by
        obtain ⟨i, hi, rfl⟩ := List.getElem_of_mem hr
        exact h1 i hi hi⟩
      simp [this]
    · simp
  · have hvd : ¬ isTable t := fun ht => hn ⟨ht.1, ht.2.1⟩
    have hn' : ¬ ((1 : Int) ≤ t.length ∧ (t.length : Int) ≤ 12) := by omega
    simp [hn', hvd]

end Go.Mch
/- Permutations; rows that pass a test; tables and pair maps as the program and the reference see them. -/
namespace Go.Mch

def isPerm (p : List Int) : Prop := 1 ≤ p.length ∧ p.length ≤ 12 ∧ ∀ x : Nat, x < p.length → (x : Int) ∈ p
instance (p : List Int) : Decidable (isPerm p) := by unfold isPerm; infer_instance

def S_perm (pg : Pg) (f : Nat) : Prop := ∀ p : List Int, p.length ≤ 1048576 → Call pg f [ix p] [ix p] (B (decide (isPerm p)))

theorem t_l01Perm {pg : Pg} (hp : pg.fn 47 = some c_spec_l01Perm) (h30 : S_in pg 30) (h62 : S_has pg) : S_perm pg 47 := by
  intro p hl
  refine Call.intro hp rfl (by simp) ?_
  show wp _ _ c_spec_l01Perm.body (post [.t 2] _ _ _) _
  simp [c_spec_l01Perm]
  refine callR (h30 _ 1 12) rfl rfl (fun _ => rfl) ?_
  by_cases hn : 1 ≤ p.length ∧ p.length ≤ 12
  · have hn' : (1 : Int) ≤ p.length ∧ (p.length : Int) ≤ 12 := by omega
    simp [hn']
    refine wpLoop_count (fun k e => (∀ x : Nat, x < k → (x : Int) ∈ p) ∧ e = fr [(0, some (.val (ix p))), (3, some (.val (I p.length))), (4, some (.val (I k)))]) p.length ?_ ?_ 0 _ (by omega) ?_
    · rintro k e hk ⟨h1, rfl⟩
      simp [hk]
      refine callR (h62 p k hl) rfl rfl (fun _ => rfl) ?_
      by_cases hm : (k : Int) ∈ p
      · simp [hm]
        refine ⟨by omega, fun x hx => ?_⟩
        rcases Nat.lt_or_ge x k with h2 | h2
        · exact h1 x h2
        · have : x = k := by omega
          subst this; exact hm
      · have hvd : ¬ isPerm p := fun h => hm (h.2.2 k hk)
        simp [hm, hvd]
    · rintro e ⟨h1, rfl⟩
      have : isPerm p := ⟨hn.1, hn.2, h1⟩
      simp [this]
    · simp
  · have hvd : ¬ isPerm p := fun h => hn ⟨h.1, h.2.1⟩
    have hn' : ¬ ((1 : Int) ≤ p.length ∧ (p.length : Int) ≤ 12) := by omega
    simp [hn', hvd]

/-- All in range. -/
def inR (lo hi : Int) (xs : List Int) : Prop := ∀ x ∈ xs, lo ≤ x ∧ x ≤ hi
instance (lo hi : Int) (xs : List Int) : Decidable (inR lo hi xs) := by unfold inR; infer_instance

def S_allWithin (pg : Pg) : Prop := ∀ (xs : List Int) (lo hi : Int), xs.length ≤ 1048576 → Call pg 54 [ix xs, I lo, I hi] [ix xs, I lo, I hi] (B (decide (inR lo hi xs)))
theorem t_allWithin {pg : Pg} (hp : pg.fn 54 = some c_impl_allWithin) (h35 : S_in pg 35) : S_allWithin pg := by
  intro xs lo hi hl
  refine Call.intro hp rfl (by simp) ?_
  show wp _ _ c_impl_allWithin.body (post [.t 6] _ _ _) _
  simp [c_impl_allWithin]
  refine wpLoop_count (fun k e => (∀ i (h : i < xs.length), i < k → lo ≤ xs[i] ∧ xs[i] ≤ hi) ∧ e = fr [(1, some (.val (I lo))), (2, some (.val (I hi))), (9, some (.val (ix xs))), (10, some (.val (I xs.length))), (11, some (.val (I k)))]) xs.length ?_ ?_ 0 _ (by omega) ?_
  · rintro k e hk ⟨h1, rfl⟩
    simp [hk]
    refine callR (h35 _ _ _) rfl rfl (fun _ => rfl) ?_
    by_cases hm : lo ≤ xs[k] ∧ xs[k] ≤ hi
    · simp [hm]
      refine ⟨by omega, fun i hi hik => ?_⟩
      rcases Nat.lt_or_ge i k with h2 | h2
      · exact h1 i hi h2
      · have : i = k := by omega
        subst this; exact hm
    · have hvd : ¬ inR lo hi xs := fun h => hm (h _ (List.getElem_mem hk))
      simp [hm, hvd]
  · rintro e ⟨h1, rfl⟩
    have : inR lo hi xs := fun x hx => by
      obtain ⟨i, hi, rfl⟩ := List.getElem_of_mem hx
      exact h1 i hi hi
    simp [this]
  · simp

def S_areElements (pg : Pg) : Prop := ∀ (n : Int) (xs : List Int), xs.length ≤ 1048576 → 0 ≤ n → n ≤ 1048576 → Call pg 39 [I n, ix xs] [I n, ix xs] (B (decide (inR 0 (n - 1) xs)))
theorem t_areElements {pg : Pg} (hp : pg.fn 39 = some c_impl_areElements) (h54 : S_allWithin pg) : S_areElements pg := by
  intro n xs hl h1 h2
  refine Call.intro hp rfl (by simp) ?_
  show wp _ _ c_impl_areElements.body (post [.t 4] _ _ _) _
  simp [c_impl_areElements]
  refine ⟨by omega, ?_⟩
  refine callR (h54 _ _ _ hl) rfl rfl (fun _ => rfl) ?_
  simp

/-- Each of its places once. -/
def isPermuted (p : List Int) : Prop := (∀ x ∈ p, 0 ≤ x ∧ x < p.length) ∧ p.Nodup
instance (p : List Int) : Decidable (isPermuted p) := by unfold isPermuted; infer_instance

/-- What has been seen. -/
def seenL (p : List Int) (k : Nat) : List T := (List.range p.length).map fun i : Nat => B (decide ((i : Int) ∈ p.take k))
@[simp] theorem seenL_length (p : List Int) (k : Nat) : (seenL p k).length = p.length := by simp [seenL]
theorem seenL_get {p : List Int} {k i : Nat} (h : i < p.length) : (seenL p k)[i]'(by simpa using h) = B (decide ((i : Int) ∈ p.take k)) := by simp [seenL]
theorem seenL_zero (p : List Int) : seenL p 0 = List.replicate p.length (B false) := by
  apply List.ext_getElem
  · simp
  · intro i h1 h2; simp [seenL]
theorem seenL_set {p : List Int} {k i : Nat} (hk : k < p.length) (hi : p[k] = i) : (seenL p k).set i (B true) = seenL p (k + 1) := by
  apply List.ext_getElem
  · simp
  · intro j h1 h2
    simp only [List.getElem_set, seenL, List.getElem_map, List.getElem_range, List.take_succ_eq_append_getElem hk, List.mem_append, List.mem_singleton]
    by_cases h : i = j
    · subst h; simp [hi]
    · rw [if_neg h]
      have : ¬ ((j : Int) = p[k]) := by omega
      simp [this]

theorem nodup_take {p : List Int} {k : Nat} (hk : k < p.length) (h : (p.take k).Nodup) (hm : p[k] ∉ p.take k) : (p.take (k + 1)).Nodup := by
  rw [List.take_succ_eq_append_getElem hk, List.nodup_append]
  refine ⟨h, by simp, fun a ha b hb => ?_⟩
  simp at hb
  subst hb
  intro e; subst e; exact hm ha

def S_isPermuted (pg : Pg) : Prop := ∀ p : List Int, p.length ≤ 1048576 → Call pg 66 [ix p] [ix p] (B (decide (isPermuted p)))
theorem t_isPermuted {pg : Pg} (hp : pg.fn 66 = some c_impl_isPermuted) (h35 : S_in pg 35) : S_isPermuted pg := by
  intro p hl
  refine Call.intro hp rfl (by simp) ?_
  show wp _ _ c_impl_isPermuted.body (post [.t 2] _ _ _) _
  simp [c_impl_isPermuted]
  refine ⟨by unfold roomy; omega, ?_⟩
  refine wpLoop_count (fun k e => (∀ i (h : i < p.length), i < k → 0 ≤ p[i] ∧ p[i] < p.length) ∧ (p.take k).Nodup ∧ e = fr [(0, some (.val (ix p))), (3, some (.val (.mem .own (some 1) (seenL p k)))), (9, some (.val (ix p))), (10, some (.val (I p.length))), (11, some (.val (I k)))]) p.length ?_ ?_ 0 _ (by omega) ?_
  · rintro k e hk ⟨h1, h2, rfl⟩
    simp [hk]
    refine ⟨by omega, ?_⟩
    refine callR (h35 _ _ _) rfl rfl (fun _ => rfl) ?_
    by_cases hv : 0 ≤ p[k] ∧ p[k] ≤ (p.length : Int) - 1
    · obtain ⟨i, hi⟩ : ∃ i : Nat, p[k] = i := ⟨p[k].toNat, by omega⟩
      have hil : i < p.length := by omega
      have hv' : 0 ≤ p[k] ∧ p[k] ≤ (p.length : Int) - 1 := hv
      rw [hi] at hv'
      by_cases hm : (i : Int) ∈ p.take k
      · have hvd : ¬ isPermuted p := fun h => by
          have h3 : (p.take (k + 1)).Nodup := h.2.sublist (List.take_sublist _ _)
          rw [List.take_succ_eq_append_getElem hk, List.nodup_append] at h3
          exact h3.2.2 _ hm _ (by simp) hi.symm
        simp [hi, hv', hil, seenL_get, hm, hvd]
      · simp [hi, hv', hil, seenL_get, hm]
        refine ⟨by omega, by omega, fun j hj hjk => ?_, nodup_take hk h2 (by rw [hi]; exact hm), ?_⟩
        · rcases Nat.lt_or_ge j k with h3 | h3
          · exact h1 j hj h3
          · have : j = k := by omega
            subst this; omega
        · rw [seenL_set hk hi]
    · have hvd : ¬ isPermuted p := fun h => hv (by have := h.1 _ (List.getElem_mem hk); omega)
      simp [hv, hvd, undefV]
  · rintro e ⟨h1, h2, rfl⟩
    have : isPermuted p := ⟨fun x hx => by
      obtain ⟨i, hi, rfl⟩ := List.getElem_of_mem hx
      exact h1 i hi hi, by rwa [List.take_length] at h2⟩
    simp [this]
  · simp [seenL_zero]

/-! ### A test for each row -/

def S_indexFunc (pg : Pg) : Prop := ∀ (t : List (List Int)) (P : List Int → Bool) (f : Nat) (caps : List T), t.length ≤ 1048576 → T.eryL .old caps = caps → T.noOwnL caps = true → (∀ r ∈ t, Call pg f (ix r :: caps) (ix r :: caps) (B (P r))) →
  ∃ r : Int, (0 ≤ r ↔ t.any P = true) ∧ Call pg 70 [tb t, .fn f caps] [tb t, .fn f caps] (I r)
theorem t_indexFunc {pg : Pg} (hp : pg.fn 70 = some c_slices_IndexFunc_____int64___int64_) : S_indexFunc pg := by
  intro t P f caps hl hc hno hf
  by_cases hex : ∃ (k : Nat) (hk : k < t.length), (∀ i (h : i < k), P t[i] = false) ∧ P t[k] = true
  · obtain ⟨m, hm, hm1, hm2⟩ := hex
    refine ⟨m, ⟨fun _ => List.any_eq_true.2 ⟨_, List.getElem_mem hm, hm2⟩, fun _ => by omega⟩, Call.intro hp rfl (by simp [hno]) ?_⟩
    show wp _ _ c_slices_IndexFunc_____int64___int64_.body (post [.t 4] _ _ _) _
    simp [c_slices_IndexFunc_____int64___int64_]
    refine wpLoop_count (fun k e => k ≤ m ∧ e = fr [(0, some (.val (tb t))), (1, some (.val (.fn f caps))), (7, some (.val (I t.length))), (8, some (.val (I k)))]) t.length ?_ ?_ 0 _ (by omega) ?_
    · rintro k e hk ⟨h1, rfl⟩
      simp [hk]
      refine callR (by simpa [hc] using hf t[k] (List.getElem_mem hk)) rfl rfl (fun _ => rfl) ?_
      rcases Nat.lt_or_ge k m with h2 | h2
      · simp [hm1 k h2]
        omega
      · have : k = m := by omega
        subst this
        simp [hm2, hno]
    · rintro e ⟨h1, rfl⟩
      omega
    · simp
  · have hall : ∀ i (h : i < t.length), P t[i] = false := by
      intro i
      induction i using Nat.strongRecOn with
      | _ i ih =>
        intro hi
        cases hv : P t[i] with
        | false => rfl
        | true => exact (hex ⟨i, hi, fun j hj => ih j hj (by omega), hv⟩).elim
    refine ⟨-1, ⟨fun h => by omega, fun h => by
      obtain ⟨r, hr, h2⟩ := List.any_eq_true.1 h
      obtain ⟨i, hi, rfl⟩ := List.getElem_of_mem hr
      rw [hall i hi] at h2; cases h2⟩, Call.intro hp rfl (by simp [hno]) ?_⟩
    show wp _ _ c_slices_IndexFunc_____int64___int64_.body (post [.t 4] _ _ _) _
    simp [c_slices_IndexFunc_____int64___int64_]
    refine wpLoop_count (fun k e => e = fr [(0, some (.val (tb t))), (1, some (.val (.fn f caps))), (7, some (.val (I t.length))), (8, some (.val (I k)))]) t.length ?_ ?_ 0 _ (by omega) ?_
    · rintro k e hk rfl
      simp [hk]
      refine callR (by simpa [hc] using hf t[k] (List.getElem_mem hk)) rfl rfl (fun _ => rfl) ?_
      simp [hall k hk]
      omega
    · rintro e rfl
      simp [hno]
    · simp

def S_containsFunc (pg : Pg) : Prop := ∀ (t : List (List Int)) (P : List Int → Bool) (f : Nat) (caps : List T), t.length ≤ 1048576 → T.eryL .old caps = caps → T.noOwnL caps = true → (∀ r ∈ t, Call pg f (ix r :: caps) (ix r :: caps) (B (P r))) →
  Call pg 63 [tb t, .fn f caps] [tb t, .fn f caps] (B (t.any P))
theorem t_containsFunc {pg : Pg} (hp : pg.fn 63 = some c_slices_ContainsFunc_____int64___int64_) (h70 : S_indexFunc pg) : S_containsFunc pg := by
  intro t P f caps hl hc hno hf
  obtain ⟨r, h1, h2⟩ := h70 t P f caps hl hc hno hf
  refine Call.intro hp rfl (by simp [hno]) ?_
  show wp _ _ c_slices_ContainsFunc_____int64___int64_.body (post [.t 4] _ _ _) _
  simp [c_slices_ContainsFunc_____int64___int64_, hno, hc]
  refine callR h2 rfl rfl (fun _ => rfl) ?_
  cases h : t.any P with
  | true => simp [h1.2 h, hno]
  | false =>
    have : ¬ 0 ≤ r := fun hh => by rw [h1.1 hh] at h; cases h
    simp [this, hno]

end Go.Mch
/- Tables and pair maps as the program and the reference see them. -/
namespace Go.Mch

def S_isTable1 (pg : Pg) : Prop := ∀ (r : List Int) (n : Int), r.length ≤ 1048576 → 0 ≤ n → n ≤ 1048576 → Call pg 64 [ix r, .mem .old none [I n]] [ix r, .mem .old none [I n]] (B (decide ((r.length : Int) ≠ n ∨ ¬ inR 0 (n - 1) r)))
theorem t_isTable1 {pg : Pg} (hp : pg.fn 64 = some c_impl_IsTable_1) (h54 : S_allWithin pg) : S_isTable1 pg := by
  intro r n hl h1 h2
  refine Call.intro hp rfl (by simp) ?_
  show wp _ _ c_impl_IsTable_1.body (post [.t 3] _ _ _) _
  by_cases hn : (r.length : Int) = n
  · simp [c_impl_IsTable_1, hn]
    refine ⟨by omega, ?_⟩
    refine callR (h54 _ _ _ hl) rfl rfl (fun _ => rfl) ?_
    by_cases hr : inR 0 (n - 1) r <;> simp [hr]
  · simp [c_impl_IsTable_1, hn, undefV]

theorem t_isTable {pg : Pg} (hp : pg.fn 50 = some c_impl_IsTable) (h35 : S_in pg 35) (h64 : S_isTable1 pg) (h63 : S_containsFunc pg) : S_table pg 50 := by
  intro t hl hr
  refine Call.intro hp rfl (by simp) ?_
  show wp _ _ c_impl_IsTable.body (post [.t 2] _ _ _) _
  simp [c_impl_IsTable]
  refine callR (h35 _ 1 12) rfl rfl (fun _ => rfl) ?_
  by_cases hn : 1 ≤ t.length ∧ t.length ≤ 12
  · have hn' : (1 : Int) ≤ t.length ∧ (t.length : Int) ≤ 12 := by omega
    simp [hn']
    refine callR (h63 t (fun r => decide ((r.length : Int) ≠ t.length ∨ ¬ inR 0 ((t.length : Int) - 1) r)) 64 [.mem .old none [I t.length]] hl rfl rfl (fun r hm => h64 r _ (hr r hm) (by omega) (by omega))) rfl rfl (fun _ => rfl) ?_
    simp
    by_cases ht : isTable t
    · simp [ht]
      intro r hm
      have := ht.2.2 r hm
      exact ⟨by omega, fun v hv => by have := this.2 v hv; omega⟩
    · simp [ht]
      rcases Classical.em (∃ x, x ∈ t ∧ (¬ ((x.length : Nat) : Int) = t.length ∨ ¬ inR 0 ((t.length : Int) - 1) x)) with h | h
      · exact h
      · exfalso
        refine ht ⟨hn.1, hn.2, fun r hm => ?_⟩
        have h1 : ((r.length : Nat) : Int) = t.length ∧ inR 0 ((t.length : Int) - 1) r := by
          refine Classical.byContradiction fun h2 => h ⟨r, hm, ?_⟩
          rcases Classical.em (((r.length : Nat) : Int) = t.length) with h3 | h3
          · exact .inr fun h4 => h2 ⟨h3, h4⟩
          · exact .inl h3
        exact ⟨by omega, fun v hv => by have := h1.2 v hv; omega⟩
  · have hvd : ¬ isTable t := fun ht => hn ⟨ht.1, ht.2.1⟩
    have hn' : ¬ ((1 : Int) ≤ t.length ∧ (t.length : Int) ≤ 12) := by omega
    simp [hn', hvd, undefV]

def S_permRows1 (pg : Pg) : Prop := ∀ r : List Int, r.length ≤ 1048576 → Call pg 65 [ix r] [ix r] (B (!decide (isPermuted r)))
theorem t_permRows1 {pg : Pg} (hp : pg.fn 65 = some c_impl_permutationRows_1) (h66 : S_isPermuted pg) : S_permRows1 pg := by
  intro r hl
  refine Call.intro hp rfl (by simp) ?_
  show wp _ _ c_impl_permutationRows_1.body (post [.t 2] _ _ _) _
  simp [c_impl_permutationRows_1]
  refine callR (h66 _ hl) rfl rfl (fun _ => rfl) ?_
  simp

def permRows (t : List (List Int)) : Prop := ∀ r ∈ t, isPermuted r
instance (t : List (List Int)) : Decidable (permRows t) := by unfold permRows; infer_instance

def S_permRows (pg : Pg) : Prop := ∀ t : List (List Int), t.length ≤ 1048576 → (∀ r ∈ t, r.length ≤ 1048576) → Call pg 51 [tb t] [tb t] (B (decide (permRows t)))
theorem t_permRows {pg : Pg} (hp : pg.fn 51 = some c_impl_permutationRows) (h65 : S_permRows1 pg) (h63 : S_containsFunc pg) : S_permRows pg := by
  intro t hl hr
  refine Call.intro hp rfl (by simp) ?_
  show wp _ _ c_impl_permutationRows.body (post [.t 2] _ _ _) _
  simp [c_impl_permutationRows]
  refine callR (h63 t (fun r => !decide (isPermuted r)) 65 [] hl rfl rfl (fun r hm => h65 r (hr r hm))) rfl rfl (fun _ => rfl) ?_
  simp only [permRows]
  cases h : t.any fun r => !decide (isPermuted r) with
  | true =>
    obtain ⟨r, h1, h2⟩ := List.any_eq_true.1 h
    have : ¬ ∀ r, r ∈ t → isPermuted r := fun hh => by simp [hh r h1] at h2
    simp [this]
  | false =>
    have : ∀ r, r ∈ t → isPermuted r := fun r hr => by
      have := List.any_eq_false.1 h r hr
      simpa using this
    simp
    exact decide_eq_true this

def S_same (pg : Pg) : Prop := ∀ a b : List Int, a.length ≤ 1048576 → Call pg 67 [ix a, ix b] [ix a, ix b] (B (decide (a = b)))
theorem t_same {pg : Pg} (hp : pg.fn 67 = some c_spec_l01Same) : S_same pg := by
  intro a b ha
  refine Call.intro hp rfl (by simp) ?_
  show wp _ _ c_spec_l01Same.body (post [.t 4] _ _ _) _
  by_cases hl : a.length = b.length
  · simp [c_spec_l01Same, hl]
    refine wpLoop_count (fun k e => (∀ i, i < k → a[i]? = b[i]?) ∧ e = fr [(0, some (.val (ix a))), (1, some (.val (ix b))), (5, some (.val (I k)))]) a.length ?_ ?_ 0 _ (by omega) ?_
    · rintro k e hk ⟨h1, rfl⟩
      have hk2 : k < b.length := by omega
      by_cases hne : a[k] = b[k]
      · simp [hk, hk2, hne]
        refine ⟨by omega, fun i hi => ?_⟩
        rcases Nat.lt_or_ge i k with h2 | h2
        · exact h1 i h2
        · have : i = k := by omega
          subst this
          rw [List.getElem?_eq_getElem hk, List.getElem?_eq_getElem hk2, hne]
      · simp [hk, hk2, hne]
        intro h2
        exact hne (by simp [h2])
    · rintro e ⟨h1, rfl⟩
      simp [hl]
      apply List.ext_getElem?
      intro i
      rcases Nat.lt_or_ge i a.length with h2 | h2
      · exact h1 i h2
      · rw [List.getElem?_eq_none h2, List.getElem?_eq_none (by omega)]
    · exact ⟨fun i hi => by omega, by simp⟩
  · have : a ≠ b := fun h => hl (by rw [h])
    have h2 : (a.length : Int) ≠ b.length := by omega
    simp [c_spec_l01Same, h2, this]

/-! ### Pair maps -/

abbrev sol (f s : List (List Int)) : T := .agg [tb f, tb s]
def isPairMap (f s : List (List Int)) : Prop := isTable f ∧ isTable s ∧ f.length = s.length
instance (f s : List (List Int)) : Decidable (isPairMap f s) := by unfold isPairMap; infer_instance

def fits (t : List (List Int)) : Prop := t.length ≤ 1048576 ∧ ∀ r ∈ t, r.length ≤ 1048576

def S_pairMap (pg : Pg) (n : Nat) : Prop := ∀ f s : List (List Int), fits f → fits s → Call pg n [sol f s] [sol f s] (B (decide (isPairMap f s)))
theorem t_l02Map {pg : Pg} (hp : pg.fn 56 = some c_spec_l02Map) (h46 : S_table pg 46) : S_pairMap pg 56 := by
  intro f s hf hs
  refine Call.intro hp rfl (by simp) ?_
  show wp _ _ c_spec_l02Map.body (post [.t 2] _ _ _) _
  simp [c_spec_l02Map]
  refine callR (h46 _ hf.1 hf.2) rfl rfl (fun _ => rfl) ?_
  by_cases h1 : isTable f
  · simp [h1]
    refine callR (h46 _ hs.1 hs.2) rfl rfl (fun _ => rfl) ?_
    by_cases h2 : isTable s
    · simp [h2, isPairMap, h1]
      omega
    · simp [h2, isPairMap, undefV]
  · simp [h1, isPairMap, undefV]
theorem t_isPairMap {pg : Pg} (hp : pg.fn 59 = some c_impl_IsPairMap) (h50 : S_table pg 50) : S_pairMap pg 59 := by
  intro f s hf hs
  refine Call.intro hp rfl (by simp) ?_
  show wp _ _ c_impl_IsPairMap.body (post [.t 2] _ _ _) _
  simp [c_impl_IsPairMap]
  refine callR (h50 _ hf.1 hf.2) rfl rfl (fun _ => rfl) ?_
  by_cases h1 : isTable f
  · simp [h1]
    refine callR (h50 _ hs.1 hs.2) rfl rfl (fun _ => rfl) ?_
    by_cases h2 : isTable s
    · simp [h2, isPairMap, h1]
      omega
    · simp [h2, isPairMap, undefV]
  · simp [h1, isPairMap, undefV]

/-! ### Values of tables -/

/-- The value of a table at places. -/
def v2 (t : List (List Int)) (x y : Nat) : Int := (t.getD x []).getD y 0
theorem get_v2 {t : List (List Int)} {x y : Nat} (hx : x < t.length) (hy : y < (t[x]).length) : (t[x])[y] = v2 t x y := by
  simp [v2, List.getD_eq_getElem?_getD, hx, hy]
theorem Tab.row {t : List (List Int)} (h : Tab t) {x : Nat} (hx : x < t.length) : (t[x]).length = t.length := (h _ (List.getElem_mem hx)).1
theorem Tab.nonneg {t : List (List Int)} (h : Tab t) (x y : Nat) : 0 ≤ v2 t x y := by
  unfold v2
  rw [List.getD_eq_getElem?_getD, List.getD_eq_getElem?_getD]
  cases h1 : t[x]? with
  | none => simp
  | some r =>
    simp only [Option.getD_some]
    cases h2 : r[y]? with
    | none => simp
    | some v => exact ((h r (List.mem_of_getElem? h1)).2 v (List.mem_of_getElem? h2)).1
theorem Tab.lt {t : List (List Int)} (h : Tab t) (h0 : 0 < t.length) (x y : Nat) : v2 t x y < t.length := by
  unfold v2
  rw [List.getD_eq_getElem?_getD, List.getD_eq_getElem?_getD]
  cases h1 : t[x]? with
  | none => simp; omega
  | some r =>
    simp only [Option.getD_some]
    cases h2 : r[y]? with
    | none => simp; omega
    | some v => exact ((h r (List.mem_of_getElem? h1)).2 v (List.mem_of_getElem? h2)).2
theorem Tab.ltN {t : List (List Int)} (h : Tab t) (h0 : 0 < t.length) (x y : Nat) : (v2 t x y).toNat < t.length := by
  have := h.lt h0 x y
  have := h.nonneg x y
  omega

@[simp] theorem tdiv_nat (a b : Nat) : (a : Int).tdiv (b : Int) = ((a / b : Nat) : Int) := rfl
@[simp] theorem tmod_nat (a b : Nat) : (a : Int).tmod (b : Int) = ((a % b : Nat) : Int) := rfl

theorem least {P : Nat → Prop} {m : Nat} (h : ∃ k, k < m ∧ P k) : ∃ k, k < m ∧ P k ∧ ∀ i, i < k → ¬ P i := by
  obtain ⟨k, h1, h2⟩ := h
  induction k using Nat.strongRecOn with
  | _ k ih =>
    by_cases hh : ∃ i, i < k ∧ P i
    · obtain ⟨i, h3, h4⟩ := hh
      exact ih i h3 (by omega) h4
    · exact ⟨k, h1, h2, fun i hi hp => hh ⟨i, hi, hp⟩⟩

end Go.Mch
/- Marks: numbers written into what was handed over, and read again. -/
namespace Go.Mch

/-- A slice of the frame's own, or nil. -/
def ownI : Option (List Int) → T
  | none => nil
  | some xs => .mem .own (some 1) (xs.map I)

def up (k : Int) (n : Nat) : List Int := (List.range n).map fun i : Nat => k + i
@[simp] theorem up_length (k : Int) (n : Nat) : (up k n).length = n := by simp [up]

def held : List Int → Int → Int
  | [], k => k
  | x :: xs, k => if x = k then held xs (k + 1) else -1

theorem held_up : ∀ (n : Nat) (k : Int), held (up k n) k = k + n
  | 0, k => by simp [up, held]
  | n + 1, k => by
    have h : up k (n + 1) = k :: up (k + 1) n := by
      simp only [up, List.range_succ_eq_map, List.map_cons, List.map_map]
      congr 1
      · simp
      · apply List.map_congr_left
        intro i _
        simp only [Function.comp]
        omega
    rw [h, held, if_pos rfl, held_up n (k + 1)]
    omega

def S_heldI (pg : Pg) : Prop := ∀ (a : Rw Int) (k : Int), (lst a).length ≤ 1048576 → -1 ≤ k → k ≤ 4611686018427387904 → Call pg 13 [rawI a, I k] [rawI a, I k] (I (held (lst a) k))
theorem t_heldI {pg : Pg} (hp : pg.fn 13 = some c_laws_heldInt64S) : S_heldI pg := by
  intro a k ha h1 h2
  refine Call.intro hp rfl (by simp) ?_
  show wp _ _ c_laws_heldInt64S.body (post [.t 4] _ _ _) _
  simp [c_laws_heldInt64S]
  refine wpLoop_count (fun j e => held ((lst a).drop j) (k + j) = held (lst a) k ∧ e = fr [(0, some (.val (rawI a))), (1, some (.val (I (k + j)))), (5, some (.val (I j)))]) (lst a).length ?_ ?_ 0 _ (by omega) ?_
  · rintro j e hj ⟨g1, rfl⟩
    have hd : (lst a).drop j = (lst a)[j] :: (lst a).drop (j + 1) := List.drop_eq_getElem_cons hj
    rw [hd] at g1
    simp only [held] at g1
    by_cases hx : (lst a)[j] = k + j
    · rw [if_pos hx] at g1
      simp [hj, hx]
      refine ⟨by omega, by omega, by rw [← g1]; congr 1; omega, ?_⟩
      congr 4
      simp; omega
    · rw [if_neg hx] at g1
      simp [hj, hx, g1]
  · rintro e ⟨g1, rfl⟩
    simp
    rw [List.drop_length] at g1
    exact g1
  · exact ⟨by simp, by simp⟩

/-- Marks behind j places. -/
def upto (k : Int) (xs : List Int) (j : Nat) : List Int := (List.range xs.length).map fun i : Nat => if i < j then k + i else xs.getD i 0
@[simp] theorem upto_length (k : Int) (xs : List Int) (j : Nat) : (upto k xs j).length = xs.length := by simp [upto]
theorem upto_zero (k : Int) (xs : List Int) : upto k xs 0 = xs := by
  apply List.ext_getElem
  · simp
  · intro i h1 h2
    simp [upto, List.getD_eq_getElem?_getD, List.getElem?_eq_getElem h2]
theorem upto_all (k : Int) (xs : List Int) : upto k xs xs.length = up k xs.length := by
  simp only [upto, up]
  apply List.map_congr_left
  intro i hi
  simp only [List.mem_range] at hi
  rw [if_pos hi]
theorem upto_set (k : Int) (xs : List Int) (j : Nat) : ((upto k xs j).map I).set j (I (k + j)) = (upto k xs (j + 1)).map I := by
  apply List.ext_getElem
  · simp
  · intro i h1 h2
    simp only [List.getElem_set, upto, List.getElem_map, List.getElem_range]
    by_cases h : j = i
    · subst h; simp
    · rw [if_neg h]
      by_cases h3 : i < j
      · rw [if_pos h3, if_pos (by omega)]
      · rw [if_neg h3, if_neg (by omega)]

def S_markI (pg : Pg) : Prop := ∀ (a : Option (List Int)) (k : Int), (lso a).length ≤ 1048576 → -1 ≤ k → k ≤ 4611686018427387904 → Call pg 12 [ownI a, I k] [ownI (a.map fun xs => up k xs.length), I k] (I (k + (lso a).length))
theorem t_markI {pg : Pg} (hp : pg.fn 12 = some c_laws_markInt64S) : S_markI pg := by
  intro a k ha h1 h2
  cases a with
  | none =>
    refine Call.intro hp rfl (by simp [ownI]) ?_
    show wp _ _ c_laws_markInt64S.body (post [.t 4] _ _ _) _
    simp [c_laws_markInt64S, ownI]
    refine wpLoop_count (fun j e => e = fr [(0, some (.val nil)), (1, some (.val (I k))), (5, some (.val (I 0)))]) 0 ?_ ?_ 0 _ (by omega) ?_
    · intro j e hj; omega
    · rintro e rfl
      simp
    · simp
  | some xs =>
    simp only [lso_some] at ha
    refine Call.intro_own hp rfl rfl ?_
    show wp _ _ c_laws_markInt64S.body (post [.t 4] _ _ _) _
    simp [c_laws_markInt64S, ownI]
    refine wpLoop_count (fun j e => e = fr [(0, some (.val (.mem .own (some 1) ((upto k xs j).map I)))), (1, some (.val (I (k + j)))), (5, some (.val (I j)))]) xs.length ?_ ?_ 0 _ (by omega) ?_
    · rintro j e hj rfl
      simp [hj]
      refine ⟨by omega, by omega, by omega, ?_⟩
      rw [upto_set]
      congr 4
      simp; omega
    · rintro e rfl
      simp [upto_all]
    · simp [upto_zero]

theorem S_markI.at {pg : Pg} (h : S_markI pg) (xs : List Int) (k : Int) (h1 : xs.length ≤ 1048576) (h2 : -1 ≤ k) (h3 : k ≤ 4611686018427387904) : Call pg 12 [.mem .own (some 1) (xs.map I), I k] [.mem .own (some 1) ((up k xs.length).map I), I k] (I (k + xs.length)) := h (some xs) k h1 h2 h3

/-- Rows of the frame's own, or nil. -/
def ownT : Option (List (List Int)) → T
  | none => nil
  | some xss => .mem .own (some 1) (rows xss)

/-- The mark at which row j begins. -/
def kAt (k : Int) (xss : List (List Int)) (j : Nat) : Int := k + ((xss.take j).map List.length).sum
def smallT (xss : List (List Int)) : Prop := xss.length ≤ 1048576 ∧ ∀ r ∈ xss, r.length ≤ 1048576

theorem kAt_zero (k : Int) (xss : List (List Int)) : kAt k xss 0 = k := by simp [kAt]
theorem kAt_succ (k : Int) (xss : List (List Int)) {j : Nat} (hj : j < xss.length) : kAt k xss (j + 1) = kAt k xss j + (xss[j]).length := by
  unfold kAt
  rw [List.take_succ_eq_append_getElem hj, List.map_append, List.sum_append]
  simp only [List.map_cons, List.map_nil, List.sum_cons, List.sum_nil, Int.natCast_add]
  omega
theorem kAt_le {k : Int} {xss : List (List Int)} (h : smallT xss) : ∀ j, j ≤ xss.length → k ≤ kAt k xss j ∧ kAt k xss j ≤ k + j * 1048576
  | 0, _ => by simp [kAt]
  | j + 1, hj => by
    have h1 := kAt_le (k := k) h j (by omega)
    have h2 := h.2 _ (List.getElem_mem (show j < xss.length by omega))
    rw [kAt_succ k xss (by omega)]
    simp only [Int.natCast_add]
    omega

def upT (k : Int) (xss : List (List Int)) : List (List Int) := (List.range xss.length).map fun j => up (kAt k xss j) (xss.getD j []).length
@[simp] theorem upT_length (k : Int) (xss : List (List Int)) : (upT k xss).length = xss.length := by simp [upT]
def uptoT (k : Int) (xss : List (List Int)) (j : Nat) : List (List Int) := (List.range xss.length).map fun i => if i < j then up (kAt k xss i) (xss.getD i []).length else xss.getD i []
@[simp] theorem uptoT_length (k : Int) (xss : List (List Int)) (j : Nat) : (uptoT k xss j).length = xss.length := by simp [uptoT]
theorem uptoT_zero (k : Int) (xss : List (List Int)) : uptoT k xss 0 = xss := by
  apply List.ext_getElem
  · simp
  · intro i h1 h2
    simp [uptoT, List.getD_eq_getElem?_getD, List.getElem?_eq_getElem h2]
theorem uptoT_all (k : Int) (xss : List (List Int)) : uptoT k xss xss.length = upT k xss := by
  simp only [uptoT, upT]
  apply List.map_congr_left
  intro i hi
  simp only [List.mem_range] at hi
  rw [if_pos hi]
theorem uptoT_get (k : Int) (xss : List (List Int)) {j : Nat} (hj : j < xss.length) : (uptoT k xss j)[j]'(by simpa using hj) = xss[j] := by
  simp [uptoT, List.getD_eq_getElem?_getD, List.getElem?_eq_getElem hj]
theorem uptoT_set (k : Int) (xss : List (List Int)) {j : Nat} (hj : j < xss.length) : (rows (uptoT k xss j)).set j (.mem .own (some 1) ((up (kAt k xss j) (xss[j]).length).map I)) = rows (uptoT k xss (j + 1)) := by
  apply List.ext_getElem
  · simp
  · intro i h1 h2
    simp only [rows, List.getElem_set, List.getElem_map, uptoT, List.getElem_range]
    have hi : i < xss.length := by simpa using h2
    by_cases h : j = i
    · subst h; simp [List.getD_eq_getElem?_getD, List.getElem?_eq_getElem hi]
    · rw [if_neg h]
      by_cases h3 : i < j
      · rw [if_pos h3, if_pos (by omega)]
      · rw [if_neg h3, if_neg (by omega)]

def heldL : List (List Int) → Int → Int
  | [], k => k
  | r :: rs, k => if held r k < 0 then -1 else heldL rs (held r k)

theorem heldL_up : ∀ (n : Nat) (xss : List (List Int)) (k : Int) (j : Nat), 0 ≤ k → j + n = xss.length → heldL ((upT k xss).drop j) (kAt k xss j) = kAt k xss xss.length
  | 0, xss, k, j, _, h => by
    have : j = xss.length := by omega
    subst this
    have : (upT k xss).drop xss.length = [] := by rw [List.drop_eq_nil_iff]; simp
    rw [this]; rfl
  | n + 1, xss, k, j, hk, h => by
    have hj : j < xss.length := by omega
    have hd : (upT k xss).drop j = (upT k xss)[j]'(by simpa using hj) :: (upT k xss).drop (j + 1) := List.drop_eq_getElem_cons (by simpa using hj)
    have hg : (upT k xss)[j]'(by simpa using hj) = up (kAt k xss j) (xss[j]).length := by
      simp [upT, List.getD_eq_getElem?_getD, List.getElem?_eq_getElem hj]
    have hp : 0 ≤ kAt k xss j := by unfold kAt; omega
    rw [hd, hg, heldL, held_up, if_neg (by omega), ← kAt_succ k xss hj]
    exact heldL_up n xss k (j + 1) hk (by omega)
theorem heldL_all (xss : List (List Int)) (k : Int) (hk : 0 ≤ k) : heldL (upT k xss) k = kAt k xss xss.length := by
  have := heldL_up xss.length xss k 0 hk (by omega)
  rwa [kAt_zero, List.drop_zero] at this

theorem held_le : ∀ (xs : List Int) (k : Int), -1 ≤ k → -1 ≤ held xs k ∧ held xs k ≤ k + xs.length
  | [], k, h => by simp [held]; exact h
  | x :: xs, k, h => by
    unfold held
    split
    · have := held_le xs (k + 1) (by omega)
      simp only [List.length_cons]
      omega
    · simp only [List.length_cons]; omega

def S_heldT (pg : Pg) : Prop := ∀ (a : Rw (Rw Int)) (k : Int), small a → -1 ≤ k → k ≤ 2305843009213693952 → Call pg 24 [rawT a, I k] [rawT a, I k] (I (heldL ((lst a).map lst) k))
theorem t_heldT {pg : Pg} (hp : pg.fn 24 = some c_laws_heldInt64SS) (h13 : S_heldI pg) : S_heldT pg := by
  intro a k ⟨ha, hr⟩ h1 h2
  refine Call.intro hp rfl (by simp) ?_
  show wp _ _ c_laws_heldInt64SS.body (post [.t 4] _ _ _) _
  simp [c_laws_heldInt64SS]
  refine wpLoop_count (fun j e => ∃ k' : Int, -1 ≤ k' ∧ k' ≤ k + j * 1048576 ∧ heldL (((lst a).map lst).drop j) k' = heldL ((lst a).map lst) k ∧ e = fr [(0, some (.val (rawT a))), (1, some (.val (I k'))), (5, some (.val (I j)))]) (lst a).length ?_ ?_ 0 _ (by omega) ?_
  · rintro j e hj ⟨k', g1, g2, g3, rfl⟩
    have hd : ((lst a).map lst).drop j = lst (lst a)[j] :: ((lst a).map lst).drop (j + 1) := by
      rw [List.drop_eq_getElem_cons (by simpa using hj)]; simp
    rw [hd, heldL] at g3
    have h3 := held_le (lst (lst a)[j]) k' g1
    have h4 := hr _ (List.getElem_mem hj)
    simp [hj]
    refine callR (h13 _ _ h4 g1 (by omega)) rfl rfl (fun _ => rfl) ?_
    by_cases hn : held (lst (lst a)[j]) k' < 0
    · simp [hn]
      rw [if_pos hn] at g3
      exact g3
    · simp [hn]
      rw [if_neg hn] at g3
      exact ⟨by omega, held (lst (lst a)[j]) k', by omega, by omega, g3, rfl⟩
  · rintro e ⟨k', g1, g2, g3, rfl⟩
    simp
    rw [List.drop_of_length_le (by simp)] at g3
    exact g3
  · exact ⟨k, h1, by simp, by simp, by simp⟩

def S_markT (pg : Pg) : Prop := ∀ (a : Option (List (List Int))) (k : Int), smallT (lso a) → 0 ≤ k → k ≤ 2305843009213693952 → Call pg 23 [ownT a, I k] [ownT (a.map (upT k)), I k] (I (kAt k (lso a) (lso a).length))
theorem t_markT {pg : Pg} (hp : pg.fn 23 = some c_laws_markInt64SS) (h12 : S_markI pg) : S_markT pg := by
  intro a k ha h1 h2
  cases a with
  | none =>
    refine Call.intro hp rfl (by simp [ownT]) ?_
    show wp _ _ c_laws_markInt64SS.body (post [.t 4] _ _ _) _
    simp [c_laws_markInt64SS, ownT]
    refine wpLoop_count (fun j e => e = fr [(0, some (.val nil)), (1, some (.val (I k))), (5, some (.val (I 0)))]) 0 ?_ ?_ 0 _ (by omega) ?_
    · intro j e hj; omega
    · rintro e rfl
      simp [kAt]
    · simp
  | some xss =>
    simp only [lso_some] at ha
    refine Call.intro_own hp rfl rfl ?_
    show wp _ _ c_laws_markInt64SS.body (post [.t 4] _ _ _) _
    simp [c_laws_markInt64SS, ownT]
    refine wpLoop_count (fun j e => e = fr [(0, some (.val (.mem .own (some 1) (rows (uptoT k xss j))))), (1, some (.val (I (kAt k xss j)))), (5, some (.val (I j)))]) xss.length ?_ ?_ 0 _ (by omega) ?_
    · rintro j e hj rfl
      have hle := kAt_le (k := k) ha j (by omega)
      have hr := ha.2 _ (List.getElem_mem hj)
      have hl := ha.1
      have hg : (rows (uptoT k xss j))[j]? = some (.mem .own (some 1) ((xss[j]).map I)) := by
        rw [rows_get, List.getElem?_eq_getElem (by simpa using hj), uptoT_get k xss hj]; rfl
      simp [hj, uptoT_get]
      refine callM (ts' := [.mem .own (some 1) ((up (kAt k xss j) (xss[j]).length).map I), I (kAt k xss j)]) (r := I (kAt k xss j + xss[j].length)) ?_ ?_ ?_ ?_
      · simp [hj]
      · simpa using h12.at xss[j] (kAt k xss j) hr (by omega) (by omega)
      · simp
      · simp [hj, uptoT_set]
        refine ⟨by omega, ?_⟩
        rw [kAt_succ k xss hj]
    · rintro e rfl
      simp [uptoT_all]
    · simp [uptoT_zero, kAt_zero]

theorem S_markT.at {pg : Pg} (h : S_markT pg) (xss : List (List Int)) (k : Int) (h1 : smallT xss) (h2 : 0 ≤ k) (h3 : k ≤ 2305843009213693952) : Call pg 23 [.mem .own (some 1) (rows xss), I k] [.mem .own (some 1) (rows (upT k xss)), I k] (I (kAt k xss xss.length)) := h (some xss) k h1 h2 h3
def S_markSol (pg : Pg) : Prop := ∀ (xss yss : List (List Int)) (k : Int), smallT xss → smallT yss → 0 ≤ k → k ≤ 1152921504606846976 → Call pg 22 [.agg [.mem .own (some 1) (rows xss), .mem .own (some 1) (rows yss)], I k] [.agg [.mem .own (some 1) (rows (upT k xss)), .mem .own (some 1) (rows (upT (kAt k xss xss.length) yss))], I k] (I (kAt (kAt k xss xss.length) yss yss.length))
theorem t_markSol {pg : Pg} (hp : pg.fn 22 = some c_laws_markSolution) (h23 : S_markT pg) : S_markSol pg := by
  intro xss yss k ha hb h1 h2
  have hle := kAt_le (k := k) ha xss.length (by omega)
  have hxl := ha.1
  refine Call.intro_own hp rfl rfl ?_
  show wp _ _ c_laws_markSolution.body (post [.t 4] _ _ _) _
  simp [c_laws_markSolution]
  refine callM (ts' := [.mem .own (some 1) (rows (upT k xss)), I k]) (r := I (kAt k xss xss.length)) ?_ ?_ ?_ ?_
  · simp
  · simpa using h23.at xss k ha h1 (by omega)
  · simp
  · simp
    refine callM (ts' := [.mem .own (some 1) (rows (upT (kAt k xss xss.length) yss)), I (kAt k xss xss.length)]) (r := I (kAt (kAt k xss xss.length) yss yss.length)) ?_ ?_ ?_ ?_
    · simp
    · simpa using h23.at yss (kAt k xss xss.length) hb (by omega) (by omega)
    · simp
    · simp

end Go.Mch
/- Pair maps that are bijections and satisfy the equation. -/
namespace Go.Mch

/-- Two pairs, by number, that are led to the same one. -/
def coll (f s : List (List Int)) (a b : Nat) : Prop :=
  a ≠ b ∧ v2 f (a / f.length) (a % f.length) = v2 f (b / f.length) (b % f.length) ∧ v2 s (a / f.length) (a % f.length) = v2 s (b / f.length) (b % f.length)
def Inj (f s : List (List Int)) : Prop := ∀ a, a < f.length * f.length → ∀ b, b < f.length * f.length → ¬ coll f s a b
instance (f s : List (List Int)) (a b : Nat) : Decidable (coll f s a b) := by unfold coll; infer_instance
instance (f s : List (List Int)) : Decidable (Inj f s) := by unfold Inj; infer_instance

/-- What a pair map of tables has. -/
structure PM (f s : List (List Int)) : Prop where
  tf : Tab f
  ts : Tab s
  len : s.length = f.length
  pos : 0 < f.length
  small : f.length ≤ 12
theorem PM.of {f s : List (List Int)} (h : isPairMap f s) : PM f s := ⟨h.1.2.2, h.2.1.2.2, h.2.2.symm, h.1.1, h.1.2.1⟩

theorem dm_lt {n a : Nat} (h : a < n * n) : a / n < n ∧ a % n < n := by
  have hn : 0 < n := by
    rcases Nat.eq_zero_or_pos n with h0 | h0
    · subst h0; simp at h
    · exact h0
  exact ⟨Nat.div_lt_of_lt_mul h, Nat.mod_lt _ hn⟩

def S_coll57 (pg : Pg) : Prop := ∀ f s : List (List Int), PM f s → ∃ l : List Int, (l.length = 0 ↔ Inj f s) ∧ l.length ≤ 4 ∧ Call pg 57 [sol f s] [sol f s] (.mem .own (some 1) (l.map I))
set_option maxRecDepth 10000 in
theorem t_coll57 {pg : Pg} (hp : pg.fn 57 = some c_spec_l02Collision) : S_coll57 pg := by
  intro f s h
  have h0 := h.pos
  have h12 := h.small
  have h0' : f.length ≠ 0 := by omega
  have hsq : f.length * f.length ≤ 144 := Nat.mul_le_mul h12 h12
  have hsq' : ((f.length : Int) * f.length) ≤ 144 := by exact_mod_cast hsq
  have hsq0 : 0 ≤ ((f.length : Int) * f.length) := by exact_mod_cast Nat.zero_le _
  have fr' := fun x hx => h.tf.row (x := x) hx
  have sr' : ∀ x (hx : x < s.length), (s[x]).length = f.length := fun x hx => (h.ts.row hx).trans h.len
  have loop : ∀ (a b : Nat), a < f.length * f.length → b < f.length * f.length → coll f s a b → True := fun _ _ _ _ _ => trivial
  by_cases hex : ∃ a, a < f.length * f.length ∧ ∃ b, b < f.length * f.length ∧ coll f s a b
  · obtain ⟨a, ha, hb, hmin⟩ := least hex
    obtain ⟨b, hb, hc, hmin2⟩ := least hb
    have hni : ¬ Inj f s := fun hi => hi a ha b hb hc
    refine ⟨[((a / f.length : Nat) : Int), ((a % f.length : Nat) : Int), ((b / f.length : Nat) : Int), ((b % f.length : Nat) : Int)], by simp [hni], by simp, Call.intro hp rfl (by simp) ?_⟩
    show wp _ _ c_spec_l02Collision.body (post [.t 2] _ _ _) _
    simp [c_spec_l02Collision]
    refine wpLoop_count (fun k e => k ≤ a ∧ e = fr [(1, some (.val (.mem .own none [tb f, tb s]))), (3, some (.val (I f.length))), (4, some (.val (I k)))]) (f.length * f.length) ?_ ?_ 0 _ (by omega) ?_
    · rintro k e hk ⟨h1, rfl⟩
      have hk1 := dm_lt hk
      have hki : (k : Int) < (f.length : Int) * f.length := by exact_mod_cast hk
      have hq1 : 0 ≤ (k : Int) / f.length ∧ (k : Int) / f.length < f.length := ⟨by exact_mod_cast Nat.zero_le _, by exact_mod_cast hk1.1⟩
      have hr1 : 0 ≤ (k : Int) % f.length ∧ (k : Int) % f.length < f.length := ⟨by exact_mod_cast Nat.zero_le _, by exact_mod_cast hk1.2⟩
      have ht1 : ((k : Int) / f.length).toNat = k / f.length := by rw [← Int.natCast_ediv]; exact Int.toNat_natCast _
      have hu1 : ((k : Int) % f.length).toNat = k % f.length := by rw [← Int.natCast_emod]; exact Int.toNat_natCast _
      simp [hki]
      refine ⟨by omega, ?_⟩
      rcases Nat.lt_or_ge k a with hka | hka
      · refine wpLoop_count (fun j e => e = fr [(1, some (.val (.mem .own none [tb f, tb s]))), (3, some (.val (I f.length))), (4, some (.val (I k))), (5, some (.val (I j)))]) (f.length * f.length) ?_ ?_ 0 _ (by omega) ?_
        · rintro j e hj rfl
          have hj1 := dm_lt hj
          have hji : (j : Int) < (f.length : Int) * f.length := by exact_mod_cast hj
          have hq2 : 0 ≤ (j : Int) / f.length ∧ (j : Int) / f.length < f.length := ⟨by exact_mod_cast Nat.zero_le _, by exact_mod_cast hj1.1⟩
          have hr2 : 0 ≤ (j : Int) % f.length ∧ (j : Int) % f.length < f.length := ⟨by exact_mod_cast Nat.zero_le _, by exact_mod_cast hj1.2⟩
          have ht2 : ((j : Int) / f.length).toNat = j / f.length := by rw [← Int.natCast_ediv]; exact Int.toNat_natCast _
          have hu2 : ((j : Int) % f.length).toNat = j % f.length := by rw [← Int.natCast_emod]; exact Int.toNat_natCast _
          have hnc : ¬ coll f s k j := fun hcc => hmin k hka ⟨j, hj, hcc⟩
          by_cases hkj : k = j
          · subst hkj
            clear hj hj1 hnc
            simp [hji, h0', undefV]
            omega
          · have hkjI : (k : Int) ≠ j := by omega
            by_cases hv1 : v2 f (k / f.length) (k % f.length) = v2 f (j / f.length) (j % f.length)
            · by_cases hv2 : v2 s (k / f.length) (k % f.length) = v2 s (j / f.length) (j % f.length)
              · have hcc : coll f s k j := ⟨hkj, hv1, hv2⟩
                exact (hnc hcc).elim
              · simp [hkjI, hk1, hj1, hq1, hq2, hr1, hr2, ht1, ht2, hu1, hu2, hji, h0', fr', sr', h.len, get_v2, hv1, hv2]
                omega
            · simp [hkjI, hk1, hj1, hq1, hq2, hr1, hr2, ht1, ht2, hu1, hu2, hji, h0', fr', get_v2, undefV, hv1]
              omega
        · rintro e rfl
          simp
          omega
        · simp
      · have hka2 : k = a := by omega
        subst hka2
        refine wpLoop_count (fun j e => j ≤ b ∧ e = fr [(1, some (.val (.mem .own none [tb f, tb s]))), (3, some (.val (I f.length))), (4, some (.val (I k))), (5, some (.val (I j)))]) (f.length * f.length) ?_ ?_ 0 _ (by omega) ?_
        · rintro j e hj ⟨hjb, rfl⟩
          have hj1 := dm_lt hj
          have hji : (j : Int) < (f.length : Int) * f.length := by exact_mod_cast hj
          have hq2 : 0 ≤ (j : Int) / f.length ∧ (j : Int) / f.length < f.length := ⟨by exact_mod_cast Nat.zero_le _, by exact_mod_cast hj1.1⟩
          have hr2 : 0 ≤ (j : Int) % f.length ∧ (j : Int) % f.length < f.length := ⟨by exact_mod_cast Nat.zero_le _, by exact_mod_cast hj1.2⟩
          have ht2 : ((j : Int) / f.length).toNat = j / f.length := by rw [← Int.natCast_ediv]; exact Int.toNat_natCast _
          have hu2 : ((j : Int) % f.length).toNat = j % f.length := by rw [← Int.natCast_emod]; exact Int.toNat_natCast _
          rcases Nat.lt_or_ge j b with hlt | hge
          · have hnc : ¬ coll f s k j := hmin2 j hlt
            by_cases hkj : k = j
            · subst hkj
              clear hj hj1 hnc
              simp [hji, h0', undefV]
              omega
            · have hkjI : (k : Int) ≠ j := by omega
              by_cases hv1 : v2 f (k / f.length) (k % f.length) = v2 f (j / f.length) (j % f.length)
              · by_cases hv2 : v2 s (k / f.length) (k % f.length) = v2 s (j / f.length) (j % f.length)
                · have hcc : coll f s k j := ⟨hkj, hv1, hv2⟩
                  exact (hnc hcc).elim
                · simp [hkjI, hk1, hj1, hq1, hq2, hr1, hr2, ht1, ht2, hu1, hu2, hji, h0', fr', sr', h.len, get_v2, hv1, hv2]
                  omega
              · simp [hkjI, hk1, hj1, hq1, hq2, hr1, hr2, ht1, ht2, hu1, hu2, hji, h0', fr', get_v2, undefV, hv1]
                omega
          · have hjb2 : j = b := by omega
            subst hjb2
            obtain ⟨hkj, hv1, hv2⟩ := hc
            have hkjI : (k : Int) ≠ j := by omega
            simp [hkjI, hk1, hj1, hq1, hq2, hr1, hr2, ht1, ht2, hu1, hu2, hji, h0', fr', sr', h.len, get_v2, hv1, hv2]
            try omega
        · rintro e ⟨h1, rfl⟩
          omega
        · simp
    · rintro e ⟨h1, rfl⟩
      omega
    · simp
  · have hi : Inj f s := fun a ha b hb hc => hex ⟨a, ha, b, hb, hc⟩
    refine ⟨[], by simp [hi], by simp, Call.intro hp rfl (by simp) ?_⟩
    show wp _ _ c_spec_l02Collision.body (post [.t 2] _ _ _) _
    simp [c_spec_l02Collision]
    refine wpLoop_count (fun k e => e = fr [(1, some (.val (.mem .own none [tb f, tb s]))), (3, some (.val (I f.length))), (4, some (.val (I k)))]) (f.length * f.length) ?_ ?_ 0 _ (by omega) ?_
    · rintro k e hk rfl
      have hk1 := dm_lt hk
      have hki : (k : Int) < (f.length : Int) * f.length := by exact_mod_cast hk
      have hq1 : 0 ≤ (k : Int) / f.length ∧ (k : Int) / f.length < f.length := ⟨by exact_mod_cast Nat.zero_le _, by exact_mod_cast hk1.1⟩
      have hr1 : 0 ≤ (k : Int) % f.length ∧ (k : Int) % f.length < f.length := ⟨by exact_mod_cast Nat.zero_le _, by exact_mod_cast hk1.2⟩
      have ht1 : ((k : Int) / f.length).toNat = k / f.length := by rw [← Int.natCast_ediv]; exact Int.toNat_natCast _
      have hu1 : ((k : Int) % f.length).toNat = k % f.length := by rw [← Int.natCast_emod]; exact Int.toNat_natCast _
      simp [hki]
      refine ⟨by omega, ?_⟩
      refine wpLoop_count (fun j e => e = fr [(1, some (.val (.mem .own none [tb f, tb s]))), (3, some (.val (I f.length))), (4, some (.val (I k))), (5, some (.val (I j)))]) (f.length * f.length) ?_ ?_ 0 _ (by omega) ?_
      · rintro j e hj rfl
        have hj1 := dm_lt hj
        have hji : (j : Int) < (f.length : Int) * f.length := by exact_mod_cast hj
        have hq2 : 0 ≤ (j : Int) / f.length ∧ (j : Int) / f.length < f.length := ⟨by exact_mod_cast Nat.zero_le _, by exact_mod_cast hj1.1⟩
        have hr2 : 0 ≤ (j : Int) % f.length ∧ (j : Int) % f.length < f.length := ⟨by exact_mod_cast Nat.zero_le _, by exact_mod_cast hj1.2⟩
        have ht2 : ((j : Int) / f.length).toNat = j / f.length := by rw [← Int.natCast_ediv]; exact Int.toNat_natCast _
        have hu2 : ((j : Int) % f.length).toNat = j % f.length := by rw [← Int.natCast_emod]; exact Int.toNat_natCast _
        have hnc : ¬ coll f s k j := hi k hk j hj
        by_cases hkj : k = j
        · subst hkj
          clear hj hj1 hnc
          simp [hji, h0', undefV]
          omega
        · have hkjI : (k : Int) ≠ j := by omega
          by_cases hv1 : v2 f (k / f.length) (k % f.length) = v2 f (j / f.length) (j % f.length)
          · by_cases hv2 : v2 s (k / f.length) (k % f.length) = v2 s (j / f.length) (j % f.length)
            · have hcc : coll f s k j := ⟨hkj, hv1, hv2⟩
              exact (hnc hcc).elim
            · simp [hkjI, hk1, hj1, hq1, hq2, hr1, hr2, ht1, ht2, hu1, hu2, hji, h0', fr', sr', h.len, get_v2, hv1, hv2]
              omega
          · simp [hkjI, hk1, hj1, hq1, hq2, hr1, hr2, ht1, ht2, hu1, hu2, hji, h0', fr', get_v2, undefV, hv1]
            omega
      · rintro e rfl
        simp
        omega
      · simp
    · rintro e rfl
      simp
      try omega
    · simp

def S_coll60 (pg : Pg) : Prop := ∀ f s : List (List Int), PM f s → ∃ o : Option (List Int), (o = none ↔ Inj f s) ∧ Call pg 60 [sol f s] [sol f s] (ownI o)
set_option maxRecDepth 10000 in
theorem t_coll60 {pg : Pg} (hp : pg.fn 60 = some c_impl_collisionOf) : S_coll60 pg := by
  intro f s h
  have h0 := h.pos
  have h12 := h.small
  have h0' : f.length ≠ 0 := by omega
  have hsq : f.length * f.length ≤ 144 := Nat.mul_le_mul h12 h12
  have hsq' : ((f.length : Int) * f.length) ≤ 144 := by exact_mod_cast hsq
  have hsq0 : 0 ≤ ((f.length : Int) * f.length) := by exact_mod_cast Nat.zero_le _
  have fr' := fun x hx => h.tf.row (x := x) hx
  have sr' : ∀ x (hx : x < s.length), (s[x]).length = f.length := fun x hx => (h.ts.row hx).trans h.len
  have loop : ∀ (a b : Nat), a < f.length * f.length → b < f.length * f.length → coll f s a b → True := fun _ _ _ _ _ => trivial
  by_cases hex : ∃ a, a < f.length * f.length ∧ ∃ b, b < f.length * f.length ∧ coll f s a b
  · obtain ⟨a, ha, hb, hmin⟩ := least hex
    obtain ⟨b, hb, hc, hmin2⟩ := least hb
    have hni : ¬ Inj f s := fun hi => hi a ha b hb hc
    refine ⟨some [((a / f.length : Nat) : Int), ((a % f.length : Nat) : Int), ((b / f.length : Nat) : Int), ((b % f.length : Nat) : Int)], by simp [hni], Call.intro hp rfl (by simp) ?_⟩
    simp only [ownI]
    show wp _ _ c_impl_collisionOf.body (post [.t 2] _ _ _) _
    simp [c_impl_collisionOf]
    refine ⟨by omega, ?_⟩
    refine wpLoop_count (fun k e => k ≤ a ∧ e = fr [(1, some (.val (.mem .own none [tb f, tb s]))), (3, some (.val (I f.length))), (15, some (.val (I ((f.length : Int) * f.length)))), (16, some (.val (I k)))]) (f.length * f.length) ?_ ?_ 0 _ (by omega) ?_
    · rintro k e hk ⟨h1, rfl⟩
      have hk1 := dm_lt hk
      have hki : (k : Int) < (f.length : Int) * f.length := by exact_mod_cast hk
      have hq1 : 0 ≤ (k : Int) / f.length ∧ (k : Int) / f.length < f.length := ⟨by exact_mod_cast Nat.zero_le _, by exact_mod_cast hk1.1⟩
      have hr1 : 0 ≤ (k : Int) % f.length ∧ (k : Int) % f.length < f.length := ⟨by exact_mod_cast Nat.zero_le _, by exact_mod_cast hk1.2⟩
      have ht1 : ((k : Int) / f.length).toNat = k / f.length := by rw [← Int.natCast_ediv]; exact Int.toNat_natCast _
      have hu1 : ((k : Int) % f.length).toNat = k % f.length := by rw [← Int.natCast_emod]; exact Int.toNat_natCast _
      simp [hki, h0']
      refine ⟨by omega, by omega, ?_⟩
      rcases Nat.lt_or_ge k a with hka | hka
      · refine wpLoop_count (fun j e => e = fr [(1, some (.val (.mem .own none [tb f, tb s]))), (3, some (.val (I f.length))), (4, some (.val (I k))), (5, some (.val (I ((k / f.length : Nat) : Int)))), (6, some (.val (I ((k % f.length : Nat) : Int)))), (15, some (.val (I ((f.length : Int) * f.length)))), (16, some (.val (I k))), (27, some (.val (I ((f.length : Int) * f.length)))), (28, some (.val (I j)))]) (f.length * f.length) ?_ ?_ 0 _ (by omega) ?_
        · rintro j e hj rfl
          have hj1 := dm_lt hj
          have hji : (j : Int) < (f.length : Int) * f.length := by exact_mod_cast hj
          have hq2 : 0 ≤ (j : Int) / f.length ∧ (j : Int) / f.length < f.length := ⟨by exact_mod_cast Nat.zero_le _, by exact_mod_cast hj1.1⟩
          have hr2 : 0 ≤ (j : Int) % f.length ∧ (j : Int) % f.length < f.length := ⟨by exact_mod_cast Nat.zero_le _, by exact_mod_cast hj1.2⟩
          have ht2 : ((j : Int) / f.length).toNat = j / f.length := by rw [← Int.natCast_ediv]; exact Int.toNat_natCast _
          have hu2 : ((j : Int) % f.length).toNat = j % f.length := by rw [← Int.natCast_emod]; exact Int.toNat_natCast _
          have hnc : ¬ coll f s k j := fun hcc => hmin k hka ⟨j, hj, hcc⟩
          by_cases hkj : k = j
          · subst hkj
            clear hj hj1 hnc
            simp [hji, h0', undefV]
            omega
          · have hkjI : (k : Int) ≠ j := by omega
            by_cases hv1 : v2 f (k / f.length) (k % f.length) = v2 f (j / f.length) (j % f.length)
            · by_cases hv2 : v2 s (k / f.length) (k % f.length) = v2 s (j / f.length) (j % f.length)
              · have hcc : coll f s k j := ⟨hkj, hv1, hv2⟩
                exact (hnc hcc).elim
              · simp [hkjI, hk1, hj1, hq1, hq2, hr1, hr2, ht1, ht2, hu1, hu2, hji, h0', fr', sr', h.len, get_v2, hv1, hv2]
                omega
            · simp [hkjI, hk1, hj1, hq1, hq2, hr1, hr2, ht1, ht2, hu1, hu2, hji, h0', fr', get_v2, undefV, hv1]
              omega
        · rintro e rfl
          simp
          omega
        · simp
      · have hka2 : k = a := by omega
        subst hka2
        refine wpLoop_count (fun j e => j ≤ b ∧ e = fr [(1, some (.val (.mem .own none [tb f, tb s]))), (3, some (.val (I f.length))), (4, some (.val (I k))), (5, some (.val (I ((k / f.length : Nat) : Int)))), (6, some (.val (I ((k % f.length : Nat) : Int)))), (15, some (.val (I ((f.length : Int) * f.length)))), (16, some (.val (I k))), (27, some (.val (I ((f.length : Int) * f.length)))), (28, some (.val (I j)))]) (f.length * f.length) ?_ ?_ 0 _ (by omega) ?_
        · rintro j e hj ⟨hjb, rfl⟩
          have hj1 := dm_lt hj
          have hji : (j : Int) < (f.length : Int) * f.length := by exact_mod_cast hj
          have hq2 : 0 ≤ (j : Int) / f.length ∧ (j : Int) / f.length < f.length := ⟨by exact_mod_cast Nat.zero_le _, by exact_mod_cast hj1.1⟩
          have hr2 : 0 ≤ (j : Int) % f.length ∧ (j : Int) % f.length < f.length := ⟨by exact_mod_cast Nat.zero_le _, by exact_mod_cast hj1.2⟩
          have ht2 : ((j : Int) / f.length).toNat = j / f.length := by rw [← Int.natCast_ediv]; exact Int.toNat_natCast _
          have hu2 : ((j : Int) % f.length).toNat = j % f.length := by rw [← Int.natCast_emod]; exact Int.toNat_natCast _
          rcases Nat.lt_or_ge j b with hlt | hge
          · have hnc : ¬ coll f s k j := hmin2 j hlt
            by_cases hkj : k = j
            · subst hkj
              clear hj hj1 hnc
              simp [hji, h0', undefV]
              omega
            · have hkjI : (k : Int) ≠ j := by omega
              by_cases hv1 : v2 f (k / f.length) (k % f.length) = v2 f (j / f.length) (j % f.length)
              · by_cases hv2 : v2 s (k / f.length) (k % f.length) = v2 s (j / f.length) (j % f.length)
                · have hcc : coll f s k j := ⟨hkj, hv1, hv2⟩
                  exact (hnc hcc).elim
                · simp [hkjI, hk1, hj1, hq1, hq2, hr1, hr2, ht1, ht2, hu1, hu2, hji, h0', fr', sr', h.len, get_v2, hv1, hv2]
                  omega
              · simp [hkjI, hk1, hj1, hq1, hq2, hr1, hr2, ht1, ht2, hu1, hu2, hji, h0', fr', get_v2, undefV, hv1]
                omega
          · have hjb2 : j = b := by omega
            subst hjb2
            obtain ⟨hkj, hv1, hv2⟩ := hc
            have hkjI : (k : Int) ≠ j := by omega
            simp [hkjI, hk1, hj1, hq1, hq2, hr1, hr2, ht1, ht2, hu1, hu2, hji, h0', fr', sr', h.len, get_v2, hv1, hv2]
            try omega
        · rintro e ⟨h1, rfl⟩
          omega
        · simp
    · rintro e ⟨h1, rfl⟩
      omega
    · simp
  · have hi : Inj f s := fun a ha b hb hc => hex ⟨a, ha, b, hb, hc⟩
    refine ⟨none, by simp [hi], Call.intro hp rfl (by simp) ?_⟩
    simp only [ownI]
    show wp _ _ c_impl_collisionOf.body (post [.t 2] _ _ _) _
    simp [c_impl_collisionOf]
    refine ⟨by omega, ?_⟩
    refine wpLoop_count (fun k e => e = fr [(1, some (.val (.mem .own none [tb f, tb s]))), (3, some (.val (I f.length))), (15, some (.val (I ((f.length : Int) * f.length)))), (16, some (.val (I k)))]) (f.length * f.length) ?_ ?_ 0 _ (by omega) ?_
    · rintro k e hk rfl
      have hk1 := dm_lt hk
      have hki : (k : Int) < (f.length : Int) * f.length := by exact_mod_cast hk
      have hq1 : 0 ≤ (k : Int) / f.length ∧ (k : Int) / f.length < f.length := ⟨by exact_mod_cast Nat.zero_le _, by exact_mod_cast hk1.1⟩
      have hr1 : 0 ≤ (k : Int) % f.length ∧ (k : Int) % f.length < f.length := ⟨by exact_mod_cast Nat.zero_le _, by exact_mod_cast hk1.2⟩
      have ht1 : ((k : Int) / f.length).toNat = k / f.length := by rw [← Int.natCast_ediv]; exact Int.toNat_natCast _
      have hu1 : ((k : Int) % f.length).toNat = k % f.length := by rw [← Int.natCast_emod]; exact Int.toNat_natCast _
      simp [hki, h0']
      refine ⟨by omega, by omega, ?_⟩
      refine wpLoop_count (fun j e => e = fr [(1, some (.val (.mem .own none [tb f, tb s]))), (3, some (.val (I f.length))), (4, some (.val (I k))), (5, some (.val (I ((k / f.length : Nat) : Int)))), (6, some (.val (I ((k % f.length : Nat) : Int)))), (15, some (.val (I ((f.length : Int) * f.length)))), (16, some (.val (I k))), (27, some (.val (I ((f.length : Int) * f.length)))), (28, some (.val (I j)))]) (f.length * f.length) ?_ ?_ 0 _ (by omega) ?_
      · rintro j e hj rfl
        have hj1 := dm_lt hj
        have hji : (j : Int) < (f.length : Int) * f.length := by exact_mod_cast hj
        have hq2 : 0 ≤ (j : Int) / f.length ∧ (j : Int) / f.length < f.length := ⟨by exact_mod_cast Nat.zero_le _, by exact_mod_cast hj1.1⟩
        have hr2 : 0 ≤ (j : Int) % f.length ∧ (j : Int) % f.length < f.length := ⟨by exact_mod_cast Nat.zero_le _, by exact_mod_cast hj1.2⟩
        have ht2 : ((j : Int) / f.length).toNat = j / f.length := by rw [← Int.natCast_ediv]; exact Int.toNat_natCast _
        have hu2 : ((j : Int) % f.length).toNat = j % f.length := by rw [← Int.natCast_emod]; exact Int.toNat_natCast _
        have hnc : ¬ coll f s k j := hi k hk j hj
        by_cases hkj : k = j
        · subst hkj
          clear hj hj1 hnc
          simp [hji, h0', undefV]
          omega
        · have hkjI : (k : Int) ≠ j := by omega
          by_cases hv1 : v2 f (k / f.length) (k % f.length) = v2 f (j / f.length) (j % f.length)
          · by_cases hv2 : v2 s (k / f.length) (k % f.length) = v2 s (j / f.length) (j % f.length)
            · have hcc : coll f s k j := ⟨hkj, hv1, hv2⟩
              exact (hnc hcc).elim
            · simp [hkjI, hk1, hj1, hq1, hq2, hr1, hr2, ht1, ht2, hu1, hu2, hji, h0', fr', sr', h.len, get_v2, hv1, hv2]
              omega
          · simp [hkjI, hk1, hj1, hq1, hq2, hr1, hr2, ht1, ht2, hu1, hu2, hji, h0', fr', get_v2, undefV, hv1]
            omega
      · rintro e rfl
        simp
        omega
      · simp
    · rintro e rfl
      simp
      try omega
    · simp


end Go.Mch
/- The equation of solutions, as the reference and the program test it. -/
namespace Go.Mch

/-- The value of a table at numbers. -/
def g2 (t : List (List Int)) (x y : Int) : Int := v2 t x.toNat y.toNat
theorem get_g2 {t : List (List Int)} {x y : Int} (hx : x.toNat < t.length) (hy : y.toNat < (t[x.toNat]).length) : (t[x.toNat])[y.toNat] = g2 t x y := get_v2 hx hy
def inN (n : Nat) (w : List Int) : Prop := ∀ x ∈ w, 0 ≤ x ∧ x < n
theorem PM.gF {f s : List (List Int)} (h : PM f s) (x y : Int) : 0 ≤ g2 f x y ∧ g2 f x y < f.length := ⟨h.tf.nonneg _ _, h.tf.lt h.pos _ _⟩
theorem PM.gS {f s : List (List Int)} (h : PM f s) (x y : Int) : 0 ≤ g2 s x y ∧ g2 s x y < f.length := ⟨h.ts.nonneg _ _, by have := h.ts.lt (by rw [h.len]; exact h.pos) x.toNat y.toNat; rw [h.len] at this; exact this⟩

/-- A word, moved at a place. -/
def dW (f s : List (List Int)) (w : List Int) (i : Nat) : List Int :=
  (w.set i (g2 f (w.getD i 0) (w.getD (i + 1) 0))).set (i + 1) (g2 s (w.getD i 0) (w.getD (i + 1) 0))
@[simp] theorem dW_length (f s : List (List Int)) (w : List Int) (i : Nat) : (dW f s w i).length = w.length := by simp [dW]
theorem set_in {n : Nat} {w : List Int} (h : inN n w) {i : Nat} {v : Int} (hv : 0 ≤ v ∧ v < n) : inN n (w.set i v) := by
  intro x hx
  rcases List.mem_or_eq_of_mem_set hx with h1 | h1
  · exact h x h1
  · rw [h1]; exact hv
theorem dW_in {f s : List (List Int)} (h : PM f s) {w : List Int} (hw : inN f.length w) (i : Nat) : inN f.length (dW f s w i) := set_in (set_in hw (h.gF _ _)) (h.gS _ _)

def S_do (pg : Pg) (n : Nat) : Prop := ∀ (f s : List (List Int)) (w : List Int) (i : Nat), PM f s → i + 1 < w.length → w.length ≤ 1048576 → inN f.length w →
  Call pg n [sol f s, ix w, I i] [sol f s, ix w, I i] (.mem .own (some 1) ((dW f s w i).map I))
set_option maxRecDepth 10000 in
theorem do_of {pg : Pg} {n : Nat} (hp : pg.fn n = some c_spec_l02Do) (h31 : S_own pg) : S_do pg n := by
  intro f s w i h hi hl hw
  refine Call.intro hp rfl (by simp) ?_
  show wp _ _ c_spec_l02Do.body (post [.t 6] _ _ _) _
  have h1 := hw _ (List.getElem_mem (show i < w.length by omega))
  have h2 := hw _ (List.getElem_mem hi)
  have fr' := fun x hx => h.tf.row (x := x) hx
  have sr' : ∀ x (hx : x < s.length), (s[x]).length = f.length := fun x hx => (h.ts.row hx).trans h.len
  have hi0 : i < w.length := by omega
  have hiI : (i : Int) + 1 < w.length := by omega
  have e1 : ((i : Int) + 1).toNat = i + 1 := by omega
  have t1 : (w[i]).toNat < f.length := by omega
  have t2 : (w[i + 1]).toNat < f.length := by omega
  have hb : -9223372036854775808 ≤ (i : Int) + 1 ∧ (i : Int) + 1 ≤ 9223372036854775807 := by omega
  have hb0 : 0 ≤ (i : Int) + 1 := by omega
  simp [c_spec_l02Do]
  refine callR (h31 _ hl) rfl rfl (fun _ => by simp) ?_
  simp [hi, hb, hb0, hi0, hiI, e1, h1, h2, t1, t2, fr', sr', h.len, get_g2]
  refine ⟨by omega, by omega, ?_⟩
  simp [dW, hi0, hi]

/-- The equation at three numbers, and everywhere. -/
def ybAt (f s : List (List Int)) (x y z : Nat) : Prop := dW f s (dW f s (dW f s [(x : Int), y, z] 0) 1) 0 = dW f s (dW f s (dW f s [(x : Int), y, z] 1) 0) 1
def YB (f s : List (List Int)) : Prop := ∀ x y z : Nat, x < f.length → y < f.length → z < f.length → ybAt f s x y z
instance (f s : List (List Int)) (x y z : Nat) : Decidable (ybAt f s x y z) := by unfold ybAt; infer_instance

theorem first3 (P : Nat → Nat → Nat → Prop) (n : Nat) : (∀ x y z, x < n → y < n → z < n → ¬ P x y z) ∨
    ∃ a b c, a < n ∧ b < n ∧ c < n ∧ P a b c ∧ ∀ x y z, x < n → y < n → z < n → P x y z → a < x ∨ (a = x ∧ (b < y ∨ (b = y ∧ c ≤ z))) := by
  by_cases h : ∃ a, a < n ∧ ∃ b, b < n ∧ ∃ c, c < n ∧ P a b c
  · right
    obtain ⟨a, ha, hb, h1⟩ := least h
    obtain ⟨b, hb, hc, h2⟩ := least hb
    obtain ⟨c, hc, hp, h3⟩ := least hc
    refine ⟨a, b, c, ha, hb, hc, hp, fun x y z hx hy hz hq => ?_⟩
    rcases Nat.lt_trichotomy a x with g | g | g
    · exact .inl g
    · subst g
      right
      refine ⟨rfl, ?_⟩
      rcases Nat.lt_trichotomy b y with g | g | g
      · exact .inl g
      · subst g
        right
        refine ⟨rfl, ?_⟩
        rcases Nat.lt_or_ge z c with g | g
        · exact absurd hq (h3 z g)
        · exact g
      · exact absurd ⟨z, hz, hq⟩ (h2 y g)
    · exact absurd ⟨y, hy, z, hz, hq⟩ (h1 x g)
  · left
    intro x y z hx hy hz hp
    exact h ⟨x, hx, y, hy, z, hz, hp⟩

/-- The first three numbers at which the equation fails; or the size, where it holds. -/
theorem fault (f s : List (List Int)) : ∃ (a b c : Nat) (l : List Int), (l.length = 0 ↔ YB f s) ∧ (a < f.length → l = [(a : Int), b, c] ∧ b < f.length ∧ c < f.length ∧ ¬ ybAt f s a b c) ∧ (¬ a < f.length → a = f.length ∧ l = []) ∧ l.length ≤ 3 ∧
    ∀ x y z, x < f.length → y < f.length → z < f.length → ¬ ybAt f s x y z → a < x ∨ (a = x ∧ (b < y ∨ (b = y ∧ c ≤ z))) := by
  rcases first3 (fun x y z => ¬ ybAt f s x y z) f.length with h | ⟨a, b, c, ha, hb, hc, hp, h⟩
  · refine ⟨f.length, 0, 0, [], ⟨fun _ x y z hx hy hz => ?_, fun _ => rfl⟩, fun h => absurd h (Nat.lt_irrefl _), fun _ => ⟨rfl, rfl⟩, by simp, fun x y z hx hy hz hn => absurd hn (h x y z hx hy hz)⟩
    exact Decidable.of_not_not (h x y z hx hy hz)
  · exact ⟨a, b, c, [(a : Int), b, c], ⟨fun h => by simp at h, fun h => absurd (h a b c ha hb hc) hp⟩, fun _ => ⟨rfl, hb, hc, hp⟩, fun h => absurd ha h, by simp, h⟩

def S_fault58 (pg : Pg) : Prop := ∀ f s : List (List Int), PM f s → ∃ l : List Int, (l.length = 0 ↔ YB f s) ∧ l.length ≤ 3 ∧ Call pg 58 [sol f s] [sol f s] (.mem .own (some 1) (l.map I))

theorem w3_in {n x y z : Nat} (hx : x < n) (hy : y < n) (hz : z < n) : inN n [(x : Int), y, z] := by
  intro v hv
  simp at hv
  omega

set_option maxRecDepth 10000 in
theorem t_fault58 {pg : Pg} (hp : pg.fn 58 = some c_spec_l02Fault) (h68 : S_do pg 68) (h67 : S_same pg) : S_fault58 pg := by
  intro f s h
  obtain ⟨a, b, c, l, hl, hf1, hf2, hf3, hmin⟩ := fault f s
  have h0 := h.pos
  have h12 := h.small
  refine ⟨l, hl, hf3, Call.intro hp rfl (by simp) ?_⟩
  show wp _ _ c_spec_l02Fault.body (post [.t 2] _ _ _) _
  simp [c_spec_l02Fault]
  refine wpLoop_count (fun x e => x ≤ a ∧ e = fr [(1, some (.val (.mem .own none [tb f, tb s]))), (3, some (.val (I f.length))), (4, some (.val (I x)))]) f.length ?_ ?_ 0 _ (by omega) ?_
  · rintro x e hx ⟨hxa, rfl⟩
    simp [hx]
    refine wpLoop_count (fun y e => (x = a → y ≤ b) ∧ e = fr [(1, some (.val (.mem .own none [tb f, tb s]))), (3, some (.val (I f.length))), (4, some (.val (I x))), (5, some (.val (I y)))]) f.length ?_ ?_ 0 _ (by omega) ?_
    · rintro y e hy ⟨hyb, rfl⟩
      simp [hy]
      refine wpLoop_count (fun z e => (x = a → y = b → z ≤ c) ∧ e = fr [(1, some (.val (.mem .own none [tb f, tb s]))), (3, some (.val (I f.length))), (4, some (.val (I x))), (5, some (.val (I y))), (6, some (.val (I z)))]) f.length ?_ ?_ 0 _ (by omega) ?_
      · rintro z e hz ⟨hzc, rfl⟩
        have hw := w3_in hx hy hz
        have d1 := dW_in h hw 0
        have d2 := dW_in h d1 1
        have d3 := dW_in h hw 1
        have d4 := dW_in h d3 0
        simp [hz]
        refine callR (h68 f s [(x : Int), y, z] 0 h (by simp) (by simp) hw) rfl rfl (fun _ => by simp) ?_
        simp
        refine callR (h68 f s _ 1 h (by simp) (by simp) d1) rfl rfl (fun _ => by simp) ?_
        simp
        refine callR (h68 f s _ 0 h (by simp) (by simp) d2) rfl rfl (fun _ => by simp) ?_
        simp
        refine callR (h68 f s [(x : Int), y, z] 1 h (by simp) (by simp) hw) rfl rfl (fun _ => by simp) ?_
        simp
        refine callR (h68 f s _ 0 h (by simp) (by simp) d3) rfl rfl (fun _ => by simp) ?_
        simp
        refine callR (h68 f s _ 1 h (by simp) (by simp) d4) rfl rfl (fun _ => by simp) ?_
        simp
        refine callR (h67 _ _ (by simp)) rfl rfl (fun _ => rfl) ?_
        by_cases hy2 : ybAt f s x y z
        · have hy3 := hy2
          unfold ybAt at hy3
          simp [hy3]
          have : ¬ (x = a ∧ y = b ∧ z = c) := fun ⟨e1, e2, e3⟩ => by
            subst e1 e2 e3
            exact (hf1 hx).2.2.2 hy2
          omega
        · have hy3 := hy2
          unfold ybAt at hy3
          have := hmin x y z hx hy hz hy2
          have e1 : x = a := by omega
          subst e1
          have e2 : y = b := by have := hyb rfl; omega
          subst e2
          have e3 : z = c := by have := hzc rfl rfl; omega
          subst e3
          simp [hy3, (hf1 hx).1]
      · rintro e ⟨hzc, rfl⟩
        simp
        have : ¬ (x = a ∧ y = b) := fun ⟨e1, e2⟩ => by
          have := hzc e1 e2
          have := (hf1 (by omega)).2.2.1
          omega
        omega
      · simp
    · rintro e ⟨hyb, rfl⟩
      simp
      have : ¬ x = a := fun e1 => by
        have := hyb e1
        have := (hf1 (by omega)).2.1
        omega
      omega
    · simp
  · rintro e ⟨h1, rfl⟩
    simp [(hf2 (by omega)).2]
  · simp

theorem yb_v2 (f s : List (List Int)) (x y z : Nat) : ybAt f s x y z ↔
    (v2 f (v2 f x y).toNat (v2 f (v2 s x y).toNat z).toNat = v2 f x (v2 f y z).toNat ∧
     v2 s (v2 f x y).toNat (v2 f (v2 s x y).toNat z).toNat = v2 f (v2 s x (v2 f y z).toNat).toNat (v2 s y z).toNat ∧
     v2 s (v2 s x y).toNat z = v2 s (v2 s x (v2 f y z).toNat).toNat (v2 s y z).toNat) := by
  simp [ybAt, dW, g2]

def S_fault61 (pg : Pg) : Prop := ∀ f s : List (List Int), PM f s → ∃ o : Option (List Int), (o = none ↔ YB f s) ∧ Call pg 61 [sol f s] [sol f s] (ownI o)
set_option maxRecDepth 10000 in
theorem t_fault61 {pg : Pg} (hp : pg.fn 61 = some c_impl_equationFault) : S_fault61 pg := by
  intro f s h
  obtain ⟨a, b, c, l, hl, hf1, hf2, hf3, hmin⟩ := fault f s
  have h0 := h.pos
  have h12 := h.small
  have fr' := fun x hx => h.tf.row (x := x) hx
  have sr' : ∀ x (hx : x < s.length), (s[x]).length = f.length := fun x hx => (h.ts.row hx).trans h.len
  have hF0 : ∀ i j, 0 ≤ v2 f i j := h.tf.nonneg
  have hF1 : ∀ i j, v2 f i j < f.length := h.tf.lt h0
  have hF2 : ∀ i j, (v2 f i j).toNat < f.length := h.tf.ltN h0
  have hS0 : ∀ i j, 0 ≤ v2 s i j := h.ts.nonneg
  have hS1 : ∀ i j, v2 s i j < f.length := fun i j => by have := h.ts.lt (by rw [h.len]; exact h0) i j; rw [h.len] at this; exact this
  have hS2 : ∀ i j, (v2 s i j).toNat < f.length := fun i j => by have := hS0 i j; have := hS1 i j; omega
  refine ⟨if a < f.length then some l else none, ?_, Call.intro hp rfl (by simp) ?_⟩
  · by_cases ha : a < f.length
    · have h1 := (hf1 ha).1
      rw [← hl, if_pos ha, h1]
      simp
    · have h1 := (hf2 ha).2
      rw [← hl, if_neg ha, h1]
      simp
  show wp _ _ c_impl_equationFault.body (post [.t 2] _ _ _) _
  simp [c_impl_equationFault]
  refine wpLoop_count (fun x e => x ≤ a ∧ e = fr [(1, some (.val (.mem .own none [tb f, tb s]))), (3, some (.val (I f.length))), (16, some (.val (I f.length))), (17, some (.val (I x)))]) f.length ?_ ?_ 0 _ (by omega) ?_
  · rintro x e hx ⟨hxa, rfl⟩
    simp [hx]
    refine wpLoop_count (fun y e => (x = a → y ≤ b) ∧ e = fr [(1, some (.val (.mem .own none [tb f, tb s]))), (3, some (.val (I f.length))), (4, some (.val (I x))), (16, some (.val (I f.length))), (17, some (.val (I x))), (20, some (.val (I f.length))), (21, some (.val (I y)))]) f.length ?_ ?_ 0 _ (by omega) ?_
    · rintro y e hy ⟨hyb, rfl⟩
      simp [hy]
      refine wpLoop_count (fun z e => (x = a → y = b → z ≤ c) ∧ e = fr [(1, some (.val (.mem .own none [tb f, tb s]))), (3, some (.val (I f.length))), (4, some (.val (I x))), (5, some (.val (I y))), (16, some (.val (I f.length))), (17, some (.val (I x))), (20, some (.val (I f.length))), (21, some (.val (I y))), (24, some (.val (I f.length))), (25, some (.val (I z)))]) f.length ?_ ?_ 0 _ (by omega) ?_
      · rintro z e hz ⟨hzc, rfl⟩
        have hyb2 := yb_v2 f s x y z
        simp [hx, hy, hz, fr', sr', h.len, get_v2, hF0, hF1, hF2, hS0, hS1, hS2]
        have bad : ¬ ybAt f s x y z → x = a ∧ y = b ∧ z = c := fun hn => by
          have := hmin x y z hx hy hz hn
          have e1 : x = a := by omega
          have e2 : y = b := by have := hyb e1; omega
          have e3 : z = c := by have := hzc e1 e2; omega
          exact ⟨e1, e2, e3⟩
        by_cases e1 : v2 f (v2 f x y).toNat (v2 f (v2 s x y).toNat z).toNat = v2 f x (v2 f y z).toNat
        · by_cases e2 : v2 s (v2 f x y).toNat (v2 f (v2 s x y).toNat z).toNat = v2 f (v2 s x (v2 f y z).toNat).toNat (v2 s y z).toNat
          · by_cases e3 : v2 s (v2 s x y).toNat z = v2 s (v2 s x (v2 f y z).toNat).toNat (v2 s y z).toNat
            · simp [e1, e2, e3]
              have : ¬ (x = a ∧ y = b ∧ z = c) := fun ⟨g1, g2, g3⟩ => by
                subst g1 g2 g3
                exact (hf1 hx).2.2.2 (hyb2.2 ⟨e1, e2, e3⟩)
              omega
            · obtain ⟨g1, g2, g3⟩ := bad fun hh => e3 (hyb2.1 hh).2.2
              subst g1 g2 g3
              simp [e1, e2, e3, hx, (hf1 hx).1, ownI]
          · obtain ⟨g1, g2, g3⟩ := bad fun hh => e2 (hyb2.1 hh).2.1
            subst g1 g2 g3
            simp [e1, e2, undefV, hx, (hf1 hx).1, ownI]
        · obtain ⟨g1, g2, g3⟩ := bad fun hh => e1 (hyb2.1 hh).1
          subst g1 g2 g3
          simp [e1, undefV, hx, (hf1 hx).1, ownI]
      · rintro e ⟨hzc, rfl⟩
        simp
        have : ¬ (x = a ∧ y = b) := fun ⟨e1, e2⟩ => by
          have := hzc e1 e2
          have := (hf1 (by omega)).2.2.1
          omega
        omega
      · simp
    · rintro e ⟨hyb, rfl⟩
      simp
      have : ¬ x = a := fun e1 => by
        have := hyb e1
        have := (hf1 (by omega)).2.1
        omega
      omega
    · simp
  · rintro e ⟨h1, rfl⟩
    have h2 : ¬ a < f.length := by omega
    simp [h2, ownI]
  · simp

def isSol (f s : List (List Int)) : Prop := isPairMap f s ∧ Inj f s ∧ YB f s

/-- A sentence that is decided somehow. -/
noncomputable def dec (p : Prop) : Bool := @decide p (Classical.propDecidable p)
theorem dec_true {p : Prop} (h : p) : dec p = true := by simp [dec, h]
theorem dec_false {p : Prop} (h : ¬ p) : dec p = false := by simp [dec, h]

def S_isSol (pg : Pg) (n : Nat) : Prop := ∀ f s : List (List Int), fits f → fits s → Call pg n [sol f s] [sol f s] (B (dec (isSol f s)))
theorem t_l02Is {pg : Pg} (hp : pg.fn 41 = some c_spec_l02Is) (h56 : S_pairMap pg 56) (h57 : S_coll57 pg) (h58 : S_fault58 pg) : S_isSol pg 41 := by
  intro f s hf hs
  refine Call.intro hp rfl (by simp) ?_
  show wp _ _ c_spec_l02Is.body (post [.t 2] _ _ _) _
  simp [c_spec_l02Is]
  refine callR (h56 f s hf hs) rfl rfl (fun _ => rfl) ?_
  by_cases h1 : isPairMap f s
  · have hpm := PM.of h1
    obtain ⟨l, hl, hl2, hc⟩ := h57 f s hpm
    simp [h1]
    refine callR hc rfl rfl (fun _ => by simp) ?_
    by_cases h2 : Inj f s
    · have h3 := hl.2 h2
      obtain ⟨l2, hm, hm2, hc2⟩ := h58 f s hpm
      simp [h3]
      refine callR hc2 rfl rfl (fun _ => by simp) ?_
      by_cases h4 : YB f s
      · have h5 := hm.2 h4
        simp [h5, dec_true (show isSol f s from ⟨h1, h2, h4⟩)]
      · have h5 : ¬ l2.length = 0 := fun h => h4 (hm.1 h)
        have h6 : ¬ ((l2.length : Nat) : Int) = 0 := by omega
        simp [h5, dec_false (show ¬ isSol f s from fun h => h4 h.2.2)]
    · have h3 : ¬ l.length = 0 := fun h => h2 (hl.1 h)
      have h6 : ¬ ((l.length : Nat) : Int) = 0 := by omega
      simp [h3, undefV, dec_false (show ¬ isSol f s from fun h => h2 h.2.1)]
  · simp [h1, undefV, dec_false (show ¬ isSol f s from fun h => h1 h.1)]

theorem t_IsSolution {pg : Pg} (hp : pg.fn 42 = some c_impl_IsSolution) (h59 : S_pairMap pg 59) (h60 : S_coll60 pg) (h61 : S_fault61 pg) : S_isSol pg 42 := by
  intro f s hf hs
  refine Call.intro hp rfl (by simp) ?_
  show wp _ _ c_impl_IsSolution.body (post [.t 2] _ _ _) _
  simp [c_impl_IsSolution]
  refine callR (h59 f s hf hs) rfl rfl (fun _ => rfl) ?_
  by_cases h1 : isPairMap f s
  · have hpm := PM.of h1
    obtain ⟨l, hl, hc⟩ := h60 f s hpm
    simp [h1]
    refine callR hc rfl rfl (fun _ => by cases l <;> simp [ownI]) ?_
    by_cases h2 : Inj f s
    · have h3 := hl.2 h2
      subst h3
      obtain ⟨l2, hm, hc2⟩ := h61 f s hpm
      simp [ownI]
      refine callR hc2 rfl rfl (fun _ => by cases l2 <;> simp [ownI]) ?_
      by_cases h4 : YB f s
      · have h5 := hm.2 h4
        subst h5
        simp [ownI, dec_true (show isSol f s from ⟨h1, h2, h4⟩)]
      · cases l2 with
        | none => exact absurd (hm.1 rfl) h4
        | some l2 => simp [ownI, dec_false (show ¬ isSol f s from fun h => h4 h.2.2)]
    · cases l with
      | none => exact absurd (hl.1 rfl) h2
      | some l => simp [ownI, undefV, dec_false (show ¬ isSol f s from fun h => h2 h.2.1)]
  · simp [h1, undefV, dec_false (show ¬ isSol f s from fun h => h1 h.1)]
end Go.Mch
/- FixedPairs, of the reference and of the program. -/
namespace Go.Mch

theorem rows_append (a b : List (List Int)) : rows (a ++ b) = rows a ++ rows b := by simp [rows]

end Go.Mch
/- The law of FixedPairs. -/
namespace Go.Mch

/-- An own table or nil, as one that is only read. -/
def eT : Option (List (List Int)) → T
  | none => nil
  | some X => tb X
def ryT (o : Option (List (List Int))) : Rw (Rw Int) := Rw.ofO (o.map fun X => X.map .of)
theorem rawT_ry (o : Option (List (List Int))) : rawT (ryT o) = eT o := by
  cases o with
  | none => rfl
  | some X => exact rawT_tb X
theorem map_lst_of {α : Type} (X : List (List α)) : (X.map Rw.of).map lst = X := by simp [Function.comp_def]
theorem lst_ry (o : Option (List (List Int))) : (lst (ryT o)).map lst = lso o := by
  cases o with
  | none => rfl
  | some X => exact map_lst_of X
theorem small_ry {o : Option (List (List Int))} (h : smallT (lso o)) : small (ryT o) := by
  cases o with
  | none => exact ⟨by simp [ryT, Rw.ofO, lst], by simp [ryT, Rw.ofO, lst]⟩
  | some X => exact ⟨by simpa [ryT, Rw.ofO] using h.1, by simpa [ryT, Rw.ofO] using h.2⟩
theorem S_eqT.o {pg : Pg} (h : S_eqT pg) (o o' : Option (List (List Int))) (hs : smallT (lso o)) : Call pg 21 [eT o, eT o'] [eT o, eT o'] (B (decide (lso o = lso o'))) := by
  have := h (ryT o) (ryT o') (small_ry hs)
  simp only [rawT_ry, lst_ry] at this
  exact this
theorem S_heldT.o {pg : Pg} (h : S_heldT pg) (o : Option (List (List Int))) (k : Int) (hs : smallT (lso o)) (h1 : -1 ≤ k) (h2 : k ≤ 2305843009213693952) : Call pg 24 [eT o, I k] [eT o, I k] (I (heldL (lso o) k)) := by
  have := h (ryT o) k (small_ry hs) h1 h2
  simp only [rawT_ry, lst_ry] at this
  exact this
theorem S_eqSol.o {pg : Pg} (h : S_eqSol pg) (X Y Z W : List (List Int)) (hX : smallT X) (hY : smallT Y) : Call pg 18 [.agg [tb X, tb Y], .agg [tb Z, tb W]] [.agg [tb X, tb Y], .agg [tb Z, tb W]] (B (decide (X = Z ∧ Y = W))) := by
  have := h (ryT (some X)) (ryT (some Y)) (ryT (some Z)) (ryT (some W)) (small_ry hX) (small_ry hY)
  simp only [rawT_ry, lst_ry] at this
  exact this

theorem fitsT_of {a : Rw (Rw Int)} (h : small a) : fits ((lst a).map lst) := ⟨by simpa using h.1, by simpa using h.2⟩
theorem upT_small {X : List (List Int)} (h : smallT X) (k : Int) : smallT (upT k X) := by
  refine ⟨by simpa [upT] using h.1, fun r hr => ?_⟩
  simp only [upT, List.mem_map, List.mem_range] at hr
  obtain ⟨j, hj, rfl⟩ := hr
  rw [up_length]
  have := h.2 X[j] (List.getElem_mem hj)
  simpa [List.getD_eq_getElem?_getD, hj] using this

end Go.Mch
/- TupleMove, of the reference and of the program. -/
namespace Go.Mch

def isTup (n : Int) (xs : List Int) : Prop := xs.length ≤ 12 ∧ inR 0 (n - 1) xs
instance (n : Int) (xs : List Int) : Decidable (isTup n xs) := by unfold isTup; infer_instance
/-- What TupleMove takes. -/
def tmOk (f : List (List Int)) (w : List Int) (p : Int) : Prop := isTup f.length w ∧ 0 ≤ p ∧ p ≤ (w.length : Int) - 2
instance (f : List (List Int)) (w : List Int) (p : Int) : Decidable (tmOk f w p) := by unfold tmOk; infer_instance
end Go.Mch
/- The law of TupleMove. -/
namespace Go.Mch

/-- An own list or nil, as one that is only read. -/
def eI : Option (List Int) → T
  | none => nil
  | some X => ix X
theorem rawI_ry (o : Option (List Int)) : rawI (Rw.ofO o) = eI o := by cases o <;> rfl
theorem S_eqI.o {pg : Pg} (h : S_eqI pg) (o o' : Option (List Int)) (hs : (lso o).length ≤ 1048576) : Call pg 9 [eI o, eI o'] [eI o, eI o'] (B (decide (lso o = lso o'))) := by
  have := h (Rw.ofO o) (Rw.ofO o') (by simpa using hs)
  simp only [rawI_ry, lst_ofO] at this
  exact this
theorem S_heldI.o {pg : Pg} (h : S_heldI pg) (o : Option (List Int)) (k : Int) (hs : (lso o).length ≤ 1048576) (h1 : -1 ≤ k) (h2 : k ≤ 4611686018427387904) : Call pg 13 [eI o, I k] [eI o, I k] (I (held (lso o) k)) := by
  have := h (Rw.ofO o) k (by simpa using hs) h1 h2
  simp only [rawI_ry, lst_ofO] at this
  exact this
end Go.Mch
/- Racks. -/
namespace Go.Mch

/-! ### As many places as numbers -/

theorem len_le_of_sub {α : Type} [DecidableEq α] : ∀ (l p : List α), l.Nodup → (∀ x ∈ l, x ∈ p) → l.length ≤ p.length
  | [], _, _, _ => by simp
  | a :: l, p, hd, hs => by
    have ha : a ∈ p := hs a (by simp)
    have hn := List.nodup_cons.1 hd
    have := len_le_of_sub l (p.erase a) hn.2 fun x hx => by
      have hne : x ≠ a := fun e => hn.1 (e ▸ hx)
      exact (List.mem_erase_of_ne hne).2 (hs x (by simp [hx]))
    have h2 := List.length_erase_of_mem ha
    have h3 : 0 < p.length := List.length_pos_of_mem ha
    simp only [List.length_cons]
    omega

theorem nodup_of_sub {α : Type} [DecidableEq α] : ∀ (l p : List α), l.Nodup → (∀ x ∈ l, x ∈ p) → p.length = l.length → p.Nodup
  | [], p, _, _, h => by
    have : p = [] := List.eq_nil_of_length_eq_zero (by simpa using h)
    subst this
    exact List.nodup_nil
  | a :: l, p, hd, hs, h => by
    have ha : a ∈ p := hs a (by simp)
    have hn := List.nodup_cons.1 hd
    have h2 := List.length_erase_of_mem ha
    have h4 : (p.erase a).length = l.length := by simp only [List.length_cons] at h; omega
    have hsub : ∀ x ∈ l, x ∈ p.erase a := fun x hx => by
      have hne : x ≠ a := fun e => hn.1 (e ▸ hx)
      exact (List.mem_erase_of_ne hne).2 (hs x (by simp [hx]))
    have hp := nodup_of_sub l (p.erase a) hn.2 hsub h4
    have hna : a ∉ p.erase a := fun hm => by
      have := len_le_of_sub (a :: l) (p.erase a) hd fun x hx => by
        rcases List.mem_cons.1 hx with rfl | hx
        · exact hm
        · exact hsub x hx
      simp only [List.length_cons] at this
      omega
    exact (List.perm_cons_erase ha).nodup_iff.2 (List.nodup_cons.2 ⟨hna, hp⟩)

def nums (n : Nat) : List Int := (List.range n).map Int.ofNat
theorem nums_nodup (n : Nat) : (nums n).Nodup := by
  refine List.Pairwise.map _ (fun a b h => ?_) (List.nodup_range (n := n))
  intro e
  exact h (Int.ofNat.inj e)
theorem perm_permuted {p : List Int} (h1 : 1 ≤ p.length) (h2 : p.length ≤ 12) (hr : ∀ x ∈ p, 0 ≤ x ∧ x < p.length) : isPerm p ↔ isPermuted p := by
  constructor
  · intro h
    refine ⟨hr, nodup_of_sub (nums p.length) p (nums_nodup _) (fun x hx => ?_) (by simp [nums])⟩
    simp only [nums, List.mem_map, List.mem_range] at hx
    obtain ⟨k, hk, rfl⟩ := hx
    exact h.2.2 k hk
  · intro h
    refine ⟨h1, h2, fun x hx => ?_⟩
    by_cases hm : (x : Int) ∈ p
    · exact hm
    · have := len_le_of_sub p ((nums p.length).erase x) h.2 fun y hy => by
        have hy2 := hr y hy
        have hne : y ≠ (x : Int) := fun e => hm (e ▸ hy)
        refine (List.mem_erase_of_ne hne).2 ?_
        simp only [nums, List.mem_map, List.mem_range]
        exact ⟨y.toNat, by omega, by show ((y.toNat : Nat) : Int) = y; omega⟩
      have hx2 : (x : Int) ∈ nums p.length := by
        simp only [nums, List.mem_map, List.mem_range]
        exact ⟨x, hx, rfl⟩
      have h3 := List.length_erase_of_mem hx2
      have h4 : (nums p.length).length = p.length := by simp [nums]
      omega
end Go.Mch
/- Racks, as the reference and the program test them. -/
namespace Go.Mch

/-- Left distributive at three numbers. -/
def sdAt (t : List (List Int)) (x y z : Nat) : Prop := v2 t x (v2 t y z).toNat = v2 t (v2 t x y).toNat (v2 t x z).toNat
instance (t : List (List Int)) (x y z : Nat) : Decidable (sdAt t x y z) := by unfold sdAt; infer_instance
end Go.Mch
/- RackMove, of the reference and of the program. -/
namespace Go.Mch

theorem S_eqRack.o {pg : Pg} (h : S_eqRack pg) (X Z : List (List Int)) (hX : smallT X) : Call pg 10 [.agg [tb X], .agg [tb Z]] [.agg [tb X], .agg [tb Z]] (B (decide (X = Z))) := by
  have := h (ryT (some X)) (ryT (some Z)) (small_ry hX)
  simp only [rawT_ry, lst_ry] at this
  exact this

end Go.Mch
/- Columns, tables turned over, permutations one behind another, copies of tables. -/
namespace Go.Mch

@[simp] theorem frzL_mapI (k : K) (xs : List Int) : T.frzL k (xs.map I) = xs.map I := by
  induction xs with
  | nil => rfl
  | cons x xs ih => simp [ih]
@[simp] theorem frzL_tbL (k : K) (t : List (List Int)) : T.frzL k (tbL t) = tbL t := by
  induction t with
  | nil => rfl
  | cons x xs ih => simp only [tbL, List.map_cons] at ih ⊢; simp [ih]
theorem map_range_succ {α : Type} (f : Nat → α) (k : Nat) : (List.range (k + 1)).map f = (List.range k).map f ++ [f k] := by simp [List.range_succ]

/-- A square table by its values. -/
def tabL (n : Nat) (g : Nat → Nat → Int) : List (List Int) := (List.range n).map fun x => (List.range n).map fun y => g x y
@[simp] theorem tabL_length (n : Nat) (g : Nat → Nat → Int) : (tabL n g).length = n := by simp [tabL]
theorem tabL_row {n : Nat} {g : Nat → Nat → Int} {r : List Int} (h : r ∈ tabL n g) : r.length = n := by
  simp only [tabL, List.mem_map] at h
  obtain ⟨x, _, rfl⟩ := h
  simp
theorem tab_of {n : Nat} {g : Nat → Nat → Int} (h : ∀ x y, x < n → y < n → 0 ≤ g x y ∧ g x y < n) : Tab (tabL n g) := by
  intro r hr
  refine ⟨by rw [tabL_row hr]; simp, fun v hv => ?_⟩
  simp only [tabL, List.mem_map, List.mem_range] at hr
  obtain ⟨x, hx, rfl⟩ := hr
  simp only [List.mem_map, List.mem_range] at hv
  obtain ⟨y, hy, rfl⟩ := hv
  simpa using h x y hx hy
def colL (t : List (List Int)) (y : Nat) : List Int := (List.range t.length).map fun x => v2 t x y
/-- A table, rows and columns exchanged. -/
def turnL (t : List (List Int)) : List (List Int) := tabL t.length fun x y => v2 t y x
@[simp] theorem colL_length (t : List (List Int)) (y : Nat) : (colL t y).length = t.length := by simp [colL]
@[simp] theorem turnL_length (t : List (List Int)) : (turnL t).length = t.length := by simp [turnL]
theorem turnL_tab {t : List (List Int)} (h : Tab t) (h0 : 0 < t.length) : Tab (turnL t) := by
  apply tab_of
  intro x y hx hy
  exact ⟨h.nonneg _ _, h.lt h0 _ _⟩

def S_column (pg : Pg) : Prop := ∀ (t : List (List Int)) (y : Nat), t.length ≤ 1048576 → (∀ r ∈ t, y < r.length) → Call pg 375 [tb t, I y] [tb t, I y] (.mem .own (some 1) ((colL t y).map I))
theorem t_column {pg : Pg} (hp : pg.fn 375 = some c_spec_l01Column) : S_column pg := by
  intro t y hl hr
  refine Call.intro hp rfl (by simp) ?_
  show wp _ _ c_spec_l01Column.body (post [.t 4] _ _ _) _
  simp [c_spec_l01Column]
  refine wpLoop_count (fun k e => e = fr [(0, some (.val (tb t))), (1, some (.val (I y))), (5, some (.val (.mem .own (some 1) (((List.range k).map fun x => v2 t x y).map I)))), (6, some (.val (I k)))]) t.length ?_ ?_ 0 _ (by omega) ?_
  · rintro k e hk rfl
    have hy := hr _ (List.getElem_mem hk)
    simp [hk, hy, get_v2, map_range_succ, roomy]
    omega
  · rintro e rfl
    simp [colL]
  · simp

def S_turn (pg : Pg) (n : Nat) : Prop := ∀ t : List (List Int), Tab t → t.length ≤ 12 → Call pg n [tb t] [tb t] (.mem .own (some 1) (rows (turnL t)))
theorem turnL_rows (t : List (List Int)) : turnL t = (List.range t.length).map fun y => colL t y := rfl
theorem t_l01Turn {pg : Pg} (hp : pg.fn 265 = some c_spec_l01Turn) (h375 : S_column pg) : S_turn pg 265 := by
  intro t ht hl
  refine Call.intro hp rfl (by simp) ?_
  show wp _ _ c_spec_l01Turn.body (post [.t 2] _ _ _) _
  simp [c_spec_l01Turn]
  refine wpLoop_count (fun k e => e = fr [(0, some (.val (tb t))), (3, some (.val (.mem .own (some 1) (rows ((List.range k).map fun y => colL t y))))), (4, some (.val (I k)))]) t.length ?_ ?_ 0 _ (by omega) ?_
  · rintro k e hk rfl
    simp [hk]
    refine callR (h375 t k (by omega) (fun r hr => by rw [(ht r hr).1]; exact hk)) rfl rfl (fun _ => by simp) ?_
    simp [map_range_succ, rows_append, roomy]
    simp [rows]
    omega
  · rintro e rfl
    simp [turnL_rows]
  · simp [rows]

/-- What a table by values is made by. -/
def S_tableBy (pg : Pg) : Prop := ∀ (n : Nat) (g : Nat → Nat → Int) (f : Nat) (caps : List T), n ≤ 1048576 → T.eryL .old caps = caps → T.noOwnL caps = true →
  (∀ x y : Nat, x < n → y < n → Call pg f (I x :: I y :: caps) (I x :: I y :: caps) (I (g x y))) → Call pg 376 [I n, .fn f caps] [I n, .fn f caps] (.mem .own (some 1) (rows (tabL n g)))

theorem set_mid {α : Type} {l : List α} {r : List α} {k : Nat} {z v : α} (h : l.length = k) : (l ++ z :: r).set k v = l ++ v :: r := by
  subst h; simp
theorem fill_succ {α : Type} {n k : Nat} (z : α) (h : k < n) : List.replicate (n - k) z = z :: List.replicate (n - (k + 1)) z := by
  rw [show n - k = (n - (k + 1)) + 1 from by omega, List.replicate_succ]

set_option maxRecDepth 10000 in
theorem t_tableBy {pg : Pg} (hp : pg.fn 376 = some c_impl_tableBy) : S_tableBy pg := by
  intro n g f caps hn hc1 hc2 hc
  refine Call.intro hp rfl (by simp [hc2]) ?_
  show wp _ _ c_impl_tableBy.body (post [.t 4] _ _ _) _
  simp [c_impl_tableBy]
  refine ⟨by unfold roomy; omega, ?_⟩
  refine wpLoop_count (fun x e => e = fr [(0, some (.val (I n))), (1, some (.val (.fn f caps))), (5, some (.val (.mem .own (some 1) (rows ((List.range x).map fun i => (List.range n).map (g i)) ++ List.replicate (n - x) nil)))), (11, some (.val (I n))), (12, some (.val (I x)))]) n ?_ ?_ 0 _ (by omega) ?_
  · rintro x e hx rfl
    have hlen : (rows ((List.range x).map fun i => (List.range n).map (g i))).length = x := by simp
    rw [fill_succ nil hx]
    simp [hx, set_mid hlen]
    refine ⟨by unfold roomy; omega, by omega, ?_⟩
    refine wpLoop_count (fun y e => e = fr [(0, some (.val (I n))), (1, some (.val (.fn f caps))), (5, some (.val (.mem .own (some 1) (rows ((List.range x).map fun i => (List.range n).map (g i)) ++ .mem .own (some 1) (((List.range y).map (g x)).map I ++ List.replicate (n - y) (I 0)) :: List.replicate (n - (x + 1)) nil)))), (6, some (.val (I x))), (11, some (.val (I n))), (12, some (.val (I x))), (24, some (.val (I n))), (25, some (.val (I y)))]) n ?_ ?_ 0 _ (by omega) ?_
    · rintro y e hy rfl
      have hlen2 : (((List.range y).map (g x)).map I).length = y := by simp
      rw [fill_succ (I 0) hy]
      simp [hy]
      refine ⟨by omega, ?_⟩
      refine callR (by simpa [hc1] using hc x y hx hy) rfl rfl (fun _ => by simp) ?_
      simp [set_mid hlen, map_range_succ]
      omega
    · rintro e rfl
      simp [map_range_succ, rows_append]
      simp [rows]
      omega
    · simp
  · rintro e rfl
    simp [tabL, hc2]
  · simp [rows]

def S_turn1 (pg : Pg) : Prop := ∀ (t : List (List Int)) (x y : Nat) (hx : x < t.length) (hy : y < t.length), (t[y]).length = t.length → Call pg 377 [I x, I y, .mem .old none [tb t]] [I x, I y, .mem .old none [tb t]] (I (v2 t y x))
theorem t_turn1 {pg : Pg} (hp : pg.fn 377 = some c_impl_transposed_1) : S_turn1 pg := by
  intro t x y hx hy hr
  refine Call.intro hp rfl (by simp) ?_
  show wp _ _ c_impl_transposed_1.body (post [.t 5] _ _ _) _
  simp [c_impl_transposed_1, hx, hy, hr, get_v2]
theorem t_transposed {pg : Pg} (hp : pg.fn 267 = some c_impl_transposed) (h376 : S_tableBy pg) (h377 : S_turn1 pg) : S_turn pg 267 := by
  intro t ht hl
  refine Call.intro hp rfl (by simp) ?_
  show wp _ _ c_impl_transposed.body (post [.t 2] _ _ _) _
  simp [c_impl_transposed]
  refine callR (h376 t.length (fun x y => v2 t y x) 377 [.mem .old none [tb t]] (by omega) (by simp) (by simp) (fun x y hx hy => h377 t x y hx hy (ht.row hy))) rfl rfl (fun _ => by simp) ?_
  simp [turnL]

/-- A nondegenerate pair map, as both test it. -/
def nonDeg (f s : List (List Int)) : Prop := permRows f ∧ permRows (turnL s)
instance (f s : List (List Int)) : Decidable (nonDeg f s) := by unfold nonDeg; infer_instance
def S_nonDeg (pg : Pg) (n : Nat) : Prop := ∀ f s : List (List Int), PM f s → Call pg n [sol f s] [sol f s] (B (decide (nonDeg f s)))
theorem turnL_fits {t : List (List Int)} (h : t.length ≤ 12) : ∀ r ∈ turnL t, r.length ≤ 1048576 := fun r hr => by
  have := tabL_row hr
  omega

theorem t_isNondeg {pg : Pg} (hp : pg.fn 285 = some c_impl_isNondegenerate) (h51 : S_permRows pg) (h267 : S_turn pg 267) : S_nonDeg pg 285 := by
  intro f s h
  have h0 := h.pos
  have h12 := h.small
  have hl := h.len
  refine Call.intro hp rfl (by simp) ?_
  show wp _ _ c_impl_isNondegenerate.body (post [.t 2] _ _ _) _
  simp [c_impl_isNondegenerate]
  refine callR (h51 f (by omega) (fun r hr => by have := (h.tf r hr).1; omega)) rfl rfl (fun _ => rfl) ?_
  by_cases h1 : permRows f
  · simp [h1]
    refine callR (h267 s h.ts (by omega)) rfl rfl (fun _ => by simp) ?_
    simp
    refine callR (h51 (turnL s) (by simp; omega) (turnL_fits (by omega))) rfl rfl (fun _ => rfl) ?_
    simp [nonDeg, h1]
  · simp [h1, nonDeg, undefV]

theorem permRows_spec {t : List (List Int)} (h : Tab t) (h0 : 0 < t.length) (h12 : t.length ≤ 12) : (∀ r ∈ t, isPerm r) ↔ permRows t := by
  constructor
  · intro g r hr
    have := h r hr
    exact (perm_permuted (by omega) (by omega) (fun x hx => by have := this.2 x hx; omega)).1 (g r hr)
  · intro g r hr
    have := h r hr
    exact (perm_permuted (by omega) (by omega) (fun x hx => by have := this.2 x hx; omega)).2 (g r hr)

def S_l01Rows (pg : Pg) : Prop := ∀ t : List (List Int), Tab t → 0 < t.length → t.length ≤ 12 → Call pg 410 [tb t] [tb t] (B (decide (permRows t)))
theorem t_l01Rows {pg : Pg} (hp : pg.fn 410 = some c_spec_l01Rows) (h47 : S_perm pg 47) : S_l01Rows pg := by
  intro t ht h0 h12
  refine Call.intro hp rfl (by simp) ?_
  show wp _ _ c_spec_l01Rows.body (post [.t 2] _ _ _) _
  have hsp := permRows_spec ht h0 h12
  simp [c_spec_l01Rows]
  refine wpLoop_count (fun k e => (∀ i (h : i < t.length), i < k → isPerm t[i]) ∧ e = fr [(0, some (.val (tb t))), (3, some (.val (I k)))]) t.length ?_ ?_ 0 _ (by omega) ?_
  · rintro k e hk ⟨h1, rfl⟩
    simp [hk]
    refine callR (h47 _ (by have := ht.row hk; omega)) rfl rfl (fun _ => rfl) ?_
    by_cases hm : isPerm t[k]
    · simp [hm]
      refine ⟨by omega, fun i hi hik => ?_⟩
      rcases Nat.lt_or_ge i k with h2 | h2
      · exact h1 i hi h2
      · have : i = k := by omega
        subst this; exact hm
    · have : ¬ permRows t := fun h => hm (hsp.2 h _ (List.getElem_mem hk))
      simp [hm, this]
  · rintro e ⟨h1, rfl⟩
    have : permRows t := hsp.1 fun x hx => by
      obtain ⟨i, hi, rfl⟩ := List.getElem_of_mem hx
      exact h1 i hi hi
    simp [this]
  · simp

theorem t_l02Good {pg : Pg} (hp : pg.fn 350 = some c_spec_l02Good) (h410 : S_l01Rows pg) (h265 : S_turn pg 265) : S_nonDeg pg 350 := by
  intro f s h
  have h0 := h.pos
  have h12 := h.small
  have hl := h.len
  refine Call.intro hp rfl (by simp) ?_
  show wp _ _ c_spec_l02Good.body (post [.t 2] _ _ _) _
  simp [c_spec_l02Good]
  refine callR (h410 f h.tf h0 h12) rfl rfl (fun _ => rfl) ?_
  by_cases h1 : permRows f
  · simp [h1]
    refine callR (h265 s h.ts (by omega)) rfl rfl (fun _ => by simp) ?_
    simp
    refine callR (h410 (turnL s) (turnL_tab h.ts (by omega)) (by simp; omega) (by simp; omega)) rfl rfl (fun _ => rfl) ?_
    simp [nonDeg, h1]
  · simp [h1, nonDeg, undefV]

/-- A nondegenerate solution. -/
def isReg (f s : List (List Int)) : Prop := isSol f s ∧ nonDeg f s
def S_reg (pg : Pg) (n : Nat) : Prop := ∀ f s : List (List Int), fits f → fits s → Call pg n [sol f s] [sol f s] (B (dec (isReg f s)))
theorem t_l07Is {pg : Pg} (hp : pg.fn 264 = some c_spec_l07Is) (h41 : S_isSol pg 41) (h350 : S_nonDeg pg 350) : S_reg pg 264 := by
  intro f s hf hs
  refine Call.intro hp rfl (by simp) ?_
  show wp _ _ c_spec_l07Is.body (post [.t 2] _ _ _) _
  simp [c_spec_l07Is]
  refine callR (h41 f s hf hs) rfl rfl (fun _ => rfl) ?_
  by_cases h1 : isSol f s
  · simp [dec_true h1]
    refine callR (h350 f s (PM.of h1.1)) rfl rfl (fun _ => rfl) ?_
    by_cases h2 : nonDeg f s
    · simp [h2, dec_true (show isReg f s from ⟨h1, h2⟩)]
    · simp [h2, dec_false (show ¬ isReg f s from fun h => h2 h.2)]
  · simp [dec_false h1, undefV, dec_false (show ¬ isReg f s from fun h => h1 h.1)]
theorem t_isRegular {pg : Pg} (hp : pg.fn 266 = some c_impl_isRegular) (h42 : S_isSol pg 42) (h285 : S_nonDeg pg 285) : S_reg pg 266 := by
  intro f s hf hs
  refine Call.intro hp rfl (by simp) ?_
  show wp _ _ c_impl_isRegular.body (post [.t 2] _ _ _) _
  simp [c_impl_isRegular]
  refine callR (h42 f s hf hs) rfl rfl (fun _ => rfl) ?_
  by_cases h1 : isSol f s
  · simp [dec_true h1]
    refine callR (h285 f s (PM.of h1.1)) rfl rfl (fun _ => rfl) ?_
    by_cases h2 : nonDeg f s
    · simp [h2, dec_true (show isReg f s from ⟨h1, h2⟩)]
    · simp [h2, dec_false (show ¬ isReg f s from fun h => h2 h.2)]
  · simp [dec_false h1, undefV, dec_false (show ¬ isReg f s from fun h => h1 h.1)]

end Go.Mch
/- Permutations one behind another, copies of tables; LambdaMaps, RhoMaps, IsAbelianLeft, of the reference and of the program. -/
namespace Go.Mch

/-- Do p, then q. -/
def thenL (p q : List Int) : List Int := p.map fun x => q.getD x.toNat 0
@[simp] theorem thenL_length (p q : List Int) : (thenL p q).length = p.length := by simp [thenL]
/-! ### Copies of tables -/

def S_copyT (pg : Pg) (n : Nat) : Prop := ∀ t : List (List Int), fits t → Call pg n [tb t] [tb t] (.mem .own (some 1) (rows t))
theorem rows_take_succ {t : List (List Int)} {k : Nat} (hk : k < t.length) : rows (t.take (k + 1)) = rows (t.take k) ++ [.mem .own (some 1) ((t[k]).map I)] := by
  rw [List.take_succ_eq_append_getElem hk, rows_append]; rfl
theorem t_l01Own2 {pg : Pg} (hp : pg.fn 280 = some c_spec_l01Own2) (h31 : S_own pg) : S_copyT pg 280 := by
  intro t ht
  have hl := ht.1
  refine Call.intro hp rfl (by simp) ?_
  show wp _ _ c_spec_l01Own2.body (post [.t 2] _ _ _) _
  simp [c_spec_l01Own2]
  refine wpLoop_count (fun k e => e = fr [(0, some (.val (tb t))), (3, some (.val (.mem .own (some 1) (rows (t.take k))))), (4, some (.val (I k)))]) t.length ?_ ?_ 0 _ (by omega) ?_
  · rintro k e hk rfl
    simp [hk]
    refine callR (h31 _ (ht.2 _ (List.getElem_mem hk))) rfl rfl (fun _ => by simp) ?_
    simp [rows_take_succ hk, roomy]
    omega
  · rintro e rfl
    simp [take_len]
  · simp [rows]
/-! ### LambdaMaps, RhoMaps -/

/-- What stands behind the test of a nondegenerate solution: X, else z. -/
noncomputable def onReg {α : Type} (z : α) (X : List (List Int) → List (List Int) → α) (f s : List (List Int)) : α := if dec (isReg f s) then X f s else z
theorem onReg_true {α : Type} {z : α} {X : List (List Int) → List (List Int) → α} {f s : List (List Int)} (h : isReg f s) : onReg z X f s = X f s := by simp [onReg, dec_true h]
theorem onReg_false {α : Type} {z : α} {X : List (List Int) → List (List Int) → α} {f s : List (List Int)} (h : ¬ isReg f s) : onReg z X f s = z := by simp [onReg, dec_false h]

/-! ### IsAbelianLeft -/

def abel (f : List (List Int)) : Prop := ∀ x y : Nat, x < f.length → y < f.length → thenL (f.getD x []) (f.getD y []) = thenL (f.getD y []) (f.getD x [])
instance (f : List (List Int)) : Decidable (abel f) := by
  have : abel f ↔ ∀ x ∈ List.range f.length, ∀ y ∈ List.range f.length, thenL (f.getD x []) (f.getD y []) = thenL (f.getD y []) (f.getD x []) := by
    simp only [abel, List.mem_range]
    exact ⟨fun h x hx y hy => h x y hx hy, fun h x y hx hy => h x hx y hy⟩
  exact decidable_of_iff _ this.symm
theorem Tab.inN {t : List (List Int)} (h : Tab t) {x : Nat} (hx : x < t.length) : inN t.length t[x] := fun v hv => (h _ (List.getElem_mem hx)).2 v hv

end Go.Mch
/- What maps reach; the numbers of orbits. In plain Lean. -/
namespace Go.Mch

def act (p : List Int) (x : Int) : Int := p.getD x.toNat 0
/-- Closed under the maps. -/
def Cl (ms : List (List Int)) (S : Int → Prop) : Prop := ∀ x, S x → ∀ p ∈ ms, S (act p x)
/-- What the maps reach from i. -/
def Rch (ms : List (List Int)) (i x : Int) : Prop := ∀ S : Int → Prop, S i → Cl ms S → S x
theorem rch_refl (ms : List (List Int)) (i : Int) : Rch ms i i := fun _ h _ => h
theorem rch_step {ms : List (List Int)} {i x : Int} (h : Rch ms i x) {p : List Int} (hp : p ∈ ms) : Rch ms i (act p x) := fun S h1 h2 => h2 x (h S h1 h2) p hp
theorem rch_list {ms : List (List Int)} {i : Int} {l : List Int} (hi : i ∈ l) (hr : ∀ x ∈ l, Rch ms i x) (hc : ∀ x ∈ l, ∀ p ∈ ms, act p x ∈ l) (x : Int) : x ∈ l ↔ Rch ms i x :=
  ⟨hr x, fun h => h (· ∈ l) hi hc⟩

/-- Permutations of n numbers. -/
def Prms (n : Nat) (ms : List (List Int)) : Prop := ∀ p ∈ ms, p.length = n ∧ isPermuted p
theorem act_rng {n : Nat} {ms : List (List Int)} (h : Prms n ms) {p : List Int} (hp : p ∈ ms) {x : Int} (hx : 0 ≤ x ∧ x < n) : 0 ≤ act p x ∧ act p x < n := by
  obtain ⟨h1, h2⟩ := h p hp
  have hl : x.toNat < p.length := by omega
  have := h2.1 _ (List.getElem_mem hl)
  simp only [act, List.getD_eq_getElem?_getD, List.getElem?_eq_getElem hl, Option.getD_some]
  omega
theorem act_inj {n : Nat} {ms : List (List Int)} (h : Prms n ms) {p : List Int} (hp : p ∈ ms) {x y : Int} (hx : 0 ≤ x ∧ x < n) (hy : 0 ≤ y ∧ y < n) (he : act p x = act p y) : x = y := by
  obtain ⟨h1, h2⟩ := h p hp
  have hl : x.toNat < p.length := by omega
  have hl2 : y.toNat < p.length := by omega
  simp only [act, List.getD_eq_getElem?_getD, List.getElem?_eq_getElem hl, List.getElem?_eq_getElem hl2, Option.getD_some] at he
  have := (List.getElem_inj h2.2).1 he
  omega
theorem rch_rng {n : Nat} {ms : List (List Int)} (h : Prms n ms) {i x : Int} (hi : 0 ≤ i ∧ i < n) (hx : Rch ms i x) : 0 ≤ x ∧ x < n :=
  hx (fun x => 0 ≤ x ∧ x < n) hi fun _ hy _ hp => act_rng h hp hy
theorem mem_nums {n : Nat} {x : Int} : x ∈ nums n ↔ 0 ≤ x ∧ x < n := by
  simp only [nums, List.mem_map, List.mem_range]
  constructor
  · rintro ⟨k, hk, rfl⟩
    simp only [Int.ofNat_eq_natCast]
    omega
  · rintro ⟨h1, h2⟩
    exact ⟨x.toNat, by omega, by simp only [Int.ofNat_eq_natCast]; omega⟩
/-- What is outside a closed set stays outside. -/
theorem compl_closed {n : Nat} {ms : List (List Int)} (h : Prms n ms) {S : Int → Prop} (hS : Cl ms S) {x : Int} (hx : 0 ≤ x ∧ x < n) (hn : ¬ S x) {p : List Int} (hp : p ∈ ms) : ¬ S (act p x) := by
  intro hy
  have hL : ∀ y, y ∈ (nums n).filter (fun y => dec (S y)) ↔ (0 ≤ y ∧ y < n) ∧ S y := fun y => by
    rw [List.mem_filter, mem_nums]
    refine ⟨fun hh => ⟨hh.1, ?_⟩, fun hh => ⟨hh.1, dec_true hh.2⟩⟩
    by_cases hs : S y
    · exact hs
    · have := hh.2; rw [dec_false hs] at this; cases this
  have hdL : ((nums n).filter (fun y => dec (S y))).Nodup := (nums_nodup n).sublist List.filter_sublist
  generalize (nums n).filter (fun y => dec (S y)) = L at hL hdL
  have hM : (L.map (act p)).Nodup := by
    rw [List.Nodup, List.pairwise_map]
    refine hdL.imp_of_mem ?_
    intro a b ha hb hab he
    exact hab (act_inj h hp ((hL a).1 ha).1 ((hL b).1 hb).1 he)
  have hyM : act p x ∉ L.map (act p) := by
    intro hm
    obtain ⟨z, hz, he⟩ := List.mem_map.1 hm
    have := act_inj h hp ((hL z).1 hz).1 hx he
    subst this
    exact hn ((hL z).1 hz).2
  have := len_le_of_sub (act p x :: L.map (act p)) L (List.nodup_cons.2 ⟨hyM, hM⟩) fun y hm => by
    rcases List.mem_cons.1 hm with rfl | hm
    · exact (hL _).2 ⟨act_rng h hp hx, hy⟩
    · obtain ⟨z, hz, rfl⟩ := List.mem_map.1 hm
      exact (hL _).2 ⟨act_rng h hp ((hL z).1 hz).1, hS z ((hL z).1 hz).2 p hp⟩
  simp at this
  omega
theorem nodup_rng_len {n : Nat} {l : List Int} (h : l.Nodup) (hr : ∀ x ∈ l, 0 ≤ x ∧ x < n) : l.length ≤ n := by
  have := len_le_of_sub l (nums n) h fun x hx => mem_nums.2 (hr x hx)
  simpa [nums] using this

/-! ### The numbers of the orbits -/

/-- Numbers, k given to what i reaches. -/
noncomputable def markO (ms : List (List Int)) (i : Int) (lab : List Int) (c : Int) : List Int := (List.range lab.length).map fun x : Nat => if dec (Rch ms i x) then c else lab.getD x 0
@[simp] theorem markO_length (ms : List (List Int)) (i : Int) (lab : List Int) (c : Int) : (markO ms i lab c).length = lab.length := by simp [markO]
theorem markO_get {ms : List (List Int)} {i : Int} {lab : List Int} {c : Int} {x : Nat} (hx : x < lab.length) : (markO ms i lab c).getD x 0 = if dec (Rch ms i x) then c else lab.getD x 0 := by
  simp [markO, hx]
/-- The numbers and how many orbits there are, when k elements are done. -/
noncomputable def orbS (ms : List (List Int)) (n : Nat) : Nat → List Int × Int
  | 0 => (List.replicate n (-1), 0)
  | k + 1 => if 0 ≤ (orbS ms n k).1.getD k 0 then orbS ms n k else (markO ms k (orbS ms n k).1 (orbS ms n k).2, (orbS ms n k).2 + 1)
noncomputable def orbL (ms : List (List Int)) (n : Nat) : List Int := (orbS ms n n).1
@[simp] theorem orbS_length (ms : List (List Int)) (n k : Nat) : (orbS ms n k).1.length = n := by
  induction k with
  | zero => simp [orbS]
  | succ k ih => unfold orbS; split <;> simp [ih]
@[simp] theorem orbL_length (ms : List (List Int)) (n : Nat) : (orbL ms n).length = n := by simp [orbL]

theorem orbS_cnt (ms : List (List Int)) (n k : Nat) : 0 ≤ (orbS ms n k).2 ∧ (orbS ms n k).2 ≤ k := by
  induction k with
  | zero => simp [orbS]
  | succ k ih => unfold orbS; split <;> simp <;> omega
theorem orbS_rng (ms : List (List Int)) (n k : Nat) : ∀ x, x < n → -1 ≤ (orbS ms n k).1.getD x 0 ∧ (orbS ms n k).1.getD x 0 < (orbS ms n k).2 := by
  induction k with
  | zero => intro x hx; simp [orbS, hx]
  | succ k ih =>
    intro x hx
    have h1 := ih x hx
    have h2 := orbS_cnt ms n k
    unfold orbS
    split
    · exact h1
    · rw [markO_get (by simpa using hx)]
      simp only
      split <;> omega
theorem orbS_done (ms : List (List Int)) (n k : Nat) (hk : k ≤ n) : ∀ x, x < k → 0 ≤ (orbS ms n k).1.getD x 0 := by
  induction k with
  | zero => intro x hx; omega
  | succ k ih =>
    intro x hx
    have ih := ih (by omega)
    have h2 := orbS_cnt ms n k
    unfold orbS
    split
    · rename_i h3
      rcases Nat.lt_or_ge x k with h | h
      · exact ih x h
      · have : x = k := by omega
        subst this; exact h3
    · rw [markO_get (by simp; omega)]
      split
      · exact h2.1
      · rename_i hr
        rcases Nat.lt_or_ge x k with h | h
        · exact ih x h
        · have : x = k := by omega
          subst this
          rw [dec_true (rch_refl ms _)] at hr
          simp at hr
/-- What has a number is closed. -/
theorem orbS_closed {ms : List (List Int)} {n : Nat} (h : Prms n ms) (k : Nat) (hk : k ≤ n) : Cl ms (fun x => (0 ≤ x ∧ x < n) ∧ 0 ≤ (orbS ms n k).1.getD x.toNat 0) := by
  induction k with
  | zero =>
    rintro x ⟨hx, h0⟩ p hp
    have : x.toNat < n := by omega
    simp [orbS, this] at h0
  | succ k ih =>
    have ih := ih (by omega)
    have h2 := orbS_cnt ms n k
    rintro x ⟨hx, h0⟩ p hp
    have hr := act_rng h hp hx
    refine ⟨hr, ?_⟩
    unfold orbS at h0 ⊢
    split at h0
    · rename_i h3
      rw [if_pos h3]
      exact (ih x ⟨hx, h0⟩ p hp).2
    · rename_i h3
      rw [if_neg h3]
      have e1 : ((x.toNat : Nat) : Int) = x := by omega
      have e2 : (((act p x).toNat : Nat) : Int) = act p x := by omega
      simp only at h0 ⊢
      rw [markO_get (by simp; omega), e1] at h0
      rw [markO_get (by simp; omega), e2]
      by_cases hR : Rch ms k x
      · rw [dec_true (rch_step hR hp)]
        simp only [if_true]; exact h2.1
      · rw [dec_false hR] at h0
        simp only [Bool.false_eq_true, if_false] at h0
        split
        · exact h2.1
        · exact (ih x ⟨hx, h0⟩ p hp).2
end Go.Mch
/- What a code leads to with something that is only known at its end, it leads to with that known before. -/
namespace Go.Mch

theorem bx {α β : Type} {o : Option α} {f : α → Prop} {g : β → α → Prop} (hf : ∀ a, f a → ∃ r, g r a) (h : bindP o f) : ∃ r, bindP o (g r) := by
  obtain ⟨a, h1, h2⟩ := h
  obtain ⟨r, h3⟩ := hf a h2
  exact ⟨r, a, h1, h3⟩
theorem ax {β : Type} {p : Prop} {K : β → Prop} (h : p ∧ ∃ r, K r) : ∃ r, p ∧ K r := by
  obtain ⟨h1, r, h2⟩ := h
  exact ⟨r, h1, h2⟩

theorem stepQ_ex {β : Type} {G : Rl} {m : K} {d : Option Nat} {q : Q} {k : β → Env → Prop} {e : Env} (h : stepQ G m d q (fun e => ∃ r, k r e) e) : ∃ r, stepQ G m d q (k r) e := by
  cases q <;> simp only [stepQ] at h ⊢
  case mv => exact bx (fun _ h => h) h
  case mvw => exact bx (fun _ h => ax h) h
  case stsw => exact bx (fun _ h => bx (fun _ h => bx (fun _ h => ax ⟨h.1, bx (fun _ h => h) h.2⟩) h) h) h
  case sts x y =>
    refine bx (fun a ha => bx (fun v hv => ?_) ha) h
    split at hv
    · split at hv
      · exact ax hv
      · exact hv.elim
    · exact hv.elim
  case asg x =>
    refine bx (fun v hv => ?_) h
    cases v
    case val t => exact hv
    all_goals exact bx (fun _ h => h) hv
  case pick => exact bx (fun _ h => bx (fun _ h => h) h) h
  case bin => exact bx (fun _ h => bx (fun _ h => bx (fun _ h => h) h) h) h
  case beq => exact bx (fun _ h => bx (fun _ h => h) h) h
  case isnil => exact bx (fun _ h => h) h
  case fncl => exact bx (fun _ h => bx (fun _ h => h) h) h
  case slen => exact bx (fun _ h => h) h
  case un => exact bx (fun _ h => bx (fun _ h => h) h) h
  case conv => exact bx (fun _ h => h) h
  case len => exact bx (fun _ h => h) h
  case idx => exact bx (fun _ h => bx (fun _ h => bx (fun _ h => h) h) h) h
  case fld => exact bx (fun _ h => bx (fun _ h => h) h) h
  case fldv => exact bx (fun _ h => bx (fun _ h => h) h) h
  case ld => exact bx (fun _ h => bx (fun _ h => h) h) h
  case st =>
    refine bx (fun a ha => bx (fun v hv => bx (fun y hy => ?_) hv) ha) h
    split at hy
    · split at hy
      · exact ax hy
      · exact hy.elim
    · exact hy.elim
  case nilck =>
    refine bx (fun a ha => ?_) h
    split at ha
    · exact ha
    · exact ha
    · exact ha.elim
  case alloc => exact h
  case box => exact bx (fun _ h => bx (fun _ h => ax h) h) h
  case build => exact bx (fun _ h => bx (fun _ h => h) h) h
  case mks => exact bx (fun _ h => ax h) h
  case bsl => exact bx (fun _ h => bx (fun _ h => ax h) h) h
  case app =>
    refine bx (fun a ha => bx (fun b hb => bx (fun z hz => bx (fun u hu => ?_) hz) hb) ha) h
    have h2 := hu.2
    split at h2
    · by_cases h0 : u.1 = []
      · obtain ⟨r, h3⟩ := h2.1 h0
        exact ⟨r, hu.1, fun _ => h3, fun h4 => (h4 h0).elim⟩
      · obtain ⟨r, h3⟩ := h2.2 h0
        exact ⟨r, hu.1, fun h4 => (h0 h4).elim, fun _ => h3⟩
    · obtain ⟨r, h3⟩ := h2
      exact ⟨r, hu.1, h3⟩
  case sl => exact bx (fun _ h => bx (fun _ h => bx (fun _ h => bx (fun _ h => h) h) h) h) h
  case ext => exact bx (fun _ h => bx (fun _ h => h) h) h
  case fnc => exact bx (fun _ h => h) h
  case call f args =>
    refine bx (fun fv hv => ?_) h
    split at hv
    · refine bx (fun ts ht => ?_) hv
      obtain ⟨ts', r, h1, h2, h3, h4⟩ := ht
      obtain ⟨y, h5⟩ := bx (fun _ h => h) h4
      exact ⟨y, ts', r, h1, h2, h3, h5⟩
    · exact hv.elim
  case freeze => exact bx (fun _ h => h) h
  case settle => exact bx (fun _ h => h) h
  case mm => exact bx (fun _ h => bx (fun _ h => bx (fun _ h => h) h) h) h
  case cap0 => exact bx (fun _ h => bx (fun _ h => h) h) h
  case bstr => exact bx (fun _ h => bx (fun _ h => h) h) h
  case bsls => exact bx (fun _ h => bx (fun _ h => ax h) h) h
  case bslv => exact bx (fun _ h => bx (fun _ h => h) h) h
  case tk1 => exact bx (fun _ h => bx (fun _ h => ax h) h) h
  case exts => exact bx (fun _ h => bx (fun _ h => h) h) h
  case bsl1 n =>
    refine bx (fun v hv => ?_) h
    split at hv
    · exact ax hv
    · exact hv.elim
  case apz =>
    refine bx (fun v hv => bx (fun _ hv => ?_) hv) h
    split at hv
    · exact ax hv
    · exact hv.elim
  case arr => exact bx (fun _ h => bx (fun _ h => bx (fun _ h => h) h) h) h
  case mkset => exact h
  case look => exact bx (fun _ h => bx (fun _ h => bx (fun _ h => h) h) h) h
  case upd => exact bx (fun _ h => bx (fun _ h => bx (fun _ h => h) h) h) h
  case bslk x n =>
    refine bx (fun v hv => bx (fun u hu => ?_) hv) h
    split at hu
    · exact ax hu
    · exact hu.elim
  case appk x y n =>
    refine bx (fun v hv => bx (fun v hv => bx (fun v hv => bx (fun v hv => bx (fun u hu => ?_) hv) hv) hv) hv) h
    split at hu
    · exact ax hu
    · exact hu.elim
  case boxk s =>
    refine bx (fun v hv => ?_) h
    split at hv
    · exact ax hv
    · exact hv.elim
  case callm f args ks =>
    refine bx (fun fv hv => ?_) h
    cases fv <;> try exact hv.elim
    rename_i t
    cases t <;> try exact hv.elim
    refine bx (fun vs hv => ax ⟨hv.1, bx (fun y hy => ?_) hv.2⟩) hv
    obtain ⟨h0, ts', r, h1, h2, h3⟩ := hy
    obtain ⟨z, h4⟩ := bx (fun _ h => bx (fun _ h => h) h) h3
    exact ⟨z, h0, ts', r, h1, h2, h4⟩
  refine bx (fun a ha => bx (fun n hn => ?_) ha) h
  split at hn
  · exact bx (fun _ h => h) hn
  · exact hn.elim

theorem stepO_ex {β : Type} {G : Rl} {m : K} {o : O} {k : β → Env → Prop} {e : Env} (h : stepO G m o (fun e => ∃ r, k r e) e) : ∃ r, stepO G m o (k r) e := by
  unfold stepO at *
  split
  · rename_i hg; simp only [hg] at h; exact stepQ_ex h
  · rename_i s b hg
    simp only [hg] at h
    split at h
    · split at h
      · rename_i h1; simp only [if_pos h1]; exact stepQ_ex h
      · rename_i h1; simp only [if_neg h1]; exact h
    · exact h
    · exact h.elim

theorem wpL_ex {β : Type} {G : Rl} {m : K} : ∀ (l : List O) {k : β → Env → Prop} {e : Env}, wpL G m l (fun e => ∃ r, k r e) e → ∃ r, wpL G m l (k r) e
  | [], _, _, h => h
  | _ :: l, k, _, h => stepO_ex (k := fun r => wpL G m l (k r)) (stepO_mono (fun _ _ _ _ h => h) (fun _ h => wpL_ex l h) h)

theorem after_ex {β : Type} {n : β → Env → Prop} {R : β → X → Env → Prop} : ∀ x e, X.after (fun e => ∃ r, n r e) (fun x e => ∃ r, R r x e) x e → ∃ r, X.after (n r) (R r) x e
  | .nrm, _, h => h
  | .ext _, _, h => h
  | .ret, _, h => h

theorem wp_ex {β : Type} {G : Rl} {m : K} (c : C) : ∀ {R : β → X → Env → Prop} {e : Env}, wp G m c (fun x e => ∃ r, R r x e) e → ∃ r, wp G m c (R r) e := by
  induction c with
  | skip => exact fun h => h
  | region dr ops ks => exact fun h => wpL_ex ops h
  | seq a b iha ihb =>
    intro R e h
    exact iha (wp_mono (fun _ _ _ _ h => h) a (fun x e hx => after_ex x e (after_mono (fun _ h => ihb h) (fun _ _ h => h) x e hx)) h)
  | cond c a b iha ihb =>
    intro R e h
    refine bx (fun t ht => ?_) h
    cases t
    · exact ihb ht
    · exact iha ht
  | block id b ih =>
    intro R e h
    refine ih (wp_mono (fun _ _ _ _ h => h) b (fun x e hx => ?_) h)
    cases x
    · exact hx
    · simp only [X.out] at hx ⊢
      split at hx
      · rename_i h1; simp only [if_pos h1]; exact hx
      · rename_i h1; simp only [if_neg h1]; exact hx
    · exact hx
  | loop b ih =>
    intro R e h
    refine h (fun e => ∃ r, wp G m (.loop b) (R r) e) fun e he => ?_
    obtain ⟨r, hr⟩ := ih (R := fun r => X.after (wp G m (.loop b) (R r)) (R r)) (wp_mono (fun _ _ _ _ h => h) b (fun x e hx => after_ex x e hx) he)
    exact ⟨r, wpLoop_round hr⟩
  | exit id => exact fun h => h
  | ret => exact fun h => h
  | stuck => exact fun h => h.elim

/-- A function that reads its arguments only, and whose result is found on the way. -/
theorem Call.find {α : Type} {pg : Pg} {f : Nat} {args : List T} {fn : F} {r : α → T} {Q : α → Prop} (hf : pg.fn f = some fn) (hn : fn.np = args.length) (hl : T.noOwnL args = true)
    (h : wp (Call pg) .fresh fn.body (fun x e => ∃ l, Q l ∧ post fn.rs args args (r l) x e) (init args)) : ∃ l, Q l ∧ Call pg f args args (r l) := by
  obtain ⟨⟨l, hq⟩, hl2⟩ := wp_ex (β := { l // Q l }) (R := fun l x e => post fn.rs args args (r l.1) x e) fn.body (wp_mono (fun _ _ _ _ h => h) _ (fun _ _ ⟨l, hq, hp⟩ => ⟨⟨l, hq⟩, hp⟩) h)
  exact ⟨l, hq, Call.intro hf hn hl hl2⟩
end Go.Mch
/- The guitar map, back and forth, and the derived rack, of the reference and of the program. -/
namespace Go.Mch

@[simp] theorem dec_True : dec True = true := dec_true trivial
@[simp] theorem dec_False : dec False = false := dec_false id
/-! ### The guitar map -/

end Go.Mch
/- The guitar map taken back, the derived rack, of the reference and of the program. -/
namespace Go.Mch

def S_indexIn (pg : Pg) (n : Nat) : Prop := ∀ (xs : List Int) (v : Int), xs.length ≤ 1048576 → Call pg n [ix xs, I v] [ix xs, I v] (I (ixOf xs v))
theorem t_slicesIndex {pg : Pg} (hp : pg.fn 384 = some c_slices_Index___int64_int64_) : S_indexIn pg 384 := by
  intro xs v hl
  refine Call.intro hp rfl (by simp) ?_
  show wp _ _ c_slices_Index___int64_int64_.body (post [.t 4] _ _ _) _
  simp [c_slices_Index___int64_int64_]
  refine wpLoop_count (fun k e => (∀ i (h : i < xs.length), i < k → xs[i] ≠ v) ∧ e = fr [(0, some (.val (ix xs))), (1, some (.val (I v))), (7, some (.val (I xs.length))), (8, some (.val (I k)))]) xs.length ?_ ?_ 0 _ (by omega) ?_
  · rintro k e hk ⟨h1, rfl⟩
    by_cases hm : xs[k] = v
    · have := ixOf_at hk (fun i hi => h1 i (by omega) hi) hm
      simp [hk, hm, this]
    · have hm2 : ¬ v = xs[k] := fun h => hm h.symm
      simp [hk, hm2]
      refine ⟨by omega, fun i hi hik => ?_⟩
      rcases Nat.lt_or_ge i k with h2 | h2
      · exact h1 i hi h2
      · have : i = k := by omega
        subst this; exact hm
  · rintro e ⟨h1, rfl⟩
    have := ixOf_none (xs := xs) (n := v) (fun i hi => h1 i hi hi)
    simp [this]
  · simp
theorem t_indexIn {pg : Pg} (hp : pg.fn 287 = some c_impl_indexIn) (h384 : S_indexIn pg 384) : S_indexIn pg 287 := by
  intro xs v hl
  refine Call.intro hp rfl (by simp) ?_
  show wp _ _ c_impl_indexIn.body (post [.t 4] _ _ _) _
  have := ixOf_le xs v
  simp [c_impl_indexIn]
  refine callR (h384 xs v hl) rfl rfl (fun _ => rfl) ?_
  simp

/-- The guitar map taken back, to i numbers. -/
def gbL (f : List (List Int)) (w : List Int) : Nat → List Int
  | 0 => []
  | i + 1 => gbL f w i ++ [(gbL f w i).foldl (fun x o => ixOf (f.getD o.toNat []) x) (w.getD i 0)]
@[simp] theorem gbL_length (f : List (List Int)) (w : List Int) : ∀ i, (gbL f w i).length = i
  | 0 => rfl
  | i + 1 => by simp [gbL, gbL_length f w i]
end Go.Mch
/- Numbering anew, elements that act alike, of the reference and of the program. -/
namespace Go.Mch

/-- The different numbers of a list, each at its first place. -/
def uniqs (xs : List Int) : List Int := xs.foldl (fun s x => if x ∈ s then s else s ++ [x]) []
def renum (xs : List Int) : List Int := (List.range xs.length).map fun k => ixOf (uniqs (xs.take (k + 1))) (xs.getD k 0)
@[simp] theorem renum_length (xs : List Int) : (renum xs).length = xs.length := by simp [renum]

end Go.Mch
/- The maps of a solution, one row behind the other, of the reference and of the program. -/
namespace Go.Mch

def S_both (pg : Pg) : Prop := ∀ f s : List (List Int), PM f s → Call pg 273 [sol f s] [sol f s] (.mem .own (some 1) (rows (f ++ turnL s)))
theorem PM.fitsF {f s : List (List Int)} (h : PM f s) : fits f := ⟨by have := h.small; omega, fun r hr => by have := (h.tf r hr).1; have := h.small; omega⟩
theorem t_l07Both {pg : Pg} (hp : pg.fn 273 = some c_spec_l07Both) (h280 : S_copyT pg 280) (h265 : S_turn pg 265) : S_both pg := by
  intro f s h
  have h12 := h.small
  have hls := h.len
  refine Call.intro hp rfl (by simp) ?_
  show wp _ _ c_spec_l07Both.body (post [.t 2] _ _ _) _
  simp [c_spec_l07Both]
  refine callR (h280 f h.fitsF) rfl rfl (fun _ => by simp) ?_
  simp
  refine callR (h265 s h.ts (by omega)) rfl rfl (fun _ => by simp) ?_
  have e1 : ∀ x ∈ rows (turnL s), x.isCell = true := fun x hx => by
    simp only [rows, List.mem_map] at hx
    obtain ⟨_, _, rfl⟩ := hx
    rfl
  simp [rows_append, roomy]
  exact ⟨by omega, e1⟩

theorem slV_nil0 : slV 1 (.val (.sc (.slice none 0 0))) none (some 0) = some (.val (.sc (.slice none 0 0))) := by simp [slV]
theorem tbL_cell (a : List (List Int)) : ∀ x ∈ tbL a, x.isCell = true := fun x hx => by
  simp only [tbL, List.mem_map] at hx
  obtain ⟨_, _, rfl⟩ := hx
  rfl
theorem tbL_append (a b : List (List Int)) : tbL (a ++ b) = tbL a ++ tbL b := by simp [tbL]

def S_grow (pg : Pg) : Prop := ∀ n : Nat, 0 < n → n ≤ 1048576 → Call pg 429 [nil, I n] [nil, I n] (.mem .own (some 1) [])
theorem t_grow {pg : Pg} (hp : pg.fn 429 = some c_slices_Grow_____int64___int64_) : S_grow pg := by
  intro n h0 hn
  refine Call.intro hp rfl (by simp) ?_
  show wp _ _ c_slices_Grow_____int64___int64_.body (post [.t 4] _ _ _) _
  have h1 : ¬ (n : Int) < 0 := by omega
  simp [c_slices_Grow_____int64___int64_, h1, slV_nil0, h0]
  exact ⟨by omega, by unfold roomy; omega, by simp [win]⟩

def S_concat (pg : Pg) : Prop := ∀ a b : List (List Int), 0 < a.length → a.length ≤ 100 → b.length ≤ 100 → Call pg 381 [.mem .old (some 1) [tb a, tb b]] [.mem .old (some 1) [tb a, tb b]] (.mem .own (some 1) (tbL (a ++ b)))
theorem t_concat {pg : Pg} (hp : pg.fn 381 = some c_slices_Concat_____int64___int64_) (h429 : S_grow pg) : S_concat pg := by
  intro a b h0 ha hb
  refine Call.intro hp rfl (by simp) ?_
  show wp _ _ c_slices_Concat_____int64___int64_.body (post [.t 2] _ _ _) _
  simp [c_slices_Concat_____int64___int64_]
  have h1 : ¬ ((a.length : Int) < 0) := by omega
  have h2 : ¬ ((a.length : Int) + b.length < 0) := by omega
  refine wpLoop_round ?_
  simp [h1]
  refine ⟨by omega, ?_⟩
  refine wpLoop_round ?_
  simp [h2]
  refine ⟨by omega, ?_⟩
  refine wpLoop_round ?_
  simp
  refine callR (by simpa using h429 (a.length + b.length) (by omega) (by omega)) rfl rfl (fun _ => by simp) ?_
  simp
  refine wpLoop_round ?_
  simp
  refine ⟨by omega, ⟨by unfold roomy; omega, tbL_cell a⟩, ?_⟩
  refine wpLoop_round ?_
  simp
  refine ⟨by omega, ⟨by unfold roomy; omega, tbL_cell b⟩, ?_⟩
  refine wpLoop_round ?_
  simp [tbL_append]

theorem frzL_rows (k : K) (t : List (List Int)) : T.frzL k (rows t) = t.map fun xs => .mem k (some 1) (xs.map I) := by
  have hI : ∀ xs : List Int, T.frzL k (xs.map I) = xs.map I := fun xs => by
    induction xs with
    | nil => rfl
    | cons x xs ih => simp [ih]
  induction t with
  | nil => rfl
  | cons r t ih =>
    show T.frz k _ :: T.frzL k (rows t) = _
    rw [ih]
    simp [hI]
theorem frz_rows_old (t : List (List Int)) : T.noOwnL (T.frzL .fresh (rows t)) = true ∧ T.eryL .old (T.frzL .fresh (rows t)) = tbL t := by
  rw [frzL_rows]
  induction t with
  | nil => exact ⟨rfl, rfl⟩
  | cons r t ih => exact ⟨by simp [ih.1], by simp [ih.2, tbL]⟩
def S_whole (pg : Pg) : Prop := ∀ f s : List (List Int), PM f s → Call pg 271 [sol f s] [sol f s] (.mem .own (some 1) (tbL (f ++ turnL s)))
theorem t_whole {pg : Pg} (hp : pg.fn 271 = some c_impl_wholeSystem) (h267 : S_turn pg 267) (h381 : S_concat pg) : S_whole pg := by
  intro f s h
  have h0 := h.pos
  have h12 := h.small
  have hls := h.len
  refine Call.intro hp rfl (by simp) ?_
  show wp _ _ c_impl_wholeSystem.body (post [.t 2] _ _ _) _
  simp [c_impl_wholeSystem]
  refine callR (h267 s h.ts (by omega)) rfl rfl (fun _ => by simp) ?_
  obtain ⟨e1, e2⟩ := frz_rows_old (turnL s)
  simp [e1, e2]
  refine callR (h381 f (turnL s) h0 (by omega) (by simp; omega)) rfl rfl (fun hh => by simp at hh) ?_
  simp

/-! ### What is reached from an element -/

def S_orbit (pg : Pg) : Prop := ∀ (ms : List (List Int)) (n i : Nat), Prms n ms → ms.length ≤ 1048576 → n ≤ 1048576 → i < n → ∃ l : List Int, ((∀ x, x ∈ l ↔ Rch ms i x) ∧ l.Nodup) ∧ Call pg 430 [tb ms, I i] [tb ms, I i] (.mem .own (some 1) (l.map I))
set_option maxRecDepth 10000 in
theorem t_l01Orbit {pg : Pg} (hp : pg.fn 430 = some c_spec_l01Orbit) (h62 : S_has pg) : S_orbit pg := by
  intro ms n i hm hml hn hi
  refine Call.find hp rfl (by simp) ?_
  show wp _ _ c_spec_l01Orbit.body (fun x e => ∃ l : List Int, _ ∧ post [.t 4] _ _ _ x e) _
  simp [c_spec_l01Orbit]
  refine wpLoop_lower (α := List Int × Nat) (fun y => n - y.2) (fun y e => (i : Int) ∈ y.1 ∧ y.1.Nodup ∧ (∀ x ∈ y.1, Rch ms i x) ∧ y.2 ≤ y.1.length ∧ (∀ a (ha : a < y.1.length), a < y.2 → ∀ p ∈ ms, act p y.1[a] ∈ y.1) ∧
    e = fr [(0, some (.val (tb ms))), (5, some (.val (.mem .own (some 1) (y.1.map I)))), (6, some (.val (I y.2)))]) ?_ ([(i : Int)], 0) _ ⟨by simp, by simp, by simp [rch_refl], by simp, by simp, by simp⟩
  rintro ⟨l, j⟩ e ⟨g1, g2, g3, g4, g5, rfl⟩
  simp only at g1 g2 g3 g4 g5
  have hrng : ∀ x ∈ l, 0 ≤ x ∧ x < n := fun x hx => rch_rng hm (by omega) (g3 x hx)
  have hlen := nodup_rng_len g2 hrng
  by_cases hj : j < l.length
  · simp [hj]
    refine wpLoop_count (fun q e => ∃ r : List Int, (l ++ r).Nodup ∧ (∀ x ∈ r, Rch ms i x) ∧ (∀ p ∈ ms.take q, act p l[j] ∈ l ++ r) ∧ e = fr [(0, some (.val (tb ms))), (5, some (.val (.mem .own (some 1) ((l ++ r).map I)))), (6, some (.val (I j))), (7, some (.val (I q)))]) ms.length ?_ ?_ 0 _ (by omega) ⟨[], by simpa using g2, by simp, by simp, by simp⟩
    · rintro q e hq ⟨r, k1, k2, k3, rfl⟩
      have hx := hrng _ (List.getElem_mem hj)
      have hpm : ms[q] ∈ ms := List.getElem_mem hq
      have hpl := (hm _ hpm).1
      have hxl : (l[j]).toNat < (ms[q]).length := by omega
      have hact : act ms[q] l[j] = (ms[q])[(l[j]).toNat] := by simp [act, hxl]
      have hlr := nodup_rng_len k1 (fun x hx => by
        rcases List.mem_append.1 hx with h | h
        · exact hrng x h
        · exact rch_rng hm (by omega) (k2 x h))
      have hgj : ∀ h : j < (l ++ r).length, (l ++ r)[j] = l[j] := fun h => List.getElem_append_left hj
      have hjl : j < (l ++ r).length := by simp; omega
      have hrr : Rch ms i (act ms[q] l[j]) := rch_step (g3 _ (List.getElem_mem hj)) hpm
      have hadd : act ms[q] l[j] ∉ l ++ r → (l ++ (r ++ [act ms[q] l[j]])).Nodup := fun hh => by
        rw [← List.append_assoc, List.nodup_append]
        exact ⟨k1, by simp, fun a ha b hb => by simp only [List.mem_singleton] at hb; subst hb; exact fun e => hh (e ▸ ha)⟩
      have hnext : ∀ r', (∀ x ∈ l ++ r, x ∈ l ++ r') → act ms[q] l[j] ∈ l ++ r' → ∀ p ∈ ms.take (q + 1), act p l[j] ∈ l ++ r' := fun r' h1 h2 p hp => by
        rw [List.take_succ_eq_append_getElem hq] at hp
        rcases List.mem_append.1 hp with h | h
        · exact h1 _ (k3 p h)
        · simp only [List.mem_singleton] at h; subst h; exact h2
      have hh := h62 (l ++ r) (act ms[q] l[j]) (by omega)
      have hinr : ∀ x, x ∈ r ++ [act ms[q] l[j]] → Rch ms i x := fun x hx => by
        rcases List.mem_append.1 hx with h | h
        · exact k2 x h
        · simp only [List.mem_singleton] at h; subst h; exact hrr
      have hx2 : l[j] < ((ms[q]).length : Int) := by omega
      by_cases hm2 : act ms[q] l[j] ∈ l ++ r
      · have hfin : ∃ r' : List Int, (l ++ r').Nodup ∧ (∀ x ∈ r', Rch ms i x) ∧ (∀ p ∈ ms.take (q + 1), act p l[j] ∈ l ++ r') ∧ l ++ r = l ++ r' := ⟨r, k1, k2, hnext r (fun _ h => h) hm2, rfl⟩
        clear hnext hadd hinr
        generalize l ++ r = L at *
        simp [hq, hjl, hgj, hx, hx2, hxl, ← hact]
        refine callR hh rfl rfl (fun _ => rfl) ?_
        simp [hm2]
        refine ⟨by omega, ?_⟩
        obtain ⟨r', f1, f2, f3, f4⟩ := hfin
        exact ⟨r', f1, f2, fun p hp => List.mem_append.1 (f3 p hp), by rw [f4]; simp⟩
      · have hfin : ∃ r' : List Int, (l ++ r').Nodup ∧ (∀ x ∈ r', Rch ms i x) ∧ (∀ p ∈ ms.take (q + 1), act p l[j] ∈ l ++ r') ∧ (l ++ r) ++ [act ms[q] l[j]] = l ++ r' :=
          ⟨r ++ [act ms[q] l[j]], hadd hm2, hinr, hnext _ (fun x hx => by rw [← List.append_assoc]; exact List.mem_append_left _ hx) (by rw [← List.append_assoc]; simp), by simp⟩
        clear hnext hadd hinr
        generalize l ++ r = L at *
        simp [hq, hjl, hgj, hx, hx2, hxl, ← hact]
        refine callR hh rfl rfl (fun _ => rfl) ?_
        simp [hm2, hq, hjl, hgj, hx, hx2, hxl, ← hact, roomy]
        refine ⟨by omega, by omega, ?_⟩
        obtain ⟨r', f1, f2, f3, f4⟩ := hfin
        exact ⟨r', f1, f2, fun p hp => List.mem_append.1 (f3 p hp), by rw [← List.map_append, ← f4]; simp⟩
    · rintro e ⟨r, k1, k2, k3, rfl⟩
      rw [List.take_length] at k3
      have g5' : ∀ (a : Nat) (ha : a < (l ++ r).length), a < j + 1 → ∀ p ∈ ms, act p (l ++ r)[a] ∈ l ++ r := fun a ha ha2 p hp => by
        have hal : a < l.length := by omega
        rw [List.getElem_append_left hal]
        by_cases haj : a = j
        · subst haj; exact k3 p hp
        · exact List.mem_append_left _ (g5 a hal (by omega) p hp)
      have g3' : ∀ x ∈ l ++ r, Rch ms i x := fun x hx => by
        rcases List.mem_append.1 hx with h | h
        · exact g3 x h
        · exact k2 x h
      have g1' : (i : Int) ∈ l ++ r := List.mem_append_left _ g1
      have hlr : j + 1 ≤ (l ++ r).length := by simp; omega
      generalize l ++ r = L at *
      simp
      exact ⟨by omega, L, j + 1, by omega, g1', k1, g3', hlr, g5', by simp⟩
  · simp [hj]
    exact ⟨l, ⟨rch_list g1 g3 fun x hx p hp => by
      obtain ⟨a, ha, rfl⟩ := List.getElem_of_mem hx
      exact g5 a ha (by omega) p hp, g2⟩, rfl⟩
end Go.Mch
/- Elements that act alike, twists, of the reference and of the program. -/
namespace Go.Mch

/-- One more than the greatest number, or 0. -/
def greatest (xs : List Int) : Int := xs.foldl (fun a x => if a ≤ x then x + 1 else a) 0
theorem greatest_succ {xs : List Int} {k : Nat} (hk : k < xs.length) : greatest (xs.take (k + 1)) = if greatest (xs.take k) ≤ xs[k] then xs[k] + 1 else greatest (xs.take k) := by
  rw [List.take_succ_eq_append_getElem hk]
  simp only [greatest, List.foldl_append, List.foldl_cons, List.foldl_nil]
  rfl
def S_greatest (pg : Pg) : Prop := ∀ xs : List Int, xs.length ≤ 1048576 → (∀ x ∈ xs, 0 ≤ x ∧ x ≤ 1048576) → Call pg 288 [ix xs] [ix xs] (I (greatest xs))
theorem t_greatest {pg : Pg} (hp : pg.fn 288 = some c_spec_l01Greatest) : S_greatest pg := by
  intro xs hl hx
  refine Call.intro hp rfl (by simp) ?_
  show wp _ _ c_spec_l01Greatest.body (post [.t 2] _ _ _) _
  simp [c_spec_l01Greatest]
  refine wpLoop_count (fun k e => e = fr [(0, some (.val (ix xs))), (3, some (.val (I (greatest (xs.take k))))), (4, some (.val (I k)))]) xs.length ?_ ?_ 0 _ (by omega) ?_
  · rintro k e hk rfl
    have h1 := hx _ (List.getElem_mem hk)
    have hs := greatest_succ hk
    by_cases hg : greatest (xs.take k) ≤ xs[k]
    · rw [if_pos hg] at hs
      simp [hk, hg, hs]
      omega
    · rw [if_neg hg] at hs
      simp [hk, hg, hs]
      omega
  · rintro e rfl
    simp
  · simp [greatest]
def maxL : List Int → Int
  | [] => 0
  | x :: xs => xs.foldl (mmI true) x
theorem maxL_succ {xs : List Int} {k : Nat} (hk : k < xs.length) (h0 : 0 < k) : maxL (xs.take (k + 1)) = mmI true (maxL (xs.take k)) xs[k] := by
  cases xs with
  | nil => simp at hk
  | cons x xs =>
    cases k with
    | zero => omega
    | succ k =>
      have := List.take_succ_eq_append_getElem (show k < xs.length by simpa using hk)
      simp only [List.take_succ_cons, maxL, this, List.foldl_append, List.foldl_cons, List.foldl_nil, List.getElem_cons_succ]
def S_maxL (pg : Pg) : Prop := ∀ xs : List Int, xs.length ≤ 1048576 → 0 < xs.length → Call pg 290 [ix xs] [ix xs] (I (maxL xs))
theorem t_max {pg : Pg} (hp : pg.fn 290 = some c_slices_Max___int64_int64_) : S_maxL pg := by
  intro xs hl h0
  refine Call.intro hp rfl (by simp) ?_
  show wp _ _ c_slices_Max___int64_int64_.body (post [.t 2] _ _ _) _
  have h1 : ¬ (xs.length : Int) < 1 := by omega
  have h0' : (0 : Int) < xs.length := by omega
  simp [c_slices_Max___int64_int64_, h1, h0]
  refine wpLoop_count (fun k e => 0 < k ∧ e = fr [(0, some (.val (ix xs))), (3, some (.val (I (maxL (xs.take k))))), (4, some (.val (I k)))]) xs.length ?_ ?_ 1 _ (by omega) ?_
  · rintro k e hk ⟨hk0, rfl⟩
    have hs := maxL_succ hk hk0
    simp [hk, hs]
    omega
  · rintro e ⟨hk0, rfl⟩
    simp
  · cases xs with
    | nil => simp at h0
    | cons x xs => simp [maxL]
theorem greatest_max : ∀ xs : List Int, 0 < xs.length → (∀ x ∈ xs, 0 ≤ x) → greatest xs = maxL xs + 1 := by
  intro xs h0 hx
  have key : ∀ k, 0 < k → k ≤ xs.length → greatest (xs.take k) = maxL (xs.take k) + 1 := by
    intro k
    induction k with
    | zero => intro h; omega
    | succ k ih =>
      intro _ hk
      rcases Nat.eq_zero_or_pos k with h | h
      · subst h
        cases xs with
        | nil => simp at h0
        | cons x xs =>
          have := hx x (by simp)
          simp [greatest, maxL, this]
      · rw [greatest_succ (by omega), maxL_succ (by omega) h, ih h (by omega)]
        unfold mmI
        simp only [if_true]
        split <;> split <;> omega
  have := key xs.length h0 (Nat.le_refl _)
  simpa using this

/-- Two elements have the same rows in both tables. -/
def eqv (a b : List (List Int)) (i j : Nat) : Prop := a.getD i [] = a.getD j [] ∧ b.getD i [] = b.getD j []
instance (a b : List (List Int)) (i j : Nat) : Decidable (eqv a b i j) := by unfold eqv; infer_instance
/-- The first element that is like element i. -/
def lab (a b : List (List Int)) (i : Nat) : Nat := ((List.range i).find? fun j => decide (eqv a b i j)).getD i
/-- The numbers of the classes of elements that act alike. -/
def classes (f s : List (List Int)) : List Int := renum ((List.range f.length).map fun i => (lab f (turnL s) i : Int))
@[simp] theorem classes_length (f s : List (List Int)) : (classes f s).length = f.length := by simp [classes]
def idL (n : Nat) : List Int := (List.range n).map fun i : Nat => (i : Int)
@[simp] theorem idL_length (n : Nat) : (idL n).length = n := by simp [idL]
/-- The first like ones of the first i elements, then the elements. -/
def midL (a b : List (List Int)) (n i : Nat) : List Int := (List.range n).map fun x : Nat => if x < i then (lab a b x : Int) else (x : Int)
@[simp] theorem midL_length (a b : List (List Int)) (n i : Nat) : (midL a b n i).length = n := by simp [midL]
/-! ### IsTwist -/

end Go.Mch
/- The numbers of the orbits, of the reference and of the program. -/
namespace Go.Mch

def S_orbits (pg : Pg) : Prop := ∀ (ms : List (List Int)) (n : Nat), Prms n ms → ms.length ≤ 1048576 → n ≤ 1048576 → Call pg 387 [I n, tb ms] [I n, tb ms] (.mem .own (some 1) ((orbL ms n).map I))
/-- Numbers, c given to the elements of a list. -/
def putL (lab : List Int) (l : List Int) (c : Int) : List Int := (List.range lab.length).map fun x : Nat => if (x : Int) ∈ l then c else lab.getD x 0
@[simp] theorem putL_length (lab l : List Int) (c : Int) : (putL lab l c).length = lab.length := by simp [putL]
theorem putL_nil (lab : List Int) (c : Int) : putL lab [] c = lab := by
  apply List.ext_getElem
  · simp
  · intro i h1 h2
    simp [putL, h2]
theorem putL_get {lab l : List Int} {c : Int} {x : Nat} (h : x < lab.length) : (putL lab l c).getD x 0 = if (x : Int) ∈ l then c else lab.getD x 0 := by
  simp [putL, h]
theorem putL_snoc (lab l : List Int) (c y : Int) (hy : 0 ≤ y) : (putL lab l c).set y.toNat c = putL lab (l ++ [y]) c := by
  apply List.ext_getElem
  · simp
  · intro i h1 h2
    simp only [List.getElem_set, putL, List.getElem_map, List.getElem_range, List.mem_append, List.mem_singleton]
    by_cases hi : y.toNat = i
    · have : (i : Int) = y := by omega
      simp [hi, this]
    · have : ¬ (i : Int) = y := by omega
      simp [hi, this]
theorem putL_mark {ms : List (List Int)} {i : Int} {l lab : List Int} {c : Int} (h : ∀ x, x ∈ l ↔ Rch ms i x) : putL lab l c = markO ms i lab c := by
  apply List.map_congr_left
  intro x _
  by_cases hx : (x : Int) ∈ l
  · simp [hx, dec_true ((h x).1 hx)]
  · simp [hx, dec_false (fun hh => hx ((h x).2 hh))]

set_option maxRecDepth 10000 in
theorem t_l01Orbits {pg : Pg} (hp : pg.fn 387 = some c_spec_l01Orbits) (h430 : S_orbit pg) : S_orbits pg := by
  intro ms n hm hml hn
  refine Call.intro hp rfl (by simp) ?_
  show wp _ _ c_spec_l01Orbits.body (post [.t 4] _ _ _) _
  simp [c_spec_l01Orbits]
  refine wpLoop_count (fun k e => e = fr [(0, some (.val (I n))), (1, some (.val (tb ms))), (5, some (.val (.mem .own (some 1) (List.replicate k (I (-1)))))), (6, some (.val (I k)))]) n ?_ ?_ 0 _ (by omega) ?_
  · rintro k e hk rfl
    simp [hk, roomy, List.replicate_succ']
    omega
  · rintro e rfl
    simp
    refine wpLoop_count (fun k e => e = fr [(0, some (.val (I n))), (1, some (.val (tb ms))), (5, some (.val (.mem .own (some 1) ((orbS ms n k).1.map I)))), (7, some (.val (I (orbS ms n k).2))), (8, some (.val (I k)))]) n ?_ ?_ 0 _ (by omega) ?_
    · rintro k e hk rfl
      have hl := orbS_length ms n k
      have hc := orbS_cnt ms n k
      have hkl : k < (orbS ms n k).1.length := by omega
      have hg : (orbS ms n k).1.getD k 0 = (orbS ms n k).1[k] := by rw [List.getD_eq_getElem?_getD, List.getElem?_eq_getElem hkl]; rfl
      by_cases h0 : 0 ≤ (orbS ms n k).1[k]
      · have hs : orbS ms n (k + 1) = orbS ms n k := by rw [orbS, hg, if_pos h0]
        simp [hk, h0, hs]
        omega
      · obtain ⟨l, ⟨q1, q2⟩, q3⟩ := h430 ms n k hm hml hn hk
        have hs : orbS ms n (k + 1) = (putL (orbS ms n k).1 l (orbS ms n k).2, (orbS ms n k).2 + 1) := by rw [orbS, hg, if_neg h0, putL_mark q1]
        have hrng : ∀ x ∈ l, 0 ≤ x ∧ x < n := fun x hx => rch_rng hm (by omega) ((q1 x).1 hx)
        have hll := nodup_rng_len q2 hrng
        rw [hs]
        generalize orbS ms n k = S at *
        simp [hk, hkl, h0]
        refine callR q3 rfl rfl (fun _ => by simp) ?_
        simp
        refine wpLoop_count (fun c e => e = fr [(0, some (.val (I n))), (1, some (.val (tb ms))), (5, some (.val (.mem .own (some 1) ((putL S.1 (l.take c) S.2).map I)))), (7, some (.val (I S.2))), (8, some (.val (I k))), (9, some (.val (.mem .own (some 1) (l.map I)))), (10, some (.val (I c)))]) l.length ?_ ?_ 0 _ (by omega) ?_
        · rintro c e hc2 rfl
          have hx := hrng _ (List.getElem_mem hc2)
          have hxn : (l[c]).toNat < n := by omega
          have hp := putL_snoc S.1 (l.take c) S.2 l[c] hx.1
          rw [← List.take_succ_eq_append_getElem hc2] at hp
          rw [← hp]
          simp [hc2, hx, hl, hxn]
          omega
        · rintro e rfl
          simp
          omega
        · simp [putL_nil]
    · rintro e rfl
      simp [orbL]
    · simp [orbS]
  · simp

/-- What is reached from an element without a number has none. -/
theorem orbS_open {ms : List (List Int)} {n : Nat} (h : Prms n ms) {k : Nat} (hk : k < n) (h0 : ¬ 0 ≤ (orbS ms n k).1.getD k 0) {x : Int} (hx : Rch ms k x) : ¬ 0 ≤ (orbS ms n k).1.getD x.toNat 0 := by
  have := hx (fun x => (0 ≤ x ∧ x < n) ∧ ¬ ((0 ≤ x ∧ x < n) ∧ 0 ≤ (orbS ms n k).1.getD x.toNat 0)) ⟨by omega, fun hh => h0 (by simpa using hh.2)⟩ fun y hy p hp =>
    ⟨act_rng h hp hy.1, compl_closed h (orbS_closed h k (by omega)) hy.1 hy.2 hp⟩
  exact fun hh => this.2 ⟨this.1, hh⟩
def S_labels (pg : Pg) : Prop := ∀ (ms : List (List Int)) (n : Nat), Prms n ms → ms.length ≤ 1048576 → n ≤ 1048576 → Call pg 388 [I n, tb ms] [I n, tb ms] (.mem .own (some 1) ((orbL ms n).map I))
set_option maxRecDepth 10000 in
theorem t_orbitLabels {pg : Pg} (hp : pg.fn 388 = some c_impl_orbitLabels) : S_labels pg := by
  intro ms n hm hml hn
  refine Call.intro hp rfl (by simp) ?_
  show wp _ _ c_impl_orbitLabels.body (post [.t 4] _ _ _) _
  simp [c_impl_orbitLabels]
  refine ⟨by unfold roomy; omega, ?_⟩
  refine wpLoop_count (fun k e => e = fr [(1, some (.val (tb ms))), (5, some (.val (.mem .own (some 1) (List.replicate k (I (-1)) ++ List.replicate (n - k) (I 0))))), (16, some (.val (I n))), (17, some (.val (I k)))]) n ?_ ?_ 0 _ (by omega) ?_
  · rintro k e hk rfl
    have hlen : (List.replicate k (I (-1))).length = k := by simp
    rw [fill_succ (I 0) hk]
    simp [hk, set_mid hlen, List.replicate_succ']
    omega
  · rintro e rfl
    simp
    refine wpLoop_count (fun k e => e = fr [(1, some (.val (tb ms))), (5, some (.val (.mem .own (some 1) ((orbS ms n k).1.map I)))), (7, some (.val (I (orbS ms n k).2))), (25, some (.val (I n))), (26, some (.val (I k)))]) n ?_ ?_ 0 _ (by omega) ?_
    · rintro k e hk rfl
      have hl := orbS_length ms n k
      have hc := orbS_cnt ms n k
      have hkl : k < (orbS ms n k).1.length := by omega
      have hg : (orbS ms n k).1.getD k 0 = (orbS ms n k).1[k] := by rw [List.getD_eq_getElem?_getD, List.getElem?_eq_getElem hkl]; rfl
      by_cases h0 : 0 ≤ (orbS ms n k).1[k]
      · have hs : orbS ms n (k + 1) = orbS ms n k := by rw [orbS, hg, if_pos h0]
        simp [hk, h0, hs]
        omega
      · have hopen := fun {x : Int} (hx : Rch ms k x) => orbS_open hm hk (by rw [hg]; exact h0) hx
        have hs : orbS ms n (k + 1) = (markO ms k (orbS ms n k).1 (orbS ms n k).2, (orbS ms n k).2 + 1) := by rw [orbS, hg, if_neg h0]
        rw [hs]
        generalize orbS ms n k = S at *
        have hput : S.1.set k S.2 = putL S.1 [(k : Int)] S.2 := by
          have := putL_snoc S.1 [] S.2 k (by omega)
          rw [putL_nil] at this
          exact this
        simp [hk, hkl, h0]
        refine ⟨by omega, ?_⟩
        refine wpLoop_lower (α := List Int × Nat) (fun y => n - y.2) (fun y e => (k : Int) ∈ y.1 ∧ y.1.Nodup ∧ (∀ x ∈ y.1, Rch ms k x) ∧ y.2 ≤ y.1.length ∧ (∀ a (ha : a < y.1.length), a < y.2 → ∀ p ∈ ms, act p y.1[a] ∈ y.1) ∧
          e = fr [(1, some (.val (tb ms))), (5, some (.val (.mem .own (some 1) ((putL S.1 y.1 S.2).map I)))), (7, some (.val (I S.2))), (9, some (.val (.mem .own (some 1) ((y.1.drop y.2).map I)))), (25, some (.val (I n))), (26, some (.val (I k)))]) ?_ ([(k : Int)], 0) _ ⟨by simp, by simp, by simp [rch_refl], by simp, by simp, ?_⟩
        case refine_2 => simp [← hput]
        rintro ⟨V, d⟩ e ⟨g1, g2, g3, g4, g5, rfl⟩
        simp only at g1 g2 g3 g4 g5
        have hrng : ∀ x ∈ V, 0 ≤ x ∧ x < n := fun x hx => rch_rng hm (by omega) (g3 x hx)
        have hlen := nodup_rng_len g2 hrng
        by_cases hd : d < V.length
        · have hx := hrng _ (List.getElem_mem hd)
          have hdn : ∀ r : List Int, (V ++ r).drop (d + 1) = V.drop (d + 1) ++ r := fun r => List.drop_append_of_le_length (by omega)
          rw [List.drop_eq_getElem_cons hd]
          generalize V.drop (d + 1) = Q at *
          simp
          refine wpLoop_count (fun q e => ∃ r : List Int, (V ++ r).Nodup ∧ (∀ x ∈ V ++ r, Rch ms k x) ∧ (∀ p ∈ ms.take q, act p V[d] ∈ V ++ r) ∧
            e = fr [(1, some (.val (tb ms))), (5, some (.val (.mem .own (some 1) ((putL S.1 (V ++ r) S.2).map I)))), (7, some (.val (I S.2))), (9, some (.val (.mem .own (some 1) (I V[d] :: (Q ++ r).map I)))), (25, some (.val (I n))), (26, some (.val (I k))), (45, some (.val (tb ms))), (46, some (.val (I ms.length))), (47, some (.val (I q)))]) ms.length ?_ ?_ 0 _ (by omega) ⟨[], by simpa using g2, by simpa using g3, by simp, by simp⟩
          · rintro q e hq ⟨r, k1, k2, k3, rfl⟩
            have hpm : ms[q] ∈ ms := List.getElem_mem hq
            have hpl := (hm _ hpm).1
            have hxl : (V[d]).toNat < (ms[q]).length := by omega
            have hact : act ms[q] V[d] = (ms[q])[(V[d]).toNat] := by simp [act, hxl]
            have hrr : Rch ms k (act ms[q] V[d]) := rch_step (g3 _ (List.getElem_mem hd)) hpm
            have hyr := act_rng hm hpm hx
            have hyo := hopen hrr
            have hx2 : V[d] < ((ms[q]).length : Int) := by omega
            have hnext : ∀ r', (∀ x ∈ V ++ r, x ∈ V ++ r') → act ms[q] V[d] ∈ V ++ r' → ∀ p ∈ ms.take (q + 1), act p V[d] ∈ V ++ r' := fun r' h1 h2 p hp => by
              rw [List.take_succ_eq_append_getElem hq] at hp
              rcases List.mem_append.1 hp with h | h
              · exact h1 _ (k3 p h)
              · simp only [List.mem_singleton] at h; subst h; exact h2
            have hpg := putL_get (lab := S.1) (l := V ++ r) (c := S.2) (x := (act ms[q] V[d]).toNat) (by omega)
            rw [show (((act ms[q] V[d]).toNat : Nat) : Int) = act ms[q] V[d] from by omega] at hpg
            have hyl : (act ms[q] V[d]).toNat < S.1.length := by omega
            have hyl2 : act ms[q] V[d] < S.1.length := by omega
            have hpe : ∀ h : (act ms[q] V[d]).toNat < (putL S.1 (V ++ r) S.2).length, (putL S.1 (V ++ r) S.2)[(act ms[q] V[d]).toNat] = (putL S.1 (V ++ r) S.2).getD (act ms[q] V[d]).toNat 0 := fun h => by
              rw [List.getD_eq_getElem?_getD, List.getElem?_eq_getElem h]; rfl
            rw [hpg] at hpe
            have hsnoc := putL_snoc S.1 (V ++ r) S.2 (act ms[q] V[d]) hyr.1
            by_cases hm2 : act ms[q] V[d] ∈ V ++ r
            · have hfin : ∃ r' : List Int, (V ++ r').Nodup ∧ (∀ x ∈ V ++ r', Rch ms k x) ∧ (∀ p ∈ ms.take (q + 1), act p V[d] ∈ V ++ r') ∧ V ++ r = V ++ r' ∧ Q ++ r = Q ++ r' := ⟨r, k1, k2, hnext r (fun _ h => h) hm2, rfl, rfl⟩
              rw [if_pos hm2] at hpe
              have hc0 : ¬ S.2 < 0 := by omega
              clear hnext hpg hsnoc
              generalize V ++ r = L at *
              generalize Q ++ r = Q' at *
              simp [hq, hx, hx2, hxl, ← hact, hyr, hyl, hyl2, hpe, hc0]
              refine ⟨by omega, ?_⟩
              obtain ⟨r', f1, f2, f3, f4, f5⟩ := hfin
              exact ⟨r', f1, fun x hx => f2 x (List.mem_append.2 hx), fun p hp => List.mem_append.1 (f3 p hp), by rw [f4, f5]; simp⟩
            · have hfin : ∃ r' : List Int, (V ++ r').Nodup ∧ (∀ x ∈ V ++ r', Rch ms k x) ∧ (∀ p ∈ ms.take (q + 1), act p V[d] ∈ V ++ r') ∧ (V ++ r) ++ [act ms[q] V[d]] = V ++ r' ∧ (Q ++ r) ++ [act ms[q] V[d]] = Q ++ r' := by
                refine ⟨r ++ [act ms[q] V[d]], ?_, ?_, hnext _ (fun x hx => by rw [← List.append_assoc]; exact List.mem_append_left _ hx) (by rw [← List.append_assoc]; simp), by simp, by simp⟩
                · rw [← List.append_assoc, List.nodup_append]
                  exact ⟨k1, by simp, fun a ha b hb => by simp only [List.mem_singleton] at hb; subst hb; exact fun e => hm2 (e ▸ ha)⟩
                · intro x hx
                  rw [← List.append_assoc] at hx
                  rcases List.mem_append.1 hx with h | h
                  · exact k2 x h
                  · simp only [List.mem_singleton] at h; subst h; exact hrr
              rw [if_neg hm2] at hpe
              have hc0 : S.1.getD (act ms[q] V[d]).toNat 0 < 0 := by omega
              have hlr := nodup_rng_len k1 fun x hx => rch_rng hm (by omega) (k2 x hx)
              have hQl : (Q ++ r).length ≤ (V ++ r).length := by
                have := congrArg List.length (hdn r)
                rw [List.length_drop] at this
                omega
              clear hnext hpg
              generalize V ++ r = L at *
              generalize Q ++ r = Q' at *
              generalize S.1.getD (act ms[q] V[d]).toNat 0 = z at *
              simp [hq, hx, hx2, hxl, ← hact, hyr, hyl, hyl2, hpe, hc0, roomy]
              refine ⟨by omega, by omega, by omega, ?_⟩
              obtain ⟨r', f1, f2, f3, f4, f5⟩ := hfin
              refine ⟨r', f1, fun x hx => f2 x (List.mem_append.2 hx), fun p hp => List.mem_append.1 (f3 p hp), ?_⟩
              rw [← f4, ← hsnoc, ← List.map_append, ← f5]
              simp
          · rintro e ⟨r, k1, k2, k3, rfl⟩
            rw [List.take_length] at k3
            have g5' : ∀ (a : Nat) (ha : a < (V ++ r).length), a < d + 1 → ∀ p ∈ ms, act p (V ++ r)[a] ∈ V ++ r := fun a ha ha2 p hp => by
              have hal : a < V.length := by omega
              rw [List.getElem_append_left hal]
              by_cases had : a = d
              · subst had; exact k3 p hp
              · exact List.mem_append_left _ (g5 a hal (by omega) p hp)
            have g1' : (k : Int) ∈ V ++ r := List.mem_append_left _ g1
            have hlr : d + 1 ≤ (V ++ r).length := by simp; omega
            have hdn' := hdn r
            clear hdn
            generalize V ++ r = L at *
            generalize Q ++ r = Q' at *
            simp
            refine ⟨by omega, by omega, L, d + 1, by omega, g1', k1, k2, hlr, g5', ?_⟩
            rw [← List.map_drop, hdn']
            simp [win]
        · have hcl := rch_list g1 g3 fun x hx p hp => by
            obtain ⟨a, ha, rfl⟩ := List.getElem_of_mem hx
            exact g5 a ha (by omega) p hp
          have hd2 : V.length - d = 0 := by omega
          have hpm := putL_mark (lab := S.1) (c := S.2) hcl
          simp [hd2, hpm]
          omega
    · rintro e rfl
      simp [orbL]
    · simp [orbS]
  · simp
end Go.Mch
/- OrbitsOfSolution, IsIndecomposable, of the reference and of the program. -/
namespace Go.Mch

/-- The numbers of the orbits of a solution. -/
noncomputable def solO (f s : List (List Int)) : List Int := orbL (f ++ turnL s) f.length
@[simp] theorem solO_length (f s : List (List Int)) : (solO f s).length = f.length := by simp [solO]
theorem prms_of {f s : List (List Int)} (h : PM f s) (hn : nonDeg f s) : Prms f.length (f ++ turnL s) := fun p hp => by
  rcases List.mem_append.1 hp with h1 | h1
  · exact ⟨by have := (h.tf p h1).1; omega, hn.1 p h1⟩
  · exact ⟨by rw [tabL_row h1, h.len], hn.2 p h1⟩
theorem orbL_rng {ms : List (List Int)} {n : Nat} {x : Int} (hx : x ∈ orbL ms n) : 0 ≤ x ∧ x < n := by
  obtain ⟨i, hi, rfl⟩ := List.getElem_of_mem hx
  simp only [orbL_length] at hi
  have h1 := orbS_done ms n n (Nat.le_refl _) i hi
  have h2 := orbS_rng ms n n i hi
  have h3 := orbS_cnt ms n n
  have : (orbS ms n n).1.getD i 0 = (orbL ms n)[i] := by
    rw [List.getD_eq_getElem?_getD, List.getElem?_eq_getElem (by simpa using hi)]; rfl
  omega
theorem solO_rng {f s : List (List Int)} {x : Int} (hx : x ∈ solO f s) : 0 ≤ x ∧ x < f.length := orbL_rng hx

def S_solO (pg : Pg) (n : Nat) : Prop := ∀ f s : List (List Int), PM f s → nonDeg f s → Call pg n [sol f s] [sol f s] (.mem .own (some 1) ((solO f s).map I))
theorem t_l07Orbits {pg : Pg} (hp : pg.fn 299 = some c_spec_l07Orbits) (h273 : S_both pg) (h387 : S_orbits pg) : S_solO pg 299 := by
  intro f s h hn
  have h12 := h.small
  have hl := h.len
  refine Call.intro hp rfl (by simp) ?_
  show wp _ _ c_spec_l07Orbits.body (post [.t 2] _ _ _) _
  simp [c_spec_l07Orbits]
  refine callR (h273 f s h) rfl rfl (fun _ => by simp) ?_
  simp
  refine callR (h387 (f ++ turnL s) f.length (prms_of h hn) (by simp; omega) (by omega)) rfl rfl (fun _ => by simp) ?_
  simp [solO]
theorem t_solutionOrbits {pg : Pg} (hp : pg.fn 301 = some c_impl_solutionOrbits) (h271 : S_whole pg) (h388 : S_labels pg) : S_solO pg 301 := by
  intro f s h hn
  have h12 := h.small
  have hl := h.len
  refine Call.intro hp rfl (by simp) ?_
  show wp _ _ c_impl_solutionOrbits.body (post [.t 2] _ _ _) _
  simp [c_impl_solutionOrbits]
  refine callR (h271 f s h) rfl rfl (fun hh => by simp at hh) ?_
  simp
  refine callR (h388 (f ++ turnL s) f.length (prms_of h hn) (by simp; omega) (by omega)) rfl rfl (fun _ => by simp) ?_
  simp [solO]

/-! ### IsIndecomposable -/

end Go.Mch
/- DecompositionOf, of the reference and of the program. -/
namespace Go.Mch

/-- The first k places at which a list has a number with a property. -/
def plK (xs : List Int) (P : Int → Bool) (k : Nat) : List Int := ((List.range k).filter fun i => P (xs.getD i 0)).map fun i : Nat => (i : Int)
def pl (xs : List Int) (P : Int → Bool) : List Int := plK xs P xs.length
theorem plK_succ {xs : List Int} {P : Int → Bool} {k : Nat} (hk : k < xs.length) : plK xs P (k + 1) = if P xs[k] then plK xs P k ++ [(k : Int)] else plK xs P k := by
  have hg : xs.getD k 0 = xs[k] := by rw [List.getD_eq_getElem?_getD, List.getElem?_eq_getElem hk]; rfl
  simp only [plK, List.range_succ, List.filter_append, List.filter_cons, List.filter_nil, hg]
  by_cases h : P xs[k] = true
  · simp [h]
  · simp [h]
theorem plK_len (xs : List Int) (P : Int → Bool) (k : Nat) : (plK xs P k).length ≤ k := by
  have := List.length_filter_le (fun i => P (xs.getD i 0)) (List.range k)
  simpa [plK] using this
/-- A list that was appended to nil. -/
def ownN (xs : List Int) : T := if xs = [] then nil else .mem .own (some 1) (xs.map I)
theorem ownN_ne {xs : List Int} (h : xs ≠ []) : ownN xs = .mem .own (some 1) (xs.map I) := by simp [ownN, h]

def S_places (pg : Pg) : Prop := ∀ (xs : List Int) (v : Int), xs.length ≤ 1048576 → Call pg 318 [ix xs, I v] [ix xs, I v] (ownN (pl xs fun x => decide (x = v)))
theorem t_placesOf {pg : Pg} (hp : pg.fn 318 = some c_impl_placesOf) : S_places pg := by
  intro xs v hl
  refine Call.intro hp rfl (by simp) ?_
  show wp _ _ c_impl_placesOf.body (post [.t 4] _ _ _) _
  simp [c_impl_placesOf]
  refine wpLoop_count (fun k e => e = fr [(1, some (.val (I v))), (5, some (.val (ownN (plK xs (fun x => decide (x = v)) k)))), (8, some (.val (ix xs))), (9, some (.val (I xs.length))), (10, some (.val (I k)))]) xs.length ?_ ?_ 0 _ (by omega) ?_
  · rintro k e hk rfl
    have hs := plK_succ (P := fun x => decide (x = v)) hk
    have hl2 := plK_len xs (fun x => decide (x = v)) k
    generalize plK xs (fun x => decide (x = v)) k = L at *
    generalize plK xs (fun x => decide (x = v)) (k + 1) = L' at *
    by_cases hv : xs[k] = v
    · simp [hv] at hs
      subst hs
      by_cases hL : L = []
      · subst hL
        simp [hk, hv, ownN, roomy]
        omega
      · have hL' : L ++ [(k : Int)] ≠ [] := by simp
        simp [hk, hv, ownN_ne hL, ownN_ne hL', roomy]
        omega
    · simp [hv] at hs
      subst hs
      by_cases hL : L' = []
      · subst hL
        simp [hk, hv, ownN]
        omega
      · simp [hk, hv, ownN_ne hL]
        omega
  · rintro e rfl
    have hpl : pl xs (fun x => decide (x = v)) = plK xs (fun x => decide (x = v)) xs.length := rfl
    rw [hpl]
    generalize plK xs (fun x => decide (x = v)) xs.length = L
    by_cases hL : L = []
    · subst hL
      simp [ownN]
    · simp [ownN_ne hL]
  · simp [plK, ownN]

theorem orbS_keep {ms : List (List Int)} {n : Nat} (h : Prms n ms) {k x : Nat} (hk : k < n) (hx : x < n) (h0 : 0 ≤ (orbS ms n k).1.getD x 0) : (orbS ms n (k + 1)).1.getD x 0 = (orbS ms n k).1.getD x 0 := by
  have hs : orbS ms n (k + 1) = if 0 ≤ (orbS ms n k).1.getD k 0 then orbS ms n k else (markO ms k (orbS ms n k).1 (orbS ms n k).2, (orbS ms n k).2 + 1) := rfl
  rw [hs]
  split
  · rfl
  · rename_i hn
    rw [markO_get (by simpa using hx)]
    have : ¬ Rch ms k x := fun hr => orbS_open h hk hn hr (by simpa using h0)
    rw [dec_false this]
    rfl
end Go.Mch
/- FixedElements, of the reference and of the program. -/
namespace Go.Mch

theorem orbS_next (ms : List (List Int)) (n k : Nat) : orbS ms n (k + 1) = if 0 ≤ (orbS ms n k).1.getD k 0 then orbS ms n k else (markO ms k (orbS ms n k).1 (orbS ms n k).2, (orbS ms n k).2 + 1) := rfl
/-- Maps keep to the numbers. -/
theorem orbS_act {ms : List (List Int)} {n : Nat} (h : Prms n ms) (k : Nat) (hk : k ≤ n) : ∀ x, x < n → 0 ≤ (orbS ms n k).1.getD x 0 → ∀ p ∈ ms, (orbS ms n k).1.getD (act p x).toNat 0 = (orbS ms n k).1.getD x 0 := by
  induction k with
  | zero => intro x hx h0; simp [orbS, hx] at h0
  | succ k ih =>
    intro x hx h0 p hp
    have ih := ih (by omega)
    have hr := act_rng h hp (x := x) (by omega)
    rw [orbS_next] at h0 ⊢
    split at h0
    · rename_i h3
      rw [if_pos h3]
      exact ih x hx h0 p hp
    · rename_i h3
      rw [if_neg h3]
      have e2 : (((act p x).toNat : Nat) : Int) = act p x := by omega
      simp only at h0 ⊢
      rw [markO_get (by simpa using hx)] at h0
      rw [markO_get (by simp; omega), markO_get (by simpa using hx), e2]
      by_cases hR : Rch ms k x
      · rw [dec_true hR, dec_true (rch_step hR hp)]
        rfl
      · rw [dec_false hR] at h0 ⊢
        have hR2 : ¬ Rch ms k (act p x) := compl_closed h (S := Rch ms k) (fun y hy q hq => rch_step hy hq) (by omega) hR hp
        rw [dec_false hR2]
        exact ih x hx h0 p hp
theorem orbL_act {ms : List (List Int)} {n : Nat} (h : Prms n ms) {x : Nat} (hx : x < n) {p : List Int} (hp : p ∈ ms) : (orbL ms n).getD (act p x).toNat 0 = (orbL ms n).getD x 0 :=
  orbS_act h n (Nat.le_refl _) x hx (orbS_done ms n n (Nat.le_refl _) x hx) p hp
def S_members (pg : Pg) : Prop := ∀ (xs : List Int) (v : Int), xs.length ≤ 1048576 → Call pg 316 [ix xs, I v] [ix xs, I v] (.mem .own (some 1) ((pl xs fun x => decide (x = v)).map I))
theorem t_members {pg : Pg} (hp : pg.fn 316 = some c_spec_l07Members) : S_members pg := by
  intro xs v hl
  refine Call.intro hp rfl (by simp) ?_
  show wp _ _ c_spec_l07Members.body (post [.t 4] _ _ _) _
  simp [c_spec_l07Members]
  refine wpLoop_count (fun k e => e = fr [(0, some (.val (ix xs))), (1, some (.val (I v))), (5, some (.val (.mem .own (some 1) ((plK xs (fun x => decide (x = v)) k).map I)))), (6, some (.val (I k)))]) xs.length ?_ ?_ 0 _ (by omega) ?_
  · rintro k e hk rfl
    have hs := plK_succ (P := fun x => decide (x = v)) hk
    have hl2 := plK_len xs (fun x => decide (x = v)) k
    generalize plK xs (fun x => decide (x = v)) k = L at *
    generalize plK xs (fun x => decide (x = v)) (k + 1) = L' at *
    by_cases hv : xs[k] = v
    · simp [hv] at hs
      subst hs
      simp [hk, hv, roomy]
      omega
    · simp [hv] at hs
      subst hs
      simp [hk, hv]
      omega
  · rintro e rfl
    have hpl : pl xs (fun x => decide (x = v)) = plK xs (fun x => decide (x = v)) xs.length := rfl
    rw [hpl]
    simp
  · simp [plK]
theorem le_greatest : ∀ (xs : List Int) {x : Int}, x ∈ xs → x + 1 ≤ greatest xs := by
  intro xs x hx
  have key : ∀ (l : List Int) (a : Int), a ≤ l.foldl (fun a x => if a ≤ x then x + 1 else a) a ∧ ∀ y ∈ l, y + 1 ≤ l.foldl (fun a x => if a ≤ x then x + 1 else a) a := by
    intro l
    induction l with
    | nil => intro a; simp
    | cons z l ih =>
      intro a
      simp only [List.foldl_cons]
      obtain ⟨i1, i2⟩ := ih (if a ≤ z then z + 1 else a)
      refine ⟨?_, ?_⟩
      · split at i1 <;> rename_i hh
        · rw [if_pos hh]; omega
        · rw [if_neg hh]; omega
      · intro y hy
        rcases List.mem_cons.1 hy with rfl | hy
        · split at i1 <;> rename_i hh
          · rw [if_pos hh]; omega
          · rw [if_neg hh]; omega
        · exact i2 y hy
  exact (key xs 0).2 x hx
theorem greatest_nn (xs : List Int) (_ : ∀ x ∈ xs, 0 ≤ x) : 0 ≤ greatest xs := by
  have key : ∀ (l : List Int) (a : Int), a ≤ l.foldl (fun a x => if a ≤ x then x + 1 else a) a := by
    intro l
    induction l with
    | nil => intro a; simp
    | cons z l ih =>
      intro a
      simp only [List.foldl_cons]
      refine Int.le_trans ?_ (ih _)
      split <;> omega
  exact key xs 0
theorem greatest_le (xs : List Int) (m : Int) (hm : 0 ≤ m) (h : ∀ x ∈ xs, x < m) : greatest xs ≤ m := by
  have key : ∀ (l : List Int) (a : Int), a ≤ m → (∀ x ∈ l, x < m) → l.foldl (fun a x => if a ≤ x then x + 1 else a) a ≤ m := by
    intro l
    induction l with
    | nil => intro a ha _; simpa using ha
    | cons z l ih =>
      intro a ha hl
      simp only [List.foldl_cons]
      have := hl z (by simp)
      refine ih _ ?_ fun x hx => hl x (by simp [hx])
      split <;> omega
  exact key xs 0 hm h
end Go.Mch
/- Elements that act alike are led to elements that act alike: in plain Lean. -/
namespace Go.Mch

/-- A nondegenerate solution, by its maps. -/
structure Nd (n : Nat) (σ τ : Nat → Nat → Nat) : Prop where
  rs : ∀ x y, x < n → y < n → σ x y < n
  rt : ∀ x y, x < n → y < n → τ x y < n
  is : ∀ x y y', x < n → y < n → y' < n → σ x y = σ x y' → y = y'
  it : ∀ x y y', x < n → y < n → y' < n → τ x y = τ x y' → y = y'
  ss : ∀ x w, x < n → w < n → ∃ y, y < n ∧ σ x y = w
  st : ∀ x w, x < n → w < n → ∃ y, y < n ∧ τ x y = w
  e1 : ∀ x y z, x < n → y < n → z < n → σ (σ x y) (σ (τ y x) z) = σ x (σ y z)
  e2 : ∀ x y z, x < n → y < n → z < n → τ (σ (τ y x) z) (σ x y) = σ (τ (σ y z) x) (τ z y)
  e3 : ∀ x y z, x < n → y < n → z < n → τ z (τ y x) = τ (τ z y) (τ (σ y z) x)

/-- Two elements act alike. -/
def Alk (n : Nat) (σ τ : Nat → Nat → Nat) (x x' : Nat) : Prop := ∀ y, y < n → σ x y = σ x' y ∧ τ x y = τ x' y
theorem Nd.c1 {n : Nat} {σ τ : Nat → Nat → Nat} (h : Nd n σ τ) {x y y' : Nat} (hx : x < n) (hy : y < n) (hy' : y' < n) (ha : Alk n σ τ y y') : Alk n σ τ (σ x y) (σ x y') := by
  intro w hw
  have ht := (ha x hx).2
  constructor
  · obtain ⟨z, hz, rfl⟩ := h.ss (τ y x) w (h.rt _ _ hy hx) hw
    have a1 := h.e1 x y z hx hy hz
    have a2 := h.e1 x y' z hx hy' hz
    rw [← ht] at a2
    rw [a1, a2, (ha z hz).1]
  · have a1 := h.e3 w x y hw hx hy
    have a2 := h.e3 w x y' hw hx hy'
    rw [← (ha _ (h.rt x w hx hw)).2, a1, ← ht] at a2
    exact h.it _ _ _ (h.rt _ _ hy hx) (h.rt _ _ (h.rs _ _ hx hy) hw) (h.rt _ _ (h.rs _ _ hx hy') hw) a2
theorem Nd.c2 {n : Nat} {σ τ : Nat → Nat → Nat} (h : Nd n σ τ) {x x' y : Nat} (hx : x < n) (hx' : x' < n) (hy : y < n) (ha : Alk n σ τ x x') : Alk n σ τ (τ y x) (τ y x') := by
  intro w hw
  have hs := (ha y hy).1
  constructor
  · have a1 := h.e1 x y w hx hy hw
    have a2 := h.e1 x' y w hx' hy hw
    rw [← (ha _ (h.rs y w hy hw)).1, ← a1, ← hs] at a2
    exact (h.is _ _ _ (h.rs _ _ hx hy) (h.rs _ _ (h.rt _ _ hy hx') hw) (h.rs _ _ (h.rt _ _ hy hx) hw) a2).symm
  · obtain ⟨u, hu, rfl⟩ := h.st (σ x y) w (h.rs _ _ hx hy) hw
    have a1 := h.e3 u x y hu hx hy
    have a2 := h.e3 u x' y hu hx' hy
    rw [← (ha u hu).2, a1, ← hs] at a2
    exact a2

/-- A quotient: c numbers the classes, d gives an element of each. -/
structure Quo (n m : Nat) (σ τ : Nat → Nat → Nat) (c d : Nat → Nat) : Prop where
  cm : ∀ x, x < n → c x < m
  dn : ∀ i, i < m → d i < n
  cd : ∀ i, i < m → c (d i) = i
  ca : ∀ x x', x < n → x' < n → (c x = c x' ↔ Alk n σ τ x x')
theorem Quo.al {n m : Nat} {σ τ : Nat → Nat → Nat} {c d : Nat → Nat} (q : Quo n m σ τ c d) {x : Nat} (hx : x < n) : Alk n σ τ (d (c x)) x :=
  (q.ca _ _ (q.dn _ (q.cm x hx)) hx).1 (q.cd _ (q.cm x hx))
/-- The maps of the quotient may be read off at any elements. -/
theorem Quo.fs {n m : Nat} {σ τ : Nat → Nat → Nat} {c d : Nat → Nat} (h : Nd n σ τ) (q : Quo n m σ τ c d) {x y : Nat} (hx : x < n) (hy : y < n) : c (σ (d (c x)) (d (c y))) = c (σ x y) := by
  have h1 := q.dn _ (q.cm x hx)
  have h2 := q.dn _ (q.cm y hy)
  rw [(q.al hx _ h2).1]
  exact (q.ca _ _ (h.rs _ _ hx h2) (h.rs _ _ hx hy)).2 (h.c1 hx h2 hy (q.al hy))
end Go.Mch
/- The classes of elements that act alike make a quotient: in plain Lean. -/
namespace Go.Mch

def σN (f : List (List Int)) (x y : Nat) : Nat := (v2 f x y).toNat
def τN (s : List (List Int)) (y x : Nat) : Nat := (v2 s x y).toNat
/-! ### Numbering anew -/

/-! ### The classes -/

/-- The first like elements, of all. -/
def labL (f s : List (List Int)) : List Int := (List.range f.length).map fun i => (lab f (turnL s) i : Int)
@[simp] theorem labL_length (f s : List (List Int)) : (labL f s).length = f.length := by simp [labL]
/-- How many classes there are. -/
def clM (f s : List (List Int)) : Nat := (uniqs (labL f s)).length
def clC (f s : List (List Int)) (x : Nat) : Nat := ((classes f s).getD x 0).toNat
def clD (f s : List (List Int)) (i : Nat) : Nat := (ixOf (labL f s) ((uniqs (labL f s)).getD i 0)).toNat
end Go.Mch
/- The retract of a solution: in plain Lean. -/
namespace Go.Mch

def retF (f s : List (List Int)) : List (List Int) := tabL (clM f s) fun i j => (clC f s (σN f (clD f s i) (clD f s j)) : Int)
def retS (f s : List (List Int)) : List (List Int) := tabL (clM f s) fun i j => (clC f s (τN s (clD f s j) (clD f s i)) : Int)
@[simp] theorem retF_length (f s : List (List Int)) : (retF f s).length = clM f s := by simp [retF]
@[simp] theorem retS_length (f s : List (List Int)) : (retS f s).length = clM f s := by simp [retS]
/-! ### The functions -/

/-- The elements of the classes that have been met. -/
def fsts (f s : List (List Int)) (k : Nat) : List Int := (List.range (uniqs ((labL f s).take k)).length).map fun i => (clD f s i : Int)
@[simp] theorem fsts_length (f s : List (List Int)) (k : Nat) : (fsts f s k).length = (uniqs ((labL f s).take k)).length := by simp [fsts]
end Go.Mch
/- The derived rack, of the reference and of the program. -/
namespace Go.Mch

/-- A value of the derived rack. -/
def raV (f s : List (List Int)) (x y : Nat) : Int := v2 f x (v2 s y (ixOf (f.getD y []) x).toNat).toNat
def raT (f s : List (List Int)) : List (List Int) := tabL f.length (raV f s)
@[simp] theorem raT_length (f s : List (List Int)) : (raT f s).length = f.length := by simp [raT]

/-! ### DerivedRack -/

def S_heldRack (pg : Pg) : Prop := ∀ (o : Option (List (List Int))) (k : Int), smallT (lso o) → 0 ≤ k → k ≤ 2305843009213693952 → heldL (lso o) k ≤ 4611686018427387904 → Call pg 149 [.agg [eT o], I k] [.agg [eT o], I k] (I (if heldL (lso o) k < 0 then -1 else heldL (lso o) k))
end Go.Mch
/- Marks and marks read again of racks and solutions, empty ones among them; what the runs of all laws use. -/
namespace Go.Mch

@[simp] theorem isPrefixOf_cons2 (a b : Nat) (as bs : List Nat) : (a :: as).isPrefixOf (b :: bs) = (a == b && as.isPrefixOf bs) := rfl

/-- The same, read only. -/
def eS : Option (List (List Int) × List (List Int)) → T
  | none => .agg [nil, nil]
  | some (X, Y) => sol X Y

theorem S_heldRack.at {pg : Pg} (h : S_heldRack pg) (Y : List (List Int)) (m : Int) (hY : smallT Y) (h1 : 0 ≤ m) (h2 : m ≤ 1152921504606846976) : Call pg 149 [.agg [tb (upT m Y)], I m] [.agg [tb (upT m Y)], I m] (I (kAt m Y Y.length)) := by
  have hk := kAt_le (k := m) hY Y.length (Nat.le_refl _)
  have hl := hY.1
  have := h (some (upT m Y)) m (upT_small hY m) h1 (by omega) (by simp [heldL_all _ _ h1]; omega)
  simp only [lso_some, heldL_all _ _ h1] at this
  rw [if_neg (by omega)] at this
  exact this
def S_heldSol (pg : Pg) : Prop := ∀ (o o' : Option (List (List Int))) (k m : Int), smallT (lso o) → smallT (lso o') → 0 ≤ k → k ≤ 1152921504606846976 → 0 ≤ heldL (lso o) k → heldL (lso o) k ≤ 1152921504606846976 → heldL (lso o') (heldL (lso o) k) = m → 0 ≤ m → Call pg 172 [.agg [eT o, eT o'], I k] [.agg [eT o, eT o'], I k] (I m)
theorem S_heldSol.at {pg : Pg} (h : S_heldSol pg) (X Y : List (List Int)) (m : Int) (hX : smallT X) (hY : smallT Y) (h1 : 0 ≤ m) (h2 : m ≤ 1048576) : Call pg 172 [.agg [tb (upT m X), tb (upT (kAt m X X.length) Y)], I m] [.agg [tb (upT m X), tb (upT (kAt m X X.length) Y)], I m] (I (kAt (kAt m X X.length) Y Y.length)) := by
  have hk := kAt_le (k := m) hX X.length (Nat.le_refl _)
  have hk2 := kAt_le (k := kAt m X X.length) hY Y.length (Nat.le_refl _)
  have hl := hX.1
  have e1 := heldL_all X m h1
  have e2 := heldL_all Y (kAt m X X.length) (by omega)
  exact h (some (upT m X)) (some (upT _ Y)) m _ (upT_small hX m) (upT_small hY _) h1 (by omega) (by simp [e1]; omega) (by simp [e1]; omega) (by simp [e1, e2]) (by omega)
end Go.Mch
/- The retract, of the program. -/
namespace Go.Mch

/-! ### Solutions made by values -/

def S_sol1 (pg : Pg) (n : Nat) (snd : Bool) : Prop := ∀ (x y g1 g2 : Int) (f : Nat) (caps : List T), T.eryL .old caps = caps → T.noOwnL caps = true → Call pg f (I x :: I y :: caps) (I x :: I y :: caps) (.tup [I g1, I g2]) →
  Call pg n [I x, I y, .mem .old none [.fn f caps]] [I x, I y, .mem .old none [.fn f caps]] (I (if snd then g2 else g1))
theorem t_solutionBy1 {pg : Pg} (hp : pg.fn 391 = some c_impl_solutionBy_1) : S_sol1 pg 391 false := by
  intro x y g1 g2 f caps hc1 hc2 hc
  refine Call.intro hp rfl (by simp [hc2]) ?_
  show wp _ _ c_impl_solutionBy_1.body (post [.t 5] _ _ _) _
  simp [c_impl_solutionBy_1]
  refine callR (by simpa [hc1] using hc) rfl rfl (fun _ => by simp) ?_
  simp [hc2]
theorem t_solutionBy2 {pg : Pg} (hp : pg.fn 392 = some c_impl_solutionBy_2) : S_sol1 pg 392 true := by
  intro x y g1 g2 f caps hc1 hc2 hc
  refine Call.intro hp rfl (by simp [hc2]) ?_
  show wp _ _ c_impl_solutionBy_2.body (post [.t 5] _ _ _) _
  simp [c_impl_solutionBy_2]
  refine callR (by simpa [hc1] using hc) rfl rfl (fun _ => by simp) ?_
  simp [hc2]
def S_solBy (pg : Pg) : Prop := ∀ (n : Nat) (g1 g2 : Nat → Nat → Int) (f : Nat) (caps : List T), n ≤ 1048576 → T.eryL .old caps = caps → T.noOwnL caps = true →
  (∀ x y : Nat, x < n → y < n → Call pg f (I x :: I y :: caps) (I x :: I y :: caps) (.tup [I (g1 x y), I (g2 x y)])) →
  Call pg 308 [I n, .fn f caps] [I n, .fn f caps] (.agg [.mem .own (some 1) (rows (tabL n g1)), .mem .own (some 1) (rows (tabL n g2))])
theorem t_solutionBy {pg : Pg} (hp : pg.fn 308 = some c_impl_solutionBy) (h376 : S_tableBy pg) (h391 : S_sol1 pg 391 false) (h392 : S_sol1 pg 392 true) : S_solBy pg := by
  intro n g1 g2 f caps hn hc1 hc2 hc
  refine Call.intro hp rfl (by simp [hc2]) ?_
  show wp _ _ c_impl_solutionBy.body (post [.cell 4 (some 2)] _ _ _) _
  simp [c_impl_solutionBy, hc1, hc2]
  have k1 : ∀ x y : Nat, x < n → y < n → Call pg 391 (I x :: I y :: [.mem .old none [.fn f caps]]) (I x :: I y :: [.mem .old none [.fn f caps]]) (I (g1 x y)) := fun x y hx hy => h391 x y (g1 x y) (g2 x y) f caps hc1 hc2 (hc x y hx hy)
  have k2 : ∀ x y : Nat, x < n → y < n → Call pg 392 (I x :: I y :: [.mem .old none [.fn f caps]]) (I x :: I y :: [.mem .old none [.fn f caps]]) (I (g2 x y)) := fun x y hx hy => h392 x y (g1 x y) (g2 x y) f caps hc1 hc2 (hc x y hx hy)
  refine callR (h376 n g1 391 [.mem .old none [.fn f caps]] hn (by simp [hc1]) (by simp [hc2]) k1) rfl rfl (fun _ => by simp) ?_
  simp [hc1, hc2]
  refine callR (h376 n g2 392 [.mem .old none [.fn f caps]] hn (by simp [hc1]) (by simp [hc2]) k2) rfl rfl (fun _ => by simp) ?_
  simp [hc2]

/-! ### The retract -/

def dL (f s : List (List Int)) : List Int := (List.range (clM f s)).map fun i => (clD f s i : Int)
@[simp] theorem dL_length (f s : List (List Int)) : (dL f s).length = clM f s := by simp [dL]
/-! ### RetractOf, of the program -/

end Go.Mch
/- Closed sets and the solutions on them, of the reference and of the program. -/
namespace Go.Mch

/-- Closed sets. -/
def cloP (f s : List (List Int)) (xs : List Int) (i j : Nat) : Prop := g2 f (xs.getD i 0) (xs.getD j 0) ∈ xs ∧ g2 s (xs.getD i 0) (xs.getD j 0) ∈ xs
def clo (f s : List (List Int)) (xs : List Int) : Prop := ∀ i j : Nat, i < xs.length → j < xs.length → cloP f s xs i j
theorem g2_at {f : List (List Int)} {a b : Int} (h1 : a.toNat < f.length) (h2 : b.toNat < (f[a.toNat]).length) : (f[a.toNat])[b.toNat] = g2 f a b := get_v2 h1 h2
def S_closed (pg : Pg) (n : Nat) : Prop := ∀ (f s : List (List Int)) (xs : List Int), PM f s → inN f.length xs → xs.length ≤ 1048576 → Call pg n [sol f s, ix xs] [sol f s, ix xs] (B (dec (clo f s xs)))
def S_hasI (pg : Pg) : Prop := ∀ (xs : List Int) (n : Int), xs.length ≤ 1048576 → Call pg 405 [ix xs, I n] [ix xs, I n] (B (decide (n ∈ xs)))
theorem t_contains {pg : Pg} (hp : pg.fn 405 = some c_slices_Contains___int64_int64_) (h384 : S_indexIn pg 384) : S_hasI pg := by
  intro xs v hl
  have hm := ixOf_mem xs v
  refine Call.intro hp rfl (by simp) ?_
  show wp _ _ c_slices_Contains___int64_int64_.body (post [.t 4] _ _ _) _
  simp [c_slices_Contains___int64_int64_]
  refine callR (h384 xs v hl) rfl rfl (fun _ => rfl) ?_
  simp [hm]
set_option maxRecDepth 10000 in
theorem t_isClosed {pg : Pg} (hp : pg.fn 333 = some c_impl_isClosed) (h405 : S_hasI pg) : S_closed pg 333 := by
  intro f s xs h hin hl
  have h12 := h.small
  have hls := h.len
  refine Call.intro hp rfl (by simp) ?_
  show wp _ _ c_impl_isClosed.body (post [.t 4] _ _ _) _
  simp [c_impl_isClosed]
  refine wpLoop_count (fun i e => (∀ a b : Nat, a < i → b < xs.length → cloP f s xs a b) ∧ e = fr [(1, some (.val (ix xs))), (2, some (.val (.mem .own none [tb f, tb s]))), (9, some (.val (ix xs))), (10, some (.val (I xs.length))), (11, some (.val (I i)))]) xs.length ?_ ?_ 0 _ (by omega) ⟨fun a b h => by omega, by simp⟩
  · rintro i e hi ⟨g1, rfl⟩
    simp [hi]
    refine wpLoop_count (fun j e => (∀ b : Nat, b < j → cloP f s xs i b) ∧ e = fr [(1, some (.val (ix xs))), (2, some (.val (.mem .own none [tb f, tb s]))), (6, some (.val (I xs[i]))), (9, some (.val (ix xs))), (10, some (.val (I xs.length))), (11, some (.val (I i))), (15, some (.val (ix xs))), (16, some (.val (I xs.length))), (17, some (.val (I j)))]) xs.length ?_ ?_ 0 _ (by omega) ⟨fun b h => by omega, by simp⟩
    · rintro j e hj ⟨g2', rfl⟩
      have ea : xs.getD i 0 = xs[i] := by simp [hi]
      have eb : xs.getD j 0 = xs[j] := by simp [hj]
      have ra := hin _ (List.getElem_mem hi)
      have rb := hin _ (List.getElem_mem hj)
      have hcl : ∀ hh : ¬ (g2 f xs[i] xs[j] ∈ xs ∧ g2 s xs[i] xs[j] ∈ xs), ¬ clo f s xs := fun hh hc => by
        have := hc i j hi hj
        rw [cloP, ea, eb] at this
        exact hh this
      have hst : g2 f xs[i] xs[j] ∈ xs ∧ g2 s xs[i] xs[j] ∈ xs → ∀ b : Nat, b < j + 1 → cloP f s xs i b := fun hh b hb => by
        by_cases hbj : b = j
        · subst hbj; rw [cloP, ea, eb]; exact hh
        · exact g2' b (by omega)
      generalize hA : xs[i] = a at *
      generalize hB : xs[j] = b at *
      have la : a.toNat < f.length := by omega
      have la2 : a.toNat < s.length := by omega
      have lb : b.toNat < (f[a.toNat]).length := by rw [h.tf.row la]; omega
      have lb2 : b.toNat < (s[a.toNat]).length := by rw [h.ts.row la2]; omega
      have ia : a < f.length := by omega
      have ia2 : a < s.length := by omega
      have ib : b < (f[a.toNat]).length := by omega
      have ib2 : b < (s[a.toNat]).length := by omega
      have eF := g2_at la lb
      have eS := g2_at la2 lb2
      have c1 := h405 xs (g2 f a b) hl
      have c2 := h405 xs (g2 s a b) hl
      simp [hj, hB, ra, rb, la, lb, ib, eF]
      refine callR c1 rfl rfl (fun _ => rfl) ?_
      by_cases m1 : g2 f a b ∈ xs
      · simp [m1, la2, lb2, ia2, ib2, ra, rb, eS]
        refine callR c2 rfl rfl (fun _ => rfl) ?_
        by_cases m2 : g2 s a b ∈ xs
        · have := hst ⟨m1, m2⟩
          simp [m2]
          refine ⟨by omega, this⟩
        · have := hcl fun hh => m2 hh.2
          simp [m2, dec_false this]
      · have := hcl fun hh => m1 hh.1
        simp [m1, dec_false this, undefV]
    · rintro e ⟨g2', rfl⟩
      simp
      refine ⟨by omega, fun a b ha hb => ?_⟩
      by_cases hai : a = i
      · subst hai; exact g2' b hb
      · exact g1 a b (by omega) hb
  · rintro e ⟨g1, rfl⟩
    have : clo f s xs := fun i j hi hj => g1 i j hi hj
    simp [dec_true this]
end Go.Mch
/- The retract, of the reference. -/
namespace Go.Mch

/-- Pairs of classes that have been met. -/
def cov (f s : List (List Int)) (a b i j : Nat) : Prop := ∃ x y, x < f.length ∧ y < f.length ∧ (x < a ∨ (x = a ∧ y < b)) ∧ clC f s x = i ∧ clC f s y = j
noncomputable def pT (f s R : List (List Int)) (a b : Nat) : List (List Int) := tabL (clM f s) fun i j => if dec (cov f s a b i j) then v2 R i j else 0
@[simp] theorem pT_length (f s R : List (List Int)) (a b : Nat) : (pT f s R a b).length = clM f s := by simp [pT]
end Go.Mch
/- The series of retracts, of the reference and of the program. -/
namespace Go.Mch

/-- A table that is frozen. -/
def frT (X : List (List Int)) : T := .mem .fresh (some 1) (X.map fun xs => .mem .fresh (some 1) (xs.map I))
@[simp] theorem frT_noOwn (X : List (List Int)) : (frT X).noOwn = true := by
  have := (frz_rows_old X).1
  rw [frzL_rows] at this
  simp [frT, this]
@[simp] theorem frT_ery (X : List (List Int)) : (frT X).ery .old = tb X := by
  have := (frz_rows_old X).2
  rw [frzL_rows] at this
  simp [frT, this]
@[simp] theorem frT_peek (X : List (List Int)) (r : Nat) (p : List Nat) : (frT X).peek r p = .val (frT X) := rfl
@[simp] theorem frT_cell (X : List (List Int)) : (frT X).isCell = true := rfl
@[simp] theorem frT_cells (X : List (List Int)) : (frT X).cells = [frT X] := rfl
@[simp] theorem frT_len (X : List (List Int)) : lenV (.val (frT X)) = some X.length := by simp [frT]
/-- The cells of frozen solutions. -/
def frL (l : List (List (List Int) × List (List Int))) : List T := l.flatMap fun x => [frT x.1, frT x.2]
@[simp] theorem frL_nil : frL [] = [] := rfl
@[simp] theorem frL_cons (x : List (List Int) × List (List Int)) (l : List (List (List Int) × List (List Int))) : frL (x :: l) = frT x.1 :: frT x.2 :: frL l := rfl
end Go.Mch
/- The solution on a closed set, of the reference and of the program. -/
namespace Go.Mch

/-- The table on a set, by the places in it. -/
def subG (f : List (List Int)) (xs : List Int) (i j : Nat) : Int := ixOf xs (g2 f (xs.getD i 0) (xs.getD j 0))
def subT (f : List (List Int)) (xs : List Int) : List (List Int) := tabL xs.length (subG f xs)
def subRow (f : List (List Int)) (xs : List Int) (i k : Nat) : List Int := (List.range k).map fun j => subG f xs i j
theorem subRow_length (f : List (List Int)) (xs : List Int) (i k : Nat) : (subRow f xs i k).length = k := by simp [subRow]
theorem subRow_succ (f : List (List Int)) (xs : List Int) (i k : Nat) : subRow f xs i (k + 1) = subRow f xs i k ++ [subG f xs i k] := by simp [subRow, List.range_succ]
theorem subT_take (f : List (List Int)) (xs : List Int) {i : Nat} (hi : i < xs.length) : (subT f xs).take (i + 1) = (subT f xs).take i ++ [subRow f xs i xs.length] := by
  have : i < (subT f xs).length := by simpa [subT] using hi
  rw [List.take_succ_eq_append_getElem this]
  simp [subT, tabL, subRow]
theorem subT_ne {f : List (List Int)} {xs : List Int} (h : 0 < xs.length) : subT f xs ≠ [] := fun hh => by
  have : (subT f xs).length = 0 := by rw [hh]; rfl
  rw [subT, tabL_length] at this
  omega
/-- Rows that were appended to nil. -/
def rowN (X : List (List Int)) : T := if X = [] then nil else .mem .own (some 1) (rows X)
theorem rowN_ne {X : List (List Int)} (h : X ≠ []) : rowN X = .mem .own (some 1) (rows X) := by simp [rowN, h]
theorem rowN_snoc (X : List (List Int)) (r : List Int) : rowN (X ++ [r]) = .mem .own (some 1) (rows X ++ [.mem .own (some 1) (r.map I)]) := by
  rw [rowN_ne (by simp)]; simp [rows]
def S_sub (pg : Pg) : Prop := ∀ (f s : List (List Int)) (xs : List Int), PM f s → inN f.length xs → 0 < xs.length → xs.length ≤ 1000 → Call pg 332 [sol f s, ix xs] [sol f s, ix xs] (.agg [.mem .own (some 1) (rows (subT f xs)), .mem .own (some 1) (rows (subT s xs))])
set_option maxRecDepth 10000 in
theorem t_l02Sub {pg : Pg} (hp : pg.fn 332 = some c_spec_l02Sub) (h69 : S_index pg) : S_sub pg := by
  intro f s xs h hin h0 hl
  have h12 := h.small
  have hls := h.len
  refine Call.intro hp rfl (by simp) ?_
  show wp _ _ c_spec_l02Sub.body (post [.cell 4 (some 2)] _ _ _) _
  simp [c_spec_l02Sub]
  refine wpLoop_count (fun i e => e = fr [(1, some (.val (ix xs))), (2, some (.val (.mem .own none [tb f, tb s]))), (4, some (.val (.mem .own none [nil, nil]))), (5, some (.val (.mem .own none [rowN ((subT f xs).take i), rowN ((subT s xs).take i)]))), (6, some (.val (I i)))]) xs.length ?_ ?_ 0 _ (by omega) ?_
  · rintro i e hi rfl
    have hF := subT_take f xs hi
    have hS := subT_take s xs hi
    have hFl : ((subT f xs).take i).length ≤ i := by simp; omega
    have hSl : ((subT s xs).take i).length ≤ i := by simp; omega
    rw [hF, hS, rowN_snoc, rowN_snoc]
    generalize (subT f xs).take i = X at *
    generalize (subT s xs).take i = Y at *
    clear hF hS
    simp [hi]
    refine wpLoop_count (fun j e => e = fr [(1, some (.val (ix xs))), (2, some (.val (.mem .own none [tb f, tb s]))), (4, some (.val (.mem .own none [nil, nil]))), (5, some (.val (.mem .own none [rowN X, rowN Y]))), (6, some (.val (I i))), (7, some (.val (.mem .own (some 1) ((subRow f xs i j).map I)))), (8, some (.val (.mem .own (some 1) ((subRow s xs i j).map I)))), (9, some (.val (I j)))]) xs.length ?_ ?_ 0 _ (by omega) ?_
    · rintro j e hj rfl
      have ea : xs.getD i 0 = xs[i] := by simp [hi]
      have eb : xs.getD j 0 = xs[j] := by simp [hj]
      have ra := hin _ (List.getElem_mem hi)
      have rb := hin _ (List.getElem_mem hj)
      have hGf : subG f xs i j = ixOf xs (g2 f xs[i] xs[j]) := by rw [subG, ea, eb]
      have hGs : subG s xs i j = ixOf xs (g2 s xs[i] xs[j]) := by rw [subG, ea, eb]
      have hf2 := subRow_succ f xs i j
      have hs2 := subRow_succ s xs i j
      have hfl := subRow_length f xs i j
      have hsl := subRow_length s xs i j
      rw [hf2, hs2, hGf, hGs]
      generalize subRow f xs i j = P at *
      generalize subRow s xs i j = Q at *
      clear hf2 hs2 hGf hGs
      generalize hA : xs[i] = a at *
      generalize hB : xs[j] = b at *
      have la : a.toNat < f.length := by omega
      have la2 : a.toNat < s.length := by omega
      have lb : b.toNat < (f[a.toNat]).length := by rw [h.tf.row la]; omega
      have lb2 : b.toNat < (s[a.toNat]).length := by rw [h.ts.row la2]; omega
      have ia : a < f.length := by omega
      have ia2 : a < s.length := by omega
      have ib : b < (f[a.toNat]).length := by omega
      have ib2 : b < (s[a.toNat]).length := by omega
      have eF := g2_at la lb
      have eS := g2_at la2 lb2
      have c1 := h69 xs (g2 f a b) (by omega)
      have c2 := h69 xs (g2 s a b) (by omega)
      simp [hi, hj, hA, hB, ra, rb, la, lb, ib, eF]
      refine callR c1 rfl rfl (fun _ => rfl) ?_
      simp [hi, hj, hA, hB, ra, rb, la2, lb2, ia2, ib2, eS, hfl, roomy]
      refine ⟨by omega, ?_⟩
      refine callR c2 rfl rfl (fun _ => rfl) ?_
      simp [hsl, roomy]
      omega
    · rintro e rfl
      have hPl := subRow_length f xs i xs.length
      have hQl := subRow_length s xs i xs.length
      generalize subRow f xs i xs.length = P at *
      generalize subRow s xs i xs.length = Q at *
      by_cases hX : X = []
      · by_cases hY : Y = []
        · subst hX hY
          simp [rowN, roomy, rows]
          omega
        · subst hX
          simp [rowN, hY, roomy, rows]
          omega
      · by_cases hY : Y = []
        · subst hY
          simp [rowN, hX, roomy, rows]
          omega
        · simp [rowN, hX, hY, roomy]
          omega
    · simp [subRow]
  · rintro e rfl
    have hF : (subT f xs).take xs.length = subT f xs := List.take_of_length_le (by simp [subT])
    have hS : (subT s xs).take xs.length = subT s xs := List.take_of_length_le (by simp [subT])
    have hFn := subT_ne (f := f) h0
    have hSn := subT_ne (f := s) h0
    rw [hF, hS, rowN_ne hFn, rowN_ne hSn]
    simp
  · simp [rowN]

/-! ### SubSolution -/

def ascAt (xs : List Int) (k : Nat) : Prop := xs.getD k 0 < xs.getD (k + 1) 0
def asc (xs : List Int) : Prop := ∀ k : Nat, k + 1 < xs.length → ascAt xs k
def S_incr (pg : Pg) : Prop := ∀ xs : List Int, xs.length ≤ 1048576 → Call pg 403 [ix xs] [ix xs] (B (dec (asc xs)))
theorem t_increasing {pg : Pg} (hp : pg.fn 403 = some c_impl_increasing) : S_incr pg := by
  intro xs hl
  refine Call.intro hp rfl (by simp) ?_
  show wp _ _ c_impl_increasing.body (post [.t 2] _ _ _) _
  simp [c_impl_increasing]
  refine wpLoop_lower (α := Nat) (fun k => xs.length - k) (fun k e => (∀ i : Nat, i < k → i + 1 < xs.length → ascAt xs i) ∧ e = fr [(0, some (.val (ix xs))), (3, some (.val (I (k + 1 : Nat))))]) ?_ 0 _ ⟨fun i h => by omega, by simp⟩
  rintro k e ⟨g, rfl⟩
  by_cases hk : k + 1 < xs.length
  · have hk0 : k < xs.length := by omega
    have ea : xs.getD k 0 = xs[k] := by simp [hk0]
    have eb : xs.getD (k + 1) 0 = xs[k + 1] := by simp [hk]
    have hk' : (k : Int) + 1 < xs.length := by omega
    by_cases hc : xs[k] < xs[k + 1]
    · have hc2 : ¬ xs[k] ≥ xs[k + 1] := by omega
      have hn : ∀ i : Nat, i < k + 1 → i + 1 < xs.length → ascAt xs i := fun i hi h2 => by
        by_cases hik : i = k
        · subst hik; rw [ascAt, ea, eb]; exact hc
        · exact g i (by omega) h2
      clear g
      simp [hk', hk, hk0, hc2]
      exact ⟨by omega, by omega, by omega, k + 1, by omega, hn, by simp⟩
    · have hno : ¬ asc xs := fun ha => by
        have := ha k hk
        rw [ascAt, ea, eb] at this
        exact hc this
      have hc2 : xs[k + 1] ≤ xs[k] := by omega
      clear g
      simp [hk', hk, hk0, hc2, dec_false hno]
      omega
  · have hyes : asc xs := fun i hi => g i (by omega) hi
    have hk' : ¬ (k : Int) + 1 < xs.length := by omega
    clear g
    simp [hk', dec_true hyes]
def isSetL (n : Int) (xs : List Int) : Prop := 0 < xs.length ∧ inR 0 (n - 1) xs ∧ asc xs
def S_isSet (pg : Pg) : Prop := ∀ (n : Int) (xs : List Int), xs.length ≤ 1048576 → 0 ≤ n → n ≤ 1048576 → Call pg 357 [I n, ix xs] [I n, ix xs] (B (dec (isSetL n xs)))
theorem t_isSet {pg : Pg} (hp : pg.fn 357 = some c_impl_isSet) (h39 : S_areElements pg) (h403 : S_incr pg) : S_isSet pg := by
  intro n xs hl hn1 hn2
  refine Call.intro hp rfl (by simp) ?_
  show wp _ _ c_impl_isSet.body (post [.t 4] _ _ _) _
  simp [c_impl_isSet]
  by_cases h0 : 0 < xs.length
  · simp [h0]
    refine callR (h39 n xs hl hn1 hn2) rfl rfl (fun _ => rfl) ?_
    by_cases h1 : inR 0 (n - 1) xs
    · simp [h1]
      refine callR (h403 xs hl) rfl rfl (fun _ => rfl) ?_
      by_cases h2 : asc xs
      · simp [dec_true h2, dec_true (show isSetL n xs from ⟨h0, h1, h2⟩)]
      · simp [dec_false h2, dec_false (fun hh : isSetL n xs => h2 hh.2.2)]
    · simp [h1, dec_false (fun hh : isSetL n xs => h1 hh.2.1), undefV]
  · simp [h0, dec_false (fun hh : isSetL n xs => h0 hh.1), undefV]
def S_sub1 (pg : Pg) : Prop := ∀ (f s : List (List Int)) (xs : List Int) (x y : Nat), PM f s → inN f.length xs → xs.length ≤ 1048576 → x < xs.length → y < xs.length → Call pg 358 [I x, I y, .mem .old none [ix xs], .mem .old none [tb f, tb s]] [I x, I y, .mem .old none [ix xs], .mem .old none [tb f, tb s]] (.tup [I (subG f xs x y), I (subG s xs x y)])
set_option maxRecDepth 10000 in
theorem t_sub1 {pg : Pg} (hp : pg.fn 358 = some c_impl_SubSolution_1) (h287 : S_indexIn pg 287) : S_sub1 pg := by
  intro f s xs x y h hin hl hx hy
  have hls := h.len
  have ea : xs.getD x 0 = xs[x] := by simp [hx]
  have eb : xs.getD y 0 = xs[y] := by simp [hy]
  have ra := hin _ (List.getElem_mem hx)
  have rb := hin _ (List.getElem_mem hy)
  have hGf : subG f xs x y = ixOf xs (g2 f xs[x] xs[y]) := by rw [subG, ea, eb]
  have hGs : subG s xs x y = ixOf xs (g2 s xs[x] xs[y]) := by rw [subG, ea, eb]
  rw [hGf, hGs]
  refine Call.intro hp rfl (by simp) ?_
  show wp _ _ c_impl_SubSolution_1.body (post [.t 6, .t 7] _ _ _) _
  generalize hA : xs[x] = a at *
  generalize hB : xs[y] = b at *
  have la : a.toNat < f.length := by omega
  have la2 : a.toNat < s.length := by omega
  have lb : b.toNat < (f[a.toNat]).length := by rw [h.tf.row la]; omega
  have lb2 : b.toNat < (s[a.toNat]).length := by rw [h.ts.row la2]; omega
  have ia : a < f.length := by omega
  have ia2 : a < s.length := by omega
  have ib : b < (f[a.toNat]).length := by omega
  have ib2 : b < (s[a.toNat]).length := by omega
  have eF := g2_at la lb
  have eS := g2_at la2 lb2
  have c1 := h287 xs (g2 f a b) hl
  have c2 := h287 xs (g2 s a b) hl
  simp [c_impl_SubSolution_1, hx, hy, hA, hB, ra, rb, la, lb, ib, eF]
  refine callR c1 rfl rfl (fun _ => rfl) ?_
  simp [hx, hy, hA, hB, ra, rb, la2, lb2, ia2, ib2, eS]
  refine callR c2 rfl rfl (fun _ => rfl) ?_
  simp
def S_subI (pg : Pg) : Prop := ∀ (f s : List (List Int)) (xs : List Int), isPairMap f s → isSetL f.length xs → clo f s xs → xs.length ≤ 1000 → Call pg 239 [sol f s, ix xs] [sol f s, ix xs] (.tup [.agg [.mem .own (some 1) (rows (subT f xs)), .mem .own (some 1) (rows (subT s xs))], I 0])
set_option maxRecDepth 10000 in
theorem t_SubSolution {pg : Pg} (hp : pg.fn 239 = some c_impl_SubSolution) (h59 : S_pairMap pg 59) (h357 : S_isSet pg) (h333 : S_closed pg 333) (h308 : S_solBy pg) (h358 : S_sub1 pg) : S_subI pg := by
  intro f s xs hpm hset hclo hl
  have h := PM.of hpm
  have h12 := h.small
  have hin : inN f.length xs := fun v hv => by have := hset.2.1 v hv; omega
  have hfs : fits s := ⟨by have := h.len; omega, fun r hr => by have := (h.ts r hr).1; have := h.len; omega⟩
  have hb := h308 xs.length (subG f xs) (subG s xs) 358 [.mem .old none [ix xs], .mem .old none [tb f, tb s]] (by omega) (by simp) (by simp) fun x y hx hy => h358 f s xs x y h hin (by omega) hx hy
  refine Call.intro hp rfl (by simp) ?_
  show wp _ _ c_impl_SubSolution.body (post [.cell 4 (some 2), .t 5] _ _ _) _
  simp [c_impl_SubSolution]
  refine callR (h59 f s h.fitsF hfs) rfl rfl (fun _ => rfl) ?_
  simp [hpm]
  refine callR (h357 f.length xs (by omega) (by omega) (by omega)) rfl rfl (fun _ => rfl) ?_
  simp [dec_true hset]
  refine callR (h333 f s xs h hin (by omega)) rfl rfl (fun _ => rfl) ?_
  simp [dec_true hclo]
  refine callR hb rfl rfl (fun _ => by simp) ?_
  simp [subT]
end Go.Mch
/- ClassSolution, of the reference and of the program. -/
namespace Go.Mch

theorem asc_snoc {L : List Int} {k : Int} (h : asc L) (hl : ∀ v ∈ L, v < k) : asc (L ++ [k]) := by
  intro i hi
  simp only [List.length_append, List.length_cons, List.length_nil] at hi
  unfold ascAt
  by_cases h1 : i + 1 < L.length
  · have := h i h1
    unfold ascAt at this
    rw [List.getD_eq_getElem?_getD, List.getD_eq_getElem?_getD, List.getElem?_append_left (by omega), List.getElem?_append_left h1, ← List.getD_eq_getElem?_getD, ← List.getD_eq_getElem?_getD]
    exact this
  · have h2 : i + 1 = L.length := by omega
    have h3 : i < L.length := by omega
    rw [List.getD_eq_getElem?_getD, List.getD_eq_getElem?_getD, List.getElem?_append_left h3, List.getElem?_append_right (by omega), h2, List.getElem?_eq_getElem h3]
    simpa using hl _ (List.getElem_mem h3)
theorem plK_rng {xs : List Int} {P : Int → Bool} {k : Nat} {v : Int} (h : v ∈ plK xs P k) : 0 ≤ v ∧ v < k := by
  simp only [plK, List.mem_map, List.mem_filter, List.mem_range] at h
  obtain ⟨i, ⟨h1, _⟩, rfl⟩ := h
  omega
theorem plK_asc (xs : List Int) (P : Int → Bool) (k : Nat) : asc (plK xs P k) := by
  induction k with
  | zero => intro i hi; simp [plK] at hi
  | succ k ih =>
    have hs : plK xs P (k + 1) = if P (xs.getD k 0) then plK xs P k ++ [(k : Int)] else plK xs P k := by
      simp only [plK, List.range_succ, List.filter_append, List.filter_cons, List.filter_nil, List.map_append]
      split <;> simp
    rw [hs]
    split
    · exact asc_snoc ih fun v hv => (plK_rng hv).2
    · exact ih
theorem isSetL.inN {n : Nat} {xs : List Int} (h : isSetL n xs) : inN n xs := fun v hv => by
  have := h.2.1 v hv
  omega
end Go.Mch
/- Orbits of a solution as solutions: every number below the greatest occurs; an orbit is a closed set. -/
namespace Go.Mch

theorem orbS_hit {ms : List (List Int)} {n : Nat} (h : Prms n ms) (k : Nat) (hk : k ≤ n) : ∀ c : Int, 0 ≤ c → c < (orbS ms n k).2 → ∃ x, x < n ∧ (orbS ms n k).1.getD x 0 = c := by
  induction k with
  | zero => intro c h1 h2; exact absurd h2 (by show ¬ c < 0; omega)
  | succ k ih =>
    intro c h1 h2
    by_cases h0 : 0 ≤ (orbS ms n k).1.getD k 0
    · rw [orbS_next, if_pos h0] at h2 ⊢
      exact ih (by omega) c h1 h2
    · have h2' : c < (orbS ms n k).2 + 1 := by rw [orbS_next, if_neg h0] at h2; exact h2
      by_cases hc : c < (orbS ms n k).2
      · obtain ⟨x, hx, he⟩ := ih (by omega) c h1 hc
        exact ⟨x, hx, by rw [orbS_keep h (by omega) hx (by omega), he]⟩
      · refine ⟨k, by omega, ?_⟩
        rw [orbS_next, if_neg h0]
        show (markO ms k (orbS ms n k).1 (orbS ms n k).2).getD k 0 = c
        have hr : Rch ms k k := fun S hS _ => hS
        rw [markO_get (by simp; omega), dec_true hr]
        show (orbS ms n k).2 = c
        omega
/-- The elements of an orbit. -/
noncomputable def osM (f s : List (List Int)) (c : Int) : List Int := pl (solO f s) fun x => decide (x = c)
theorem osM_set {f s : List (List Int)} {c : Int} (h : osM f s c ≠ []) : isSetL f.length (osM f s c) ∧ (osM f s c).length ≤ f.length := by
  have hl := plK_len (solO f s) (fun x => decide (x = c)) (solO f s).length
  have hd : osM f s c = plK (solO f s) (fun x => decide (x = c)) (solO f s).length := rfl
  rw [hd] at h ⊢
  refine ⟨⟨List.length_pos_iff.2 h, fun v hv => ?_, plK_asc _ _ _⟩, by simpa using hl⟩
  have := plK_rng hv
  rw [solO_length] at this
  omega
theorem osM_mem {f s : List (List Int)} {c x : Int} : x ∈ osM f s c ↔ (0 ≤ x ∧ x < f.length) ∧ (solO f s).getD x.toNat 0 = c := by
  unfold osM pl plK
  simp only [List.mem_map, List.mem_filter, List.mem_range, solO_length, decide_eq_true_eq]
  constructor
  · rintro ⟨i, ⟨h1, h2⟩, rfl⟩
    exact ⟨by omega, by simpa using h2⟩
  · rintro ⟨h1, h2⟩
    exact ⟨x.toNat, ⟨by omega, h2⟩, by omega⟩
theorem osM_clo {f s : List (List Int)} (h : PM f s) (hn : nonDeg f s) (c : Int) : clo f s (osM f s c) := by
  have hp := prms_of h hn
  intro i j hi hj
  have mi : (osM f s c).getD i 0 ∈ osM f s c := by rw [List.getD_eq_getElem?_getD, List.getElem?_eq_getElem hi]; exact List.getElem_mem hi
  have mj : (osM f s c).getD j 0 ∈ osM f s c := by rw [List.getD_eq_getElem?_getD, List.getElem?_eq_getElem hj]; exact List.getElem_mem hj
  show g2 f _ _ ∈ _ ∧ g2 s _ _ ∈ _
  generalize (osM f s c).getD i 0 = x at *
  generalize (osM f s c).getD j 0 = y at *
  have hgf := h.gF x y
  have hgs := h.gS x y
  rw [osM_mem] at mi mj ⊢
  rw [osM_mem]
  obtain ⟨⟨x1, x2⟩, x3⟩ := mi
  obtain ⟨⟨y1, y2⟩, y3⟩ := mj
  have hxl : x.toNat < f.length := by omega
  have hyl : y.toNat < f.length := by omega
  refine ⟨⟨hgf, ?_⟩, ⟨hgs, ?_⟩⟩
  · have hm : f[x.toNat] ∈ f ++ turnL s := List.mem_append.2 (.inl (List.getElem_mem hxl))
    have ha := orbL_act hp hyl hm
    have e1 : act f[x.toNat] (y.toNat : Int) = g2 f x y := by
      have hr : (f[x.toNat]).length = f.length := (h.tf _ (List.getElem_mem hxl)).1
      rw [← get_g2 (t := f) (x := x) (y := y) hxl (by omega), act, Int.toNat_natCast, List.getD_eq_getElem?_getD, List.getElem?_eq_getElem (by omega)]
      rfl
    rw [e1] at ha
    show (orbL (f ++ turnL s) f.length).getD _ 0 = c
    rw [ha]; exact y3
  · have hsl : y.toNat < (turnL s).length := by rw [turnL_length, h.len]; exact hyl
    have hm : (turnL s)[y.toNat] ∈ f ++ turnL s := List.mem_append.2 (.inr (List.getElem_mem hsl))
    have ha := orbL_act hp hxl hm
    have e1 : act (turnL s)[y.toNat] (x.toNat : Int) = g2 s x y := by
      have hxs : x.toNat < s.length := by rw [h.len]; exact hxl
      have hr : ((turnL s)[y.toNat]).length = s.length := tabL_row (List.getElem_mem hsl)
      rw [act, Int.toNat_natCast, List.getD_eq_getElem?_getD, List.getElem?_eq_getElem (by omega)]
      simp [turnL, tabL, g2]
    rw [e1] at ha
    show (orbL (f ++ turnL s) f.length).getD _ 0 = c
    rw [ha]; exact x3
end Go.Mch
/- OrbitSolutions. -/
namespace Go.Mch

/-- Solutions in one list. -/
def solsT (L : List (List (List Int) × List (List Int))) : List T := L.flatMap fun x => [.mem .own (some 1) (rows x.1), .mem .own (some 1) (rows x.2)]
@[simp] theorem solsT_length (L : List (List (List Int) × List (List Int))) : (solsT L).length = 2 * L.length := by
  induction L with
  | nil => rfl
  | cons x L ih => simp only [solsT, List.flatMap_cons, List.length_append, List.length_cons, List.length_nil] at ih ⊢; omega
theorem solsT_snoc (L : List (List (List Int) × List (List Int))) (x : List (List Int) × List (List Int)) : solsT (L ++ [x]) = solsT L ++ [.mem .own (some 1) (rows x.1), .mem .own (some 1) (rows x.2)] := by simp [solsT]
theorem win_whole {ts : List T} {n : Nat} (h : ts.length ≤ n) : win ts 0 n = ts := by simp [win, List.take_of_length_le h]
/-- The first k orbits. -/
noncomputable def osL (f s : List (List Int)) (k : Nat) : List (List (List Int) × List (List Int)) := (List.range k).map fun c : Nat => (subT f (osM f s c), subT s (osM f s c))
@[simp] theorem osL_length (f s : List (List Int)) (k : Nat) : (osL f s k).length = k := by simp [osL]
theorem osL_succ (f s : List (List Int)) (k : Nat) : osL f s (k + 1) = osL f s k ++ [(subT f (osM f s k), subT s (osM f s k))] := by simp [osL, List.range_succ]
theorem osM_ne {f s : List (List Int)} (hpm : PM f s) (hn : nonDeg f s) {c : Nat} (hc : (c : Int) < greatest (solO f s)) : osM f s c ≠ [] := fun hh => by
  have hpr := prms_of hpm hn
  have hcl : (c : Int) < (orbS (f ++ turnL s) f.length f.length).2 := by
    apply Classical.byContradiction
    intro hno
    have := greatest_le (solO f s) c (by omega) fun x hx => by
      obtain ⟨i, hi, rfl⟩ := List.getElem_of_mem hx
      have hr := (orbS_rng (f ++ turnL s) f.length f.length i (by simpa using hi)).2
      have he : (orbS (f ++ turnL s) f.length f.length).1.getD i 0 = (solO f s)[i] := by
        rw [List.getD_eq_getElem?_getD]
        show ((solO f s)[i]?).getD 0 = _
        rw [List.getElem?_eq_getElem hi]
        rfl
      omega
    omega
  obtain ⟨x, hx, he⟩ := orbS_hit hpr f.length (Nat.le_refl _) c (by omega) hcl
  have : (x : Int) ∈ osM f s c := osM_mem.2 ⟨by omega, by rw [Int.toNat_natCast]; exact he⟩
  rw [hh] at this
  cases this
noncomputable def osV (f s : List (List Int)) : T := .mem .own (some 2) (solsT (osL f s (greatest (solO f s)).toNat))
def S_os (pg : Pg) (n : Nat) : Prop := ∀ f s : List (List Int), fits f → fits s → Call pg n [sol f s] [sol f s] (.tup [onReg nil osV f s, I (onReg 1 (fun _ _ => 0) f s)])
set_option maxRecDepth 10000 in
theorem t_os_spec {pg : Pg} (hp : pg.fn 208 = some c_spec_OrbitSolutions) (h264 : S_reg pg 264) (h299 : S_solO pg 299) (h288 : S_greatest pg) (h316 : S_members pg) (h332 : S_sub pg) : S_os pg 208 := by
  intro f s hf hs
  refine Call.intro hp rfl (by simp) ?_
  show wp _ _ c_spec_OrbitSolutions.body (post [.t 2, .t 3] _ _ _) _
  simp [c_spec_OrbitSolutions]
  refine callR (h264 f s hf hs) rfl rfl (fun _ => rfl) ?_
  by_cases h : isReg f s
  · have hpm := PM.of h.1.1
    have h12 := hpm.small
    have h0 := hpm.pos
    have hpr := prms_of hpm h.2
    simp [dec_true h, onReg_true h]
    refine callR (h299 f s hpm h.2) rfl rfl (fun _ => by simp) ?_
    have hgr : ∀ x ∈ solO f s, 0 ≤ x ∧ x ≤ 1048576 := fun x hx => by have := solO_rng hx; omega
    have hcg := h288 (solO f s) (by simp; omega) hgr
    have hG0 : 0 ≤ greatest (solO f s) := greatest_nn _ fun x hx => (hgr x hx).1
    have hGl : greatest (solO f s) ≤ f.length := greatest_le _ _ (by omega) fun x hx => (solO_rng hx).2
    have hmem := fun v => h316 (solO f s) v (by simp; omega)
    have hsub : ∀ c : Nat, (c : Int) < greatest (solO f s) → Call pg 332 [sol f s, ix (osM f s c)] [sol f s, ix (osM f s c)] (.agg [.mem .own (some 1) (rows (subT f (osM f s c))), .mem .own (some 1) (rows (subT s (osM f s c)))]) := fun c hc => by
      obtain ⟨o1, o2⟩ := osM_set (osM_ne hpm h.2 hc)
      exact h332 f s _ hpm o1.inN o1.1 (by omega)
    unfold osV
    change ∀ v : Int, Call pg 316 _ _ (.mem .own (some 1) ((osM f s v).map I)) at hmem
    generalize greatest (solO f s) = G at *
    obtain ⟨m, rfl⟩ : ∃ m : Nat, G = m := ⟨G.toNat, by omega⟩
    simp
    refine wpLoop_count (fun k e => e = fr [(1, some (.val (.mem .own none [tb f, tb s]))), (4, some (.val (.mem .own (some 1) ((solO f s).map I)))), (5, some (.val (.mem .own (some 2) (solsT (osL f s k))))), (6, some (.val (I k)))]) m ?_ ?_ 0 _ (by omega) ?_
    · rintro k e hk rfl
      have hsk := hsub k (by omega)
      rw [osL_succ, solsT_snoc]
      have hlk := osL_length f s k
      generalize osL f s k = L at *
      simp
      refine callR hcg rfl rfl (fun _ => rfl) ?_
      simp [hk]
      refine callR (hmem k) rfl rfl (fun _ => by simp) ?_
      simp
      refine callR hsk rfl rfl (fun _ => by simp) ?_
      have hw1 : win (solsT L) 0 (L.length * 2) = solsT L := win_whole (by simp; omega)
      simp [hw1]
      refine ⟨by omega, by unfold roomy; omega, by omega, by omega, ?_⟩
      rw [win_whole (by simp; omega)]
    · rintro e rfl
      simp
      refine callR hcg rfl rfl (fun _ => rfl) ?_
      have hw1 : win (solsT (osL f s m)) 0 (m * 2) = solsT (osL f s m) := win_whole (by simp; omega)
      simp [hw1]
      omega
    · simp [osL, solsT]
  · simp [onReg, h]
set_option maxRecDepth 10000 in
theorem t_os_impl {pg : Pg} (hp : pg.fn 209 = some c_impl_OrbitSolutions) (h266 : S_reg pg 266) (h301 : S_solO pg 301) (h290 : S_maxL pg) (h318 : S_places pg) (h239 : S_subI pg) : S_os pg 209 := by
  intro f s hf hs
  refine Call.intro hp rfl (by simp) ?_
  show wp _ _ c_impl_OrbitSolutions.body (post [.t 2, .t 3] _ _ _) _
  simp [c_impl_OrbitSolutions]
  refine callR (h266 f s hf hs) rfl rfl (fun _ => rfl) ?_
  by_cases h : isReg f s
  · have hpm := PM.of h.1.1
    have h12 := hpm.small
    have h0 := hpm.pos
    simp [dec_true h, onReg_true h]
    refine callR (h301 f s hpm h.2) rfl rfl (fun _ => by simp) ?_
    have hcg := h290 (solO f s) (by simp; omega) (by simpa using h0)
    have hg := greatest_max (solO f s) (by simpa using h0) (fun x hx => (solO_rng hx).1)
    have hG0 : 0 ≤ greatest (solO f s) := greatest_nn _ fun x hx => (solO_rng hx).1
    have hGl : greatest (solO f s) ≤ f.length := greatest_le _ _ (by omega) fun x hx => (solO_rng hx).2
    have hpos : 0 < greatest (solO f s) := by
      have hl : 0 < (solO f s).length := by simpa using h0
      have := le_greatest (solO f s) (List.getElem_mem hl)
      have := (solO_rng (List.getElem_mem hl)).1
      omega
    have hmem : ∀ c : Nat, (c : Int) < greatest (solO f s) → Call pg 318 [ix (solO f s), I c] [ix (solO f s), I c] (.mem .own (some 1) ((osM f s c).map I)) := fun c hc => by
      have := h318 (solO f s) c (by simp; omega)
      change Call pg 318 _ _ (ownN (osM f s c)) at this
      rw [ownN_ne (osM_ne hpm h.2 hc)] at this
      exact this
    have hsub : ∀ c : Nat, (c : Int) < greatest (solO f s) → Call pg 239 [sol f s, ix (osM f s c)] [sol f s, ix (osM f s c)] (.tup [.agg [.mem .own (some 1) (rows (subT f (osM f s c))), .mem .own (some 1) (rows (subT s (osM f s c)))], I 0]) := fun c hc => by
      obtain ⟨o1, o2⟩ := osM_set (osM_ne hpm h.2 hc)
      exact h239 f s _ h.1.1 o1 (osM_clo hpm h.2 _) (by omega)
    unfold osV
    simp
    refine callR hcg rfl rfl (fun _ => rfl) ?_
    have hmx : maxL (solO f s) + 1 = greatest (solO f s) := by omega
    simp [hmx]
    generalize greatest (solO f s) = G at *
    obtain ⟨m, rfl⟩ : ∃ m : Nat, G = m := ⟨G.toNat, by omega⟩
    refine ⟨by omega, ?_⟩
    refine wpLoop_count (fun k e => e = fr [(1, some (.val (.mem .own none [tb f, tb s]))), (4, some (.val (.mem .own (some 1) ((solO f s).map I)))), (5, some (.val (if k = 0 then nil else .mem .own (some 2) (solsT (osL f s k))))), (16, some (.val (I m))), (17, some (.val (I k)))]) m ?_ ?_ 0 _ (by omega) ?_
    · rintro k e hk rfl
      have hsk := hsub k (by omega)
      have hmk := hmem k (by omega)
      rw [osL_succ, solsT_snoc]
      have hlk := osL_length f s k
      generalize hL : osL f s k = L at *
      by_cases hk0 : k = 0
      · have hL0 : L = [] := List.length_eq_zero_iff.1 (by omega)
        subst hk0
        simp [hk]
        refine callR hmk rfl rfl (fun _ => by simp) ?_
        simp
        refine callR hsk rfl rfl (fun _ => by simp) ?_
        simp
        exact ⟨by unfold roomy; omega, by simp [hL0, solsT]⟩
      · simp [hk, hk0]
        refine callR hmk rfl rfl (fun _ => by simp) ?_
        simp
        refine callR hsk rfl rfl (fun _ => by simp) ?_
        have hw1 : win (solsT L) 0 (L.length * 2) = solsT L := win_whole (by simp; omega)
        simp [hw1]
        refine ⟨by omega, by unfold roomy; omega, by omega, by omega, ?_⟩
        rw [win_whole (by simp; omega)]
    · rintro e rfl
      have hm0 : ¬ m = 0 := by omega
      have hw1 : win (solsT (osL f s m)) 0 (m * 2) = solsT (osL f s m) := win_whole (by simp; omega)
      simp [hm0, hw1]
      omega
    · simp
  · simp [onReg, h]
end Go.Mch
/- Lists of solutions: marks, marks read again, comparison. -/
namespace Go.Mch

/-- Tables in one list: a solution is two of them. -/
def tabs (Ts : List (List (List Int))) : List T := Ts.map fun X => .mem .own (some 1) (rows X)
def tbs (Ts : List (List (List Int))) : List T := Ts.map tb
@[simp] theorem tabs_length (Ts : List (List (List Int))) : (tabs Ts).length = Ts.length := by simp [tabs]
@[simp] theorem tbs_length (Ts : List (List (List Int))) : (tbs Ts).length = Ts.length := by simp [tbs]
@[simp] theorem eryL_tabs (Ts : List (List (List Int))) : T.eryL .old (tabs Ts) = tbs Ts := by
  induction Ts with
  | nil => rfl
  | cons X Ts ih => simpa [tabs, tbs, tb] using ih
@[simp] theorem eryL_tbs (Ts : List (List (List Int))) : T.eryL .old (tbs Ts) = tbs Ts := by
  induction Ts with
  | nil => rfl
  | cons X Ts ih => simpa [tabs, tbs, tb] using ih
@[simp] theorem lendL_tabs (Ts : List (List (List Int))) : T.lendL (tabs Ts) = tabs Ts := by
  induction Ts with
  | nil => rfl
  | cons X Ts ih => simpa [tabs] using ih
@[simp] theorem noOldL_tabs (Ts : List (List (List Int))) : T.noOldL (tabs Ts) = true := by
  induction Ts with
  | nil => rfl
  | cons X Ts ih => simpa [tabs] using ih
@[simp] theorem noOwnL_tbs (Ts : List (List (List Int))) : T.noOwnL (tbs Ts) = true := by
  induction Ts with
  | nil => rfl
  | cons X Ts ih => simpa [tbs, tb] using ih
@[simp] theorem tabs_getElem (Ts : List (List (List Int))) (j : Nat) (h : j < (tabs Ts).length) : (tabs Ts)[j] = .mem .own (some 1) (rows (Ts[j]'(by simpa using h))) := by simp [tabs]
@[simp] theorem tbs_getElem (Ts : List (List (List Int))) (j : Nat) (h : j < (tbs Ts).length) : (tbs Ts)[j] = tb (Ts[j]'(by simpa using h)) := by simp [tbs]

/-- The mark at which table j begins. -/
def kS (k : Int) (Ts : List (List (List Int))) : Nat → Int
  | 0 => k
  | j + 1 => kAt (kS k Ts j) (Ts.getD j []) (Ts.getD j []).length
theorem kS_le {k : Int} {Ts : List (List (List Int))} (h : ∀ X ∈ Ts, smallT X) : ∀ j, j ≤ Ts.length → k ≤ kS k Ts j ∧ kS k Ts j ≤ k + j * 1099511627776
  | 0, _ => by simp [kS]
  | j + 1, hj => by
    have h1 := kS_le (k := k) h j (by omega)
    have hm : smallT (Ts.getD j []) := by
      rw [List.getD_eq_getElem?_getD, List.getElem?_eq_getElem (show j < Ts.length by omega)]
      exact h _ (List.getElem_mem _)
    have h2 := kAt_le (k := kS k Ts j) hm _ (Nat.le_refl _)
    have h3 := hm.1
    simp only [kS]
    omega
def uptoS (k : Int) (Ts : List (List (List Int))) (j : Nat) : List (List (List Int)) := (List.range Ts.length).map fun i => if i < j then upT (kS k Ts i) (Ts.getD i []) else Ts.getD i []
def upS (k : Int) (Ts : List (List (List Int))) : List (List (List Int)) := (List.range Ts.length).map fun i => upT (kS k Ts i) (Ts.getD i [])
@[simp] theorem uptoS_length (k : Int) (Ts : List (List (List Int))) (j : Nat) : (uptoS k Ts j).length = Ts.length := by simp [uptoS]
@[simp] theorem upS_length (k : Int) (Ts : List (List (List Int))) : (upS k Ts).length = Ts.length := by simp [upS]
theorem uptoS_zero (k : Int) (Ts : List (List (List Int))) : uptoS k Ts 0 = Ts := by
  apply List.ext_getElem
  · simp
  · intro i h1 h2
    simp [uptoS, List.getD_eq_getElem?_getD, List.getElem?_eq_getElem h2]
theorem uptoS_all (k : Int) (Ts : List (List (List Int))) : uptoS k Ts Ts.length = upS k Ts := by
  simp only [uptoS, upS]
  apply List.map_congr_left
  intro i hi
  simp only [List.mem_range] at hi
  rw [if_pos hi]
@[simp] theorem uptoS_get (k : Int) (Ts : List (List (List Int))) (j : Nat) (hj : j < (uptoS k Ts j).length) : (uptoS k Ts j)[j] = Ts[j]'(by simpa using hj) := by
  have : j < Ts.length := by simpa using hj
  simp [uptoS, this]
theorem uptoS_set (k : Int) (Ts : List (List (List Int))) {j : Nat} (hj : j < Ts.length) : (tabs (uptoS k Ts j)).set j (.mem .own (some 1) (rows (upT (kS k Ts j) Ts[j]))) = tabs (uptoS k Ts (j + 1)) := by
  apply List.ext_getElem
  · simp
  · intro i h1 h2
    simp only [tabs, List.getElem_set, List.getElem_map, uptoS, List.getElem_range]
    have hi : i < Ts.length := by simpa using h2
    by_cases h : j = i
    · subst h; simp [List.getD_eq_getElem?_getD, List.getElem?_eq_getElem hi]
    · rw [if_neg h]
      by_cases h3 : i < j
      · rw [if_pos h3, if_pos (by omega)]
      · rw [if_neg h3, if_neg (by omega)]
@[simp] theorem upS_get (k : Int) (Ts : List (List (List Int))) (j : Nat) (hj : j < (upS k Ts).length) : (upS k Ts)[j] = upT (kS k Ts j) (Ts[j]'(by simpa using hj)) := by
  have : j < Ts.length := by simpa using hj
  simp [upS, this]

def S_markS (pg : Pg) : Prop := ∀ (Ts : List (List (List Int))) (m : Nat) (k : Int), Ts.length = m * 2 → m ≤ 1024 → (∀ X ∈ Ts, smallT X) → 0 ≤ k → k ≤ 1048576 → Call pg 211 [.mem .own (some 2) (tabs Ts), I k] [.mem .own (some 2) (tabs (upS k Ts)), I k] (I (kS k Ts Ts.length))
set_option maxRecDepth 10000 in
theorem t_markS {pg : Pg} (hp : pg.fn 211 = some c_laws_markSolutionS) (h23 : S_markT pg) : S_markS pg := by
  intro Ts m k hl hm hs h1 h2
  refine Call.intro_own hp rfl rfl ?_
  show wp _ _ c_laws_markSolutionS.body (post [.t 4] _ _ _) _
  simp [c_laws_markSolutionS]
  refine wpLoop_count (fun j e => e = fr [(0, some (.val (.mem .own (some 2) (tabs (uptoS k Ts (j * 2)))))), (1, some (.val (I (kS k Ts (j * 2))))), (5, some (.val (I j)))]) m ?_ ?_ 0 _ (by omega) ?_
  · rintro j e hj rfl
    have b1 := kS_le (k := k) hs (j * 2) (by omega)
    have b2 := kS_le (k := k) hs (j * 2 + 1) (by omega)
    have hj1 : j * 2 < Ts.length := by omega
    have hj2 : j * 2 + 1 < Ts.length := by omega
    have e1 : kS k Ts (j * 2 + 1) = kAt (kS k Ts (j * 2)) Ts[j * 2] Ts[j * 2].length := by
      simp only [kS, List.getD_eq_getElem?_getD, List.getElem?_eq_getElem hj1, Option.getD_some]
    have e2 : kS k Ts ((j + 1) * 2) = kAt (kS k Ts (j * 2 + 1)) Ts[j * 2 + 1] Ts[j * 2 + 1].length := by
      rw [show (j + 1) * 2 = j * 2 + 1 + 1 by omega]
      simp only [kS, List.getD_eq_getElem?_getD, List.getElem?_eq_getElem hj2, Option.getD_some]
    have c1 := h23.at Ts[j * 2] (kS k Ts (j * 2)) (hs _ (List.getElem_mem hj1)) (by omega) (by omega)
    have c2 := h23.at Ts[j * 2 + 1] (kS k Ts (j * 2 + 1)) (hs _ (List.getElem_mem hj2)) (by omega) (by omega)
    have s1 := uptoS_set k Ts hj1
    have s2 := uptoS_set k Ts hj2
    rw [← e1] at c1
    rw [← e2] at c2
    simp [hl, hj]
    refine ⟨by omega, ?_⟩
    refine callM (ts' := [.mem .own (some 1) (rows (upT (kS k Ts (j * 2)) Ts[j * 2])), I (kS k Ts (j * 2))]) (r := I (kS k Ts (j * 2 + 1))) ?_ ?_ ?_ ?_
    · simp [hl, hj]
    · simpa using c1
    · simp
    have hj3 : j * 2 + 1 < m * 2 := by omega
    simp [hl, hj, s1, hj3]
    refine ⟨by omega, ?_⟩
    refine callM (ts' := [.mem .own (some 1) (rows (upT (kS k Ts (j * 2 + 1)) Ts[j * 2 + 1])), I (kS k Ts (j * 2 + 1))]) (r := I (kS k Ts ((j + 1) * 2))) ?_ ?_ ?_ ?_
    · simp [hl, hj3]
    · simpa using c2
    · simp
    rw [show j * 2 + 1 + 1 = (j + 1) * 2 by omega] at s2
    simp [hl, hj3, s2]
    omega
  · rintro e rfl
    simp [hl]
    rw [← hl, uptoS_all]
  · simp [uptoS_zero, kS]
def S_markS0 (pg : Pg) : Prop := ∀ k : Int, Call pg 211 [nil, I k] [nil, I k] (I k)
theorem t_markS0 {pg : Pg} (hp : pg.fn 211 = some c_laws_markSolutionS) : S_markS0 pg := by
  intro k
  refine Call.intro hp rfl (by simp) ?_
  show wp _ _ c_laws_markSolutionS.body (post [.t 4] _ _ _) _
  simp [c_laws_markSolutionS]
  refine wpLoop_count (fun j e => e = fr [(0, some (.val nil)), (1, some (.val (I k))), (5, some (.val (I 0)))]) 0 ?_ ?_ 0 _ (by omega) ?_
  · intro j e hj; omega
  · rintro e rfl
    simp
  · simp
theorem upT_small2 {X : List (List Int)} (h : smallT X) (k : Int) : smallT (upT k X) := upT_small h k
def S_heldS (pg : Pg) : Prop := ∀ (Ts : List (List (List Int))) (m : Nat) (k : Int), Ts.length = m * 2 → m ≤ 1024 → (∀ X ∈ Ts, smallT X) → 0 ≤ k → k ≤ 1048576 → Call pg 212 [.mem .old (some 2) (tbs (upS k Ts)), I k] [.mem .old (some 2) (tbs (upS k Ts)), I k] (I (kS k Ts Ts.length))
set_option maxRecDepth 10000 in
theorem t_heldS {pg : Pg} (hp : pg.fn 212 = some c_laws_heldSolutionS) (h24 : S_heldT pg) : S_heldS pg := by
  intro Ts m k hl hm hs h1 h2
  refine Call.intro hp rfl (by simp) ?_
  show wp _ _ c_laws_heldSolutionS.body (post [.t 4] _ _ _) _
  simp [c_laws_heldSolutionS]
  refine wpLoop_count (fun j e => e = fr [(0, some (.val (.mem .old (some 2) (tbs (upS k Ts))))), (1, some (.val (I (kS k Ts (j * 2))))), (5, some (.val (I j)))]) m ?_ ?_ 0 _ (by omega) ?_
  · rintro j e hj rfl
    have b1 := kS_le (k := k) hs (j * 2) (by omega)
    have b2 := kS_le (k := k) hs (j * 2 + 1) (by omega)
    have b3 := kS_le (k := k) hs ((j + 1) * 2) (by omega)
    have hj1 : j * 2 < Ts.length := by omega
    have hj2 : j * 2 + 1 < Ts.length := by omega
    have e1 : kS k Ts (j * 2 + 1) = kAt (kS k Ts (j * 2)) Ts[j * 2] Ts[j * 2].length := by
      simp only [kS, List.getD_eq_getElem?_getD, List.getElem?_eq_getElem hj1, Option.getD_some]
    have e2 : kS k Ts ((j + 1) * 2) = kAt (kS k Ts (j * 2 + 1)) Ts[j * 2 + 1] Ts[j * 2 + 1].length := by
      rw [show (j + 1) * 2 = j * 2 + 1 + 1 by omega]
      simp only [kS, List.getD_eq_getElem?_getD, List.getElem?_eq_getElem hj2, Option.getD_some]
    have c1 := h24.o (some (upT (kS k Ts (j * 2)) Ts[j * 2])) (kS k Ts (j * 2)) (upT_small2 (hs _ (List.getElem_mem hj1)) _) (by omega) (by omega)
    have c2 := h24.o (some (upT (kS k Ts (j * 2 + 1)) Ts[j * 2 + 1])) (kS k Ts (j * 2 + 1)) (upT_small2 (hs _ (List.getElem_mem hj2)) _) (by omega) (by omega)
    simp only [eT, lso_some] at c1 c2
    rw [heldL_all _ _ (by omega), ← e1] at c1
    rw [heldL_all _ _ (by omega), ← e2] at c2
    have hj3 : j * 2 + 1 < m * 2 := by omega
    have n1 : ¬ kS k Ts (j * 2 + 1) < 0 := by omega
    have n2 : ¬ kS k Ts ((j + 1) * 2) < 0 := by omega
    simp [hl, hj]
    refine callR c1 rfl rfl (fun _ => rfl) ?_
    simp [hl, hj, hj3, n1]
    refine ⟨by simp [win, hl]; omega, ?_⟩
    refine callR c2 rfl rfl (fun _ => rfl) ?_
    simp [n2]
    omega
  · rintro e rfl
    simp [hl]
  · simp [kS]
def S_heldS0 (pg : Pg) : Prop := ∀ k : Int, Call pg 212 [nil, I k] [nil, I k] (I k)
theorem t_heldS0 {pg : Pg} (hp : pg.fn 212 = some c_laws_heldSolutionS) : S_heldS0 pg := by
  intro k
  refine Call.intro hp rfl (by simp) ?_
  show wp _ _ c_laws_heldSolutionS.body (post [.t 4] _ _ _) _
  simp [c_laws_heldSolutionS]
  refine wpLoop_count (fun j e => e = fr [(0, some (.val nil)), (1, some (.val (I k))), (5, some (.val (I 0)))]) 0 ?_ ?_ 0 _ (by omega) ?_
  · intro j e hj; omega
  · rintro e rfl
    simp
  · simp
def S_eqS (pg : Pg) : Prop := ∀ (Ts : List (List (List Int))) (m : Nat), Ts.length = m * 2 → m ≤ 1024 → (∀ X ∈ Ts, smallT X) → Call pg 210 [.mem .old (some 2) (tbs Ts), .mem .old (some 2) (tbs Ts)] [.mem .old (some 2) (tbs Ts), .mem .old (some 2) (tbs Ts)] (B true)
set_option maxRecDepth 10000 in
theorem t_eqS {pg : Pg} (hp : pg.fn 210 = some c_laws_eqSolutionS) (h18 : S_eqSol pg) : S_eqS pg := by
  intro Ts m hl hm hs
  refine Call.intro hp rfl (by simp) ?_
  show wp _ _ c_laws_eqSolutionS.body (post [.t 4] _ _ _) _
  simp [c_laws_eqSolutionS]
  refine wpLoop_count (fun j e => e = fr [(0, some (.val (.mem .old (some 2) (tbs Ts)))), (1, some (.val (.mem .old (some 2) (tbs Ts)))), (5, some (.val (I j)))]) m ?_ ?_ 0 _ (by omega) ?_
  · rintro j e hj rfl
    have hj1 : j * 2 < Ts.length := by omega
    have hj2 : j * 2 + 1 < Ts.length := by omega
    have c1 := h18.o Ts[j * 2] Ts[j * 2 + 1] Ts[j * 2] Ts[j * 2 + 1] (hs _ (List.getElem_mem hj1)) (hs _ (List.getElem_mem hj2))
    have hj3 : j * 2 + 1 < m * 2 := by omega
    have hw : win (tbs Ts) (j * 2) 2 = [tb Ts[j * 2], tb Ts[j * 2 + 1]] := by
      simp only [win, tbs]
      rw [List.drop_eq_getElem_cons (by simpa using hj1), List.drop_eq_getElem_cons (by simpa using hj2)]
      simp
    simp [hl, hj, hw]
    refine callR c1 rfl rfl (fun _ => rfl) ?_
    simp
    omega
  · rintro e rfl
    simp [hl]
  · simp
def S_eqS0 (pg : Pg) : Prop := Call pg 210 [nil, nil] [nil, nil] (B true)
theorem t_eqS0 {pg : Pg} (hp : pg.fn 210 = some c_laws_eqSolutionS) : S_eqS0 pg := by
  refine Call.intro hp rfl (by simp) ?_
  show wp _ _ c_laws_eqSolutionS.body (post [.t 4] _ _ _) _
  simp [c_laws_eqSolutionS]
  refine wpLoop_count (fun j e => e = fr [(0, some (.val nil)), (1, some (.val nil)), (5, some (.val (I 0)))]) 0 ?_ ?_ 0 _ (by omega) ?_
  · intro j e hj; omega
  · rintro e rfl
    simp
  · simp
end Go.Mch
/- The run of the law of OrbitSolutions. -/
namespace Go.Mch
/-- The tables of solutions, one behind another. -/
def flatS (L : List (List (List Int) × List (List Int))) : List (List (List Int)) := L.flatMap fun x => [x.1, x.2]
theorem solsT_tabs (L : List (List (List Int) × List (List Int))) : solsT L = tabs (flatS L) := by
  simp only [solsT, tabs, flatS, List.map_flatMap, List.map_cons, List.map_nil]
theorem flatS_length (L : List (List (List Int) × List (List Int))) : (flatS L).length = L.length * 2 := by
  induction L with
  | nil => rfl
  | cons x L ih => simp only [flatS, List.flatMap_cons, List.length_append, List.length_cons, List.length_nil] at ih ⊢; omega
theorem subT_small {f : List (List Int)} {l : List Int} (h : l.length ≤ 1048576) : smallT (subT f l) := ⟨by simpa [subT] using h, fun r hr => by rw [tabL_row hr]; exact h⟩
/-- What both return: a list of two tables a solution, or nil. -/
inductive Osr (f s : List (List Int)) : Prop
  | nil (h : onReg Go.Mch.nil osV f s = Go.Mch.nil) : Osr f s
  | ls (Ts : List (List (List Int))) (m : Nat) (h : onReg Go.Mch.nil osV f s = .mem .own (some 2) (tabs Ts)) (hl : Ts.length = m * 2) (hm : m ≤ 1024) (hs : ∀ X ∈ Ts, smallT X) : Osr f s
theorem osr (f s : List (List Int)) : Osr f s := by
  by_cases h : isReg f s
  · have hpm := PM.of h.1.1
    have h12 := hpm.small
    have hG0 : 0 ≤ greatest (solO f s) := greatest_nn _ fun x hx => (solO_rng hx).1
    have hGl : greatest (solO f s) ≤ f.length := greatest_le _ _ (by omega) fun x hx => (solO_rng hx).2
    refine .ls (flatS (osL f s (greatest (solO f s)).toNat)) (greatest (solO f s)).toNat ?_ ?_ ?_ ?_
    · rw [onReg_true h, osV, solsT_tabs]
    · rw [flatS_length, osL_length]
    · omega
    · intro X hX
      simp only [flatS, osL, List.mem_flatMap, List.mem_map, List.mem_range] at hX
      obtain ⟨_, ⟨c, hc, rfl⟩, hX⟩ := hX
      have hl := (osM_set (osM_ne hpm h.2 (c := c) (by omega))).2
      have hl : (osM f s c).length ≤ 1048576 := by omega
      simp only [List.mem_cons, List.not_mem_nil, or_false] at hX
      rcases hX with rfl | rfl
      · exact subT_small hl
      · exact subT_small hl
  · exact .nil (onReg_false h)
def S_law102 (pg : Pg) : Prop := ∀ (a0 b0 : Rw (Rw Int)), small a0 → small b0 → ∃ args', Call pg 102 [.agg [rawT a0, rawT b0]] args' (B true)
set_option maxRecDepth 20000 in
theorem t_law102 {pg : Pg} (hp : pg.fn 102 = some c_laws_FnExactOrbitSolutions) (h208 : S_os pg 208) (h209 : S_os pg 209) (h14 : S_szSol pg) (h16 : S_toSol pg) (h18 : S_eqSol pg) (h22 : S_markSol pg) (h210 : S_eqS pg) (h210z : S_eqS0 pg) (h211 : S_markS pg) (h211z : S_markS0 pg) (h212 : S_heldS pg) (h212z : S_heldS0 pg) : S_law102 pg := by
  intro a0 b0 ha0 hb0
  refine ⟨[.agg [rawT a0, rawT b0]], Call.intro hp rfl (by simp) ?_⟩
  obtain ⟨r, hr1, hr2, hsz⟩ := h14 a0 b0 1048576 ha0 hb0 (by omega) (by omega)
  have hto0 := h16 a0 b0 ha0 hb0
  have hfa0 := fitsT_of ha0
  have hfb0 := fitsT_of hb0
  generalize hF0 : (lst a0).map lst = F0 at *
  generalize hS0 : (lst b0).map lst = S0 at *
  have hc1 := h208 F0 S0 hfa0 hfb0
  have hc2 := h209 F0 S0 hfa0 hfb0
  have hv := osr F0 S0
  generalize onReg 1 (fun _ _ => 0) F0 S0 = o1 at *
  have hk0a := kAt_le (k := (1 : Int)) hfa0 F0.length (Nat.le_refl _)
  have hk0b := kAt_le (k := (kAt (1 : Int) F0 F0.length)) hfb0 S0.length (Nat.le_refl _)
  have hfl0 := hfa0.1
  have hsl0 := hfb0.1
  have hkN : ¬ (kAt (kAt (1 : Int) F0 F0.length) S0 S0.length) < 0 := by omega
  show wp _ _ c_laws_FnExactOrbitSolutions.body (post [.t 2] _ _ _) _
  simp [c_laws_FnExactOrbitSolutions]
  refine callR hsz rfl rfl (fun _ => rfl) ?_
  by_cases hneg : r < 0
  · simp [hneg]
  · simp [hneg]
    cases hv with
    | ls Ts m hv hl hm hs =>
      rw [hv] at hc1 hc2
      have b1 := kS_le (k := 1) hs Ts.length (Nat.le_refl _)
      have hn0 : ¬ kS 1 Ts (m * 2) < 0 := by rw [← hl]; omega
      have hw1 : win (tabs Ts) 0 (m * 2) = tabs Ts := win_whole (by simp; omega)
      have hw2 : win (tabs (upS 1 Ts)) 0 (m * 2) = tabs (upS 1 Ts) := win_whole (by simp; omega)
      refine callR hto0 rfl rfl (fun _ => by simp) ?_
      simp
      refine callR hc1 rfl rfl (fun _ => by simp) ?_
      simp [hl, hw1]
      refine callR hto0 rfl rfl (fun _ => by simp) ?_
      simp
      refine callR hc2 rfl rfl (fun _ => by simp) ?_
      simp [hl, hw1]
      refine callR (h210 Ts m hl hm hs) rfl rfl (fun _ => rfl) ?_
      simp
      refine callR hto0 rfl rfl (fun _ => by simp) ?_
      simp
      refine callR (h18.o F0 S0 F0 S0 hfa0 hfb0) rfl rfl (fun _ => rfl) ?_
      simp
      refine callM (ts' := [.agg [.mem .own (some 1) (rows (upT (1 : Int) F0)), .mem .own (some 1) (rows (upT (kAt (1 : Int) F0 F0.length) S0))], I (1 : Int)]) (r := I (kAt (kAt (1 : Int) F0 F0.length) S0 S0.length)) ?_ ?_ ?_ ?_
      · simp
      · simpa using h22 F0 S0 (1 : Int) hfa0 hfb0 (by omega) (by omega)
      · simp
      simp [hl, hw1, hkN]
      refine callR (h210 Ts m hl hm hs) rfl rfl (fun _ => rfl) ?_
      simp [hl, hw1]
      refine callM (ts' := [.mem .own (some 2) (tabs (upS 1 Ts)), I (1 : Int)]) (r := I (kS 1 Ts Ts.length)) ?_ ?_ ?_ ?_
      · simp
      · simpa using h211 Ts m 1 hl hm hs (by omega) (by omega)
      · simp
      simp [hl, hw2]
      refine callR (h212 Ts m 1 hl hm hs (by omega) (by omega)) rfl rfl (fun _ => rfl) ?_
      simp [hl, hn0]
      refine callR hto0 rfl rfl (fun _ => by simp) ?_
      simp
      refine callR hc2 rfl rfl (fun _ => by simp) ?_
      simp [hl, hw1]
      refine callR (h210 Ts m hl hm hs) rfl rfl (fun _ => rfl) ?_
      simp [hl, hw2]
      refine callR (h212 Ts m 1 hl hm hs (by omega) (by omega)) rfl rfl (fun _ => rfl) ?_
      simp [hl, hn0]
    | nil hv =>
      rw [hv] at hc1 hc2
      refine callR hto0 rfl rfl (fun _ => by simp) ?_
      simp
      refine callR hc1 rfl rfl (fun _ => by simp) ?_
      simp
      refine callR hto0 rfl rfl (fun _ => by simp) ?_
      simp
      refine callR hc2 rfl rfl (fun _ => by simp) ?_
      simp
      refine callR h210z rfl rfl (fun _ => rfl) ?_
      simp
      refine callR hto0 rfl rfl (fun _ => by simp) ?_
      simp
      refine callR (h18.o F0 S0 F0 S0 hfa0 hfb0) rfl rfl (fun _ => rfl) ?_
      simp
      refine callM (ts' := [.agg [.mem .own (some 1) (rows (upT (1 : Int) F0)), .mem .own (some 1) (rows (upT (kAt (1 : Int) F0 F0.length) S0))], I (1 : Int)]) (r := I (kAt (kAt (1 : Int) F0 F0.length) S0 S0.length)) ?_ ?_ ?_ ?_
      · simp
      · simpa using h22 F0 S0 (1 : Int) hfa0 hfb0 (by omega) (by omega)
      · simp
      simp [hkN]
      refine callR h210z rfl rfl (fun _ => rfl) ?_
      simp
      refine callM (ts' := [nil, I (1 : Int)]) (r := I (1 : Int)) ?_ ?_ ?_ ?_
      · simp
      · simpa using h211z 1
      · simp
      simp
      refine callR (h212z 1) rfl rfl (fun _ => rfl) ?_
      simp
      refine callR hto0 rfl rfl (fun _ => by simp) ?_
      simp
      refine callR hc2 rfl rfl (fun _ => by simp) ?_
      simp
      refine callR h210z rfl rfl (fun _ => rfl) ?_
      simp
      refine callR (h212z 1) rfl rfl (fun _ => rfl) ?_
      simp
end Go.Mch
