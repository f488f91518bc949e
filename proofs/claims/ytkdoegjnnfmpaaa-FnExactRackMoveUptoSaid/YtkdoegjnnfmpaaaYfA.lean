/- Lists of numbers and of lists as trees; what the laws read and make. -/
import Derived.Test.YtkdoegjnnfmpaaaYeA
namespace Go.Mch

abbrev nil : T := .sc (.slice none 0 0)

/-- What a slice of the caller's is: nil, an empty one without cells, or one with cells. -/
inductive Rw (α : Type) where
  | no
  | odd (a : Addr)
  | of (l : List α)

def lst {α : Type} : Rw α → List α
  | .of l => l
  | _ => []
def lso {α : Type} (o : Option (List α)) : List α := o.getD []
def Rw.ofO {α : Type} : Option (List α) → Rw α
  | none => .no
  | some l => .of l

/-- A slice of the caller's. -/
def rawI : Rw Int → T
  | .no => nil
  | .odd a => .sc (.slice (some a) 0 0)
  | .of xs => .mem .old (some 1) (xs.map I)

@[simp] theorem lst_of {α : Type} (l : List α) : lst (.of l) = l := rfl
@[simp] theorem lst_no {α : Type} : lst (.no : Rw α) = [] := rfl
@[simp] theorem lst_odd {α : Type} (a : Addr) : lst (.odd a : Rw α) = [] := rfl
@[simp] theorem lso_some {α : Type} (l : List α) : lso (some l) = l := rfl
@[simp] theorem lso_none {α : Type} : lso (none : Option (List α)) = [] := rfl
@[simp] theorem lst_ofO {α : Type} (o : Option (List α)) : lst (Rw.ofO o) = lso o := by cases o <;> rfl

@[simp] theorem noOwnL_mapI (xs : List Int) : T.noOwnL (xs.map I) = true := by
  induction xs with
  | nil => rfl
  | cons x xs ih => simp [ih]
@[simp] theorem eryL_mapI (k : K) (xs : List Int) : T.eryL k (xs.map I) = xs.map I := by
  induction xs with
  | nil => rfl
  | cons x xs ih => simp [ih]
@[simp] theorem noOldL_mapI (xs : List Int) : T.noOldL (xs.map I) = true := by
  induction xs with
  | nil => rfl
  | cons x xs ih => simp [ih]
@[simp] theorem lendL_mapI (xs : List Int) : T.lendL (xs.map I) = xs.map I := by
  induction xs with
  | nil => rfl
  | cons x xs ih => simp [ih]
@[simp] theorem rawI_noOwn (a : Rw Int) : (rawI a).noOwn = true := by cases a <;> simp [rawI]
@[simp] theorem rawI_peek (a : Rw Int) (n : Nat) (p : List Nat) : (rawI a).peek n p = .val (rawI a) := by cases a <;> rfl
@[simp] theorem rawI_ery (a : Rw Int) : (rawI a).ery .old = rawI a := by cases a <;> simp [rawI]
@[simp] theorem rawI_len (a : Rw Int) : lenV (.val (rawI a)) = some (lst a).length := by cases a <;> simp [rawI]
@[simp] theorem rawI_idx (a : Rw Int) (i : Int) : idxV 1 (.val (rawI a)) i = if 0 ≤ i ∧ i < ((lst a).length : Int) then some (.val (.mem .old none (win ((lst a).map I) (i.toNat * 1) 1))) else none := by
  cases a with
  | no =>
    simp only [rawI, idxV, lst_no, List.length_nil, List.map_nil]
    rw [if_neg]
    omega
  | odd ad =>
    simp only [rawI, idxV, lst_odd, List.length_nil, List.map_nil]
    rw [if_neg]
    omega
  | of xs => simp [rawI]
theorem rawI_some (xs : List Int) : T.mem .old (some 1) (xs.map I) = rawI (.of xs) := rfl

/-- A slice of slices of the caller's. -/
def rawT : Rw (Rw Int) → T
  | .no => nil
  | .odd a => .sc (.slice (some a) 0 0)
  | .of rs => .mem .old (some 1) (rs.map rawI)
@[simp] theorem noOwnL_mapR (rs : List (Rw Int)) : T.noOwnL (rs.map rawI) = true := by
  induction rs with
  | nil => rfl
  | cons x xs ih => simp [ih]
@[simp] theorem eryL_mapR (rs : List (Rw Int)) : T.eryL .old (rs.map rawI) = rs.map rawI := by
  induction rs with
  | nil => rfl
  | cons x xs ih => simp [ih]
@[simp] theorem rawT_noOwn (a : Rw (Rw Int)) : (rawT a).noOwn = true := by cases a <;> simp [rawT]
@[simp] theorem rawT_peek (a : Rw (Rw Int)) (n : Nat) (p : List Nat) : (rawT a).peek n p = .val (rawT a) := by cases a <;> rfl
@[simp] theorem rawT_ery (a : Rw (Rw Int)) : (rawT a).ery .old = rawT a := by cases a <;> simp [rawT]
@[simp] theorem rawT_len (a : Rw (Rw Int)) : lenV (.val (rawT a)) = some (lst a).length := by cases a <;> simp [rawT]
@[simp] theorem rawT_idx (a : Rw (Rw Int)) (i : Int) : idxV 1 (.val (rawT a)) i = if 0 ≤ i ∧ i < ((lst a).length : Int) then some (.val (.mem .old none (win ((lst a).map rawI) (i.toNat * 1) 1))) else none := by
  cases a with
  | no =>
    simp only [rawT, idxV, lst_no, List.length_nil, List.map_nil]
    rw [if_neg]
    omega
  | odd ad =>
    simp only [rawT, idxV, lst_odd, List.length_nil, List.map_nil]
    rw [if_neg]
    omega
  | of xs => simp [rawT]
@[simp] theorem rawT_cells (a : Rw (Rw Int)) : (rawT a).cells = [rawT a] := by cases a <;> rfl
@[simp] theorem rawT_isCell (a : Rw (Rw Int)) : (rawT a).isCell = true := by cases a <;> rfl
@[simp] theorem rawI_isCell (a : Rw Int) : (rawI a).isCell = true := by cases a <;> rfl

/-- A call all of whose arguments are read only. -/
theorem callR {G : Rl} {d : Option Nat} {k : Env → Prop} {e : Env} {args : List (Opd × Mode)} {id : Nat} {caps ts : List T} {r : T} (hc : G id (ts ++ T.eryL .old caps) (ts ++ T.eryL .old caps) r) (hall : args.all (fun x => x.2 == .r) = true) (hlen : args.length = ts.length)
    (hold : e.lends args = true → r.noOld = true) (hk : k (e.setD d (.val r))) : callP G d k e args id caps ts := by
  refine ⟨ts, r, hc, rfl, fun h => ⟨hold h, hall⟩, ?_⟩
  have : ∀ (xs : List (Opd × Mode)) (us : List T), xs.all (fun x => x.2 == .r) = true → xs.length = us.length → e.back xs us = some e := by
    intro xs
    induction xs with
    | nil => intro us _ h; cases us with | nil => rfl | cons => simp at h
    | cons x xs ih =>
      intro us h h2
      obtain ⟨x, md⟩ := x
      simp only [List.all_cons, Bool.and_eq_true, beq_iff_eq] at h
      obtain ⟨rfl, h⟩ := h
      cases us with
      | nil => simp at h2
      | cons u us => simp only [Env.back]; exact ih us (by simpa using h) (by simpa using h2)
  rw [this args ts hall hlen]
  exact ⟨e, rfl, hk⟩

theorem set_fill {α : Type} {xs : List α} {z : α} {k : Nat} (hk : k < xs.length) :
    (List.take k xs ++ List.replicate (xs.length - k) z).set k xs[k] = List.take (k + 1) xs ++ List.replicate (xs.length - (k + 1)) z := by
  rw [List.set_append_right _ _ (by simp; omega)]
  have h1 : (List.take k xs).length = k := by simp; omega
  rw [h1, Nat.sub_self, show xs.length - k = (xs.length - (k + 1)) + 1 from by omega, List.replicate_succ, List.set_cons_zero]
  rw [List.take_succ_eq_append_getElem hk, List.append_assoc]
  rfl

theorem take_len {α : Type} (l : List α) {n : Nat} (h : l.length ≤ n) : l.take n = l := List.take_of_length_le h
@[simp] theorem take_map_len {α β : Type} (l : List α) (f : α → β) : List.take l.length (l.map f) = l.map f := List.take_of_length_le (by simp)

theorem callM {G : Rl} {d : Option Nat} {k : Env → Prop} {e : Env} {gs : List Bool} {ks : List Nat} {id : Nat} {caps : List T} {vs : List V} {y : List T × Env} {ts' : List T} {r : T} (hh : y.2.holes vs gs = true) (hc : G id (T.lendL y.1 ++ T.eryL .old caps) (ts' ++ T.eryL .old caps) r)
    (hl : ts'.length = y.1.length) (hk : bindP (y.2.gives vs gs ts') fun e2 => bindP (e.revive y.2 e2 vs gs ks) fun e3 => k (e3.setD d (.val r))) : callmP G d k e gs ks id caps vs y := ⟨hh, ts', r, hc, hl, hk⟩

/-! ### Copies -/

def S_toI (pg : Pg) : Prop := ∀ a : Rw Int, (lst a).length ≤ 1048576 → Call pg 7 [rawI a] [rawI a] (ints .own (lst a))
theorem t_toI {pg : Pg} (hp : pg.fn 7 = some c_laws_toInt64S) : S_toI pg := by
  intro a hl
  refine Call.intro hp rfl (by simp) ?_
  show wp _ _ c_laws_toInt64S.body (post [.t 2] _ _ _) _
  simp [c_laws_toInt64S, ints]
  refine ⟨by unfold roomy; omega, ?_⟩
  refine wpLoop_count (fun k e => e = fr [(0, some (.val (rawI a))), (3, some (.val (.mem .own (some 1) ((lst a).map I |>.take k |>.append (List.replicate ((lst a).length - k) (I 0)))))), (4, some (.val (I k)))]) (lst a).length ?_ ?_ 0 _ (by omega) ?_
  · rintro k e hk rfl
    simp [hk]
    refine ⟨by omega, by omega, by omega, ?_⟩
    have := set_fill (xs := (lst a).map I) (z := I 0) (k := k) (by simpa using hk)
    simp at this
    rw [this]
  · rintro e rfl
    simp [take_len]
  · simp

theorem S_toI.at {pg : Pg} (h : S_toI pg) (a : Rw Int) (hl : (lst a).length ≤ 1048576) : Call pg 7 [rawI a] [rawI a] (.mem .own (some 1) ((lst a).map I)) := h a hl

/-- A table of the frame's own. -/
def rows (xss : List (List Int)) : List T := xss.map fun xs => .mem .own (some 1) (xs.map I)
@[simp] theorem rows_length (xss : List (List Int)) : (rows xss).length = xss.length := by simp [rows]

@[simp] theorem noOldL_rows (xss : List (List Int)) : T.noOldL (rows xss) = true := by
  induction xss with
  | nil => rfl
  | cons x xs ih => simp only [rows, List.map_cons] at ih ⊢; simp [ih]
@[simp] theorem lendL_rows (xss : List (List Int)) : T.lendL (rows xss) = rows xss := by
  induction xss with
  | nil => rfl
  | cons x xs ih => simp only [rows, List.map_cons] at ih ⊢; simp [ih]
/-- A slice that is only read. -/
abbrev ix (xs : List Int) : T := .mem .old (some 1) (xs.map I)
/-- The rows of a table that is only read. -/
def tbL (xss : List (List Int)) : List T := xss.map fun xs => ix xs
/-- A table that is only read. -/
abbrev tb (xss : List (List Int)) : T := .mem .old (some 1) (tbL xss)
@[simp] theorem tbL_length (xss : List (List Int)) : (tbL xss).length = xss.length := by simp [tbL]
@[simp] theorem noOwnL_tbL (xss : List (List Int)) : T.noOwnL (tbL xss) = true := by
  induction xss with
  | nil => rfl
  | cons x xs ih => simp only [tbL, List.map_cons] at ih ⊢; simp [ih]
@[simp] theorem eryL_tbL (xss : List (List Int)) : T.eryL .old (tbL xss) = tbL xss := by
  induction xss with
  | nil => rfl
  | cons x xs ih => simp only [tbL, List.map_cons] at ih ⊢; simp [ih]
@[simp] theorem eryL_rows (xss : List (List Int)) : T.eryL .old (rows xss) = tbL xss := by
  induction xss with
  | nil => rfl
  | cons x xs ih => simp only [rows, tbL, List.map_cons] at ih ⊢; simp [ih]
theorem rawT_tb (xss : List (List Int)) : rawT (.of (xss.map .of)) = tb xss := by simp [rawT, tbL, rawI]
theorem rows_get (xss : List (List Int)) (j : Nat) : (rows xss)[j]? = (xss[j]?).map fun xs => .mem .own (some 1) (xs.map I) := by simp [rows]
@[simp] theorem rows_getElem (xss : List (List Int)) (j : Nat) (h : j < (rows xss).length) : (rows xss)[j] = .mem .own (some 1) ((xss[j]'(by simpa using h)).map I) := by simp [rows]

def small (a : Rw (Rw Int)) : Prop := (lst a).length ≤ 1048576 ∧ ∀ r ∈ lst a, (lst r).length ≤ 1048576

def S_toT (pg : Pg) : Prop := ∀ a, small a → Call pg 32 [rawT a] [rawT a] (.mem .own (some 1) (rows ((lst a).map lst)))
theorem t_toT {pg : Pg} (hp : pg.fn 32 = some c_laws_toInt64SS) (h7 : S_toI pg) : S_toT pg := by
  intro a ⟨hl, hr⟩
  refine Call.intro hp rfl (by simp) ?_
  show wp _ _ c_laws_toInt64SS.body (post [.t 2] _ _ _) _
  simp [c_laws_toInt64SS]
  refine ⟨by unfold roomy; omega, ?_⟩
  refine wpLoop_count (fun k e => e = fr [(0, some (.val (rawT a))), (3, some (.val (.mem .own (some 1) ((rows ((lst a).map lst)).take k ++ List.replicate ((lst a).length - k) nil)))), (4, some (.val (I k)))]) (lst a).length ?_ ?_ 0 _ (by omega) ?_
  · rintro k e hk rfl
    simp [hk]
    refine callR (h7.at _ (hr _ (List.getElem_mem hk))) rfl rfl (fun _ => by simp) ?_
    simp
    refine ⟨by omega, by omega, by omega, ?_⟩
    have := set_fill (xs := rows ((lst a).map lst)) (z := nil) (k := k) (by simpa using hk)
    simp [rows] at this
    simp [rows, this]
  · rintro e rfl
    simp [take_len]
  · simp


def S_toRack (pg : Pg) : Prop := ∀ a, small a → Call pg 6 [.agg [rawT a]] [.agg [rawT a]] (.agg [.mem .own (some 1) (rows ((lst a).map lst))])
theorem t_toRack {pg : Pg} (hp : pg.fn 6 = some c_laws_toRack) (h32 : S_toT pg) : S_toRack pg := by
  intro a ha
  refine Call.intro hp rfl (by simp) ?_
  show wp _ _ c_laws_toRack.body (post [.cell 2 (some 1)] _ _ _) _
  simp [c_laws_toRack]
  refine callR (h32 _ ha) rfl rfl (fun _ => by simp) ?_
  simp


def S_toSol (pg : Pg) : Prop := ∀ a b, small a → small b → Call pg 16 [.agg [rawT a, rawT b]] [.agg [rawT a, rawT b]] (.agg [.mem .own (some 1) (rows ((lst a).map lst)), .mem .own (some 1) (rows ((lst b).map lst))])
theorem t_toSol {pg : Pg} (hp : pg.fn 16 = some c_laws_toSolution) (h32 : S_toT pg) : S_toSol pg := by
  intro a b ha hb
  refine Call.intro hp rfl (by simp) ?_
  show wp _ _ c_laws_toSolution.body (post [.cell 2 (some 2)] _ _ _) _
  simp [c_laws_toSolution]
  refine callR (h32 _ ha) rfl rfl (fun _ => by simp) ?_
  simp
  refine callR (h32 _ hb) rfl rfl (fun _ => by simp) ?_
  simp

/-! ### Sizes -/

def sz1 (r : Rw Int) (l : Int) : Int := if l - ((lst r).length : Int) < 0 then -1 else l - ((lst r).length : Int)
def szL : List (Rw Int) → Int → Int
  | [], l => l
  | r :: rs, l => if sz1 r l < 0 then -1 else szL rs (sz1 r l)
def szT (a : Rw (Rw Int)) (l : Int) : Int := if l - ((lst a).length : Int) < 0 then -1 else szL (lst a) (l - ((lst a).length : Int))
theorem sz1_le {r : Rw Int} {l : Int} (h : -1 ≤ l) : -1 ≤ sz1 r l ∧ sz1 r l ≤ max l 0 := by
  unfold sz1; split <;> omega
theorem szL_le : ∀ (rs : List (Rw Int)) {l : Int}, -1 ≤ l → -1 ≤ szL rs l ∧ szL rs l ≤ max l 0
  | [], l, h => by unfold szL; omega
  | r :: rs, l, h => by
    have h1 := sz1_le (r := r) h
    unfold szL
    split
    · omega
    · have := szL_le rs (l := sz1 r l) h1.1
      omega
theorem szT_le {a : Rw (Rw Int)} {l : Int} (h : -1 ≤ l) : -1 ≤ szT a l ∧ szT a l ≤ max l 0 := by
  unfold szT
  split
  · omega
  · have := szL_le (lst a) (l := l - ((lst a).length : Int)) (by omega)
    omega

def S_szI (pg : Pg) : Prop := ∀ (a : Rw Int) (l : Int), (lst a).length ≤ 1048576 → -1 ≤ l → l ≤ 1048576 → Call pg 45 [rawI a, I l] [rawI a, I l] (I (sz1 a l))
theorem t_szI {pg : Pg} (hp : pg.fn 45 = some c_laws_szInt64S) : S_szI pg := by
  intro a l ha h1 h2
  refine Call.intro hp rfl (by simp) ?_
  show wp _ _ c_laws_szInt64S.body (post [.t 4] _ _ _) _
  by_cases hlt : l - ((lst a).length : Int) < 0
  · simp [c_laws_szInt64S, hlt, sz1]
    omega
  · simp [c_laws_szInt64S, hlt, sz1]
    omega

def S_szT (pg : Pg) : Prop := ∀ (a : Rw (Rw Int)) (l : Int), small a → -1 ≤ l → l ≤ 1048576 → Call pg 27 [rawT a, I l] [rawT a, I l] (I (szT a l))
theorem t_szT {pg : Pg} (hp : pg.fn 27 = some c_laws_szInt64SS) (h45 : S_szI pg) : S_szT pg := by
  intro a l ⟨ha, hr⟩ h1 h2
  refine Call.intro hp rfl (by simp) ?_
  show wp _ _ c_laws_szInt64SS.body (post [.t 4] _ _ _) _
  by_cases hlt : l - ((lst a).length : Int) < 0
  · simp [c_laws_szInt64SS, hlt, szT]
    omega
  · simp [c_laws_szInt64SS, hlt, szT]
    refine ⟨by omega, ?_⟩
    refine wpLoop_count (fun k e => ∃ l' : Int, -1 ≤ l' ∧ l' ≤ 1048576 ∧ szL ((lst a).drop k) l' = szL (lst a) (l - ((lst a).length : Int)) ∧ e = fr [(0, some (.val (rawT a))), (1, some (.val (I l'))), (5, some (.val (I k)))]) (lst a).length ?_ ?_ 0 _ (by omega) ?_
    · rintro k e hk ⟨l', g1, g2, g3, rfl⟩
      simp [hk]
      have hd : (lst a).drop k = (lst a)[k] :: (lst a).drop (k + 1) := List.drop_eq_getElem_cons hk
      rw [hd] at g3
      simp only [szL] at g3
      have h3 := sz1_le (r := (lst a)[k]) g1
      refine callR (h45 _ _ (hr _ (List.getElem_mem hk)) g1 g2) rfl rfl (fun _ => rfl) ?_
      by_cases hn : sz1 (lst a)[k] l' < 0
      · simp [hn]
        rw [if_pos hn] at g3
        exact g3
      · simp [hn]
        rw [if_neg hn] at g3
        refine ⟨by omega, sz1 (lst a)[k] l', by omega, by omega, g3, ?_⟩
        simp
    · rintro e ⟨l', g1, g2, g3, rfl⟩
      simp
      rw [List.drop_length] at g3
      exact g3
    · exact ⟨_, by omega, by omega, rfl, by simp⟩

def S_szRack (pg : Pg) : Prop := ∀ (a : Rw (Rw Int)) (l : Int), small a → -1 ≤ l → l ≤ 1048576 → ∃ r, -1 ≤ r ∧ r ≤ 1048576 ∧ Call pg 4 [.agg [rawT a], I l] [.agg [rawT a], I l] (I r)
theorem t_szRack {pg : Pg} (hp : pg.fn 4 = some c_laws_szRack) (h27 : S_szT pg) : S_szRack pg := by
  intro a l ha h1 h2
  have h3 := szT_le (a := a) h1
  refine ⟨szT a l, by omega, by omega, Call.intro hp rfl (by simp) ?_⟩
  show wp _ _ c_laws_szRack.body (post [.t 4] _ _ _) _
  simp [c_laws_szRack]
  refine callR (h27 _ _ ha h1 h2) rfl rfl (fun _ => rfl) ?_
  by_cases hn : szT a l < 0
  · simp [hn]; omega
  · simp [hn]

def S_szSol (pg : Pg) : Prop := ∀ (a b : Rw (Rw Int)) (l : Int), small a → small b → -1 ≤ l → l ≤ 1048576 → ∃ r, -1 ≤ r ∧ r ≤ 1048576 ∧ Call pg 14 [.agg [rawT a, rawT b], I l] [.agg [rawT a, rawT b], I l] (I r)
theorem t_szSol {pg : Pg} (hp : pg.fn 14 = some c_laws_szSolution) (h27 : S_szT pg) : S_szSol pg := by
  intro a b l ha hb h1 h2
  have h3 := szT_le (a := a) h1
  have h4 := szT_le (a := b) h3.1
  by_cases hn : szT a l < 0
  · refine ⟨-1, by omega, by omega, Call.intro hp rfl (by simp) ?_⟩
    show wp _ _ c_laws_szSolution.body (post [.t 4] _ _ _) _
    simp [c_laws_szSolution]
    refine callR (h27 _ _ ha h1 h2) rfl rfl (fun _ => rfl) ?_
    simp [hn]
  · refine ⟨szT b (szT a l), by omega, by omega, Call.intro hp rfl (by simp) ?_⟩
    show wp _ _ c_laws_szSolution.body (post [.t 4] _ _ _) _
    simp [c_laws_szSolution]
    refine callR (h27 _ _ ha h1 h2) rfl rfl (fun _ => rfl) ?_
    simp [hn]
    refine callR (h27 _ _ hb (by omega) (by omega)) rfl rfl (fun _ => rfl) ?_
    by_cases hn2 : szT b (szT a l) < 0
    · simp [hn2]; omega
    · simp [hn2]

/-! ### Equality -/

def S_eqI (pg : Pg) : Prop := ∀ a b : Rw Int, (lst a).length ≤ 1048576 → Call pg 9 [rawI a, rawI b] [rawI a, rawI b] (B (decide (lst a = lst b)))
theorem t_eqI {pg : Pg} (hp : pg.fn 9 = some c_laws_eqInt64S) : S_eqI pg := by
  intro a b ha
  refine Call.intro hp rfl (by simp) ?_
  show wp _ _ c_laws_eqInt64S.body (post [.t 4] _ _ _) _
  by_cases hl : (lst a).length = (lst b).length
  · simp [c_laws_eqInt64S, hl]
    refine wpLoop_count (fun k e => (∀ i, i < k → (lst a)[i]? = (lst b)[i]?) ∧ e = fr [(0, some (.val (rawI a))), (1, some (.val (rawI b))), (5, some (.val (I k)))]) (lst a).length ?_ ?_ 0 _ (by omega) ?_
    · rintro k e hk ⟨h1, rfl⟩
      have hk2 : k < (lst b).length := by omega
      by_cases hne : (lst a)[k] = (lst b)[k]
      · simp [hk, hk2, hne]
        refine ⟨by omega, fun i hi => ?_⟩
        rcases Nat.lt_or_ge i k with h2 | h2
        · exact h1 i h2
        · have : i = k := by omega
          subst this
          rw [List.getElem?_eq_getElem hk, List.getElem?_eq_getElem hk2, hne]
      · simp [hk, hk2, hne]
        intro h2
        exact hne (by simp [h2])
    · rintro e ⟨h1, rfl⟩
      simp [hl]
      apply List.ext_getElem?
      intro i
      rcases Nat.lt_or_ge i (lst a).length with h2 | h2
      · exact h1 i h2
      · rw [List.getElem?_eq_none h2, List.getElem?_eq_none (by omega)]
    · exact ⟨fun i hi => by omega, by simp⟩
  · have : lst a ≠ lst b := fun h => hl (by rw [h])
    have h2 : ((lst a).length : Int) ≠ (lst b).length := by omega
    simp [c_laws_eqInt64S, h2, this]

def S_eqT (pg : Pg) : Prop := ∀ a b : Rw (Rw Int), small a → Call pg 21 [rawT a, rawT b] [rawT a, rawT b] (B (decide ((lst a).map lst = (lst b).map lst)))
theorem t_eqT {pg : Pg} (hp : pg.fn 21 = some c_laws_eqInt64SS) (h9 : S_eqI pg) : S_eqT pg := by
  intro a b ⟨ha, hr⟩
  refine Call.intro hp rfl (by simp) ?_
  show wp _ _ c_laws_eqInt64SS.body (post [.t 4] _ _ _) _
  by_cases hl : (lst a).length = (lst b).length
  · simp [c_laws_eqInt64SS, hl]
    refine wpLoop_count (fun k e => (∀ i, i < k → ((lst a).map lst)[i]? = ((lst b).map lst)[i]?) ∧ e = fr [(0, some (.val (rawT a))), (1, some (.val (rawT b))), (5, some (.val (I k)))]) (lst a).length ?_ ?_ 0 _ (by omega) ?_
    · rintro k e hk ⟨h1, rfl⟩
      have hk2 : k < (lst b).length := by omega
      simp [hk, hk2]
      refine callR (h9 _ _ (hr _ (List.getElem_mem hk))) rfl rfl (fun _ => rfl) ?_
      by_cases hne : lst (lst a)[k] = lst (lst b)[k]
      · simp [hne]
        refine ⟨by omega, fun i hi => ?_⟩
        rcases Nat.lt_or_ge i k with h2 | h2
        · have := h1 i h2
          simpa using this
        · have : i = k := by omega
          subst this
          simp [hk, hk2, hne]
      · simp [hne]
        intro h2
        have h3 := congrArg (fun l => l[k]?) h2
        simp [hk, hk2] at h3
        exact hne h3
    · rintro e ⟨h1, rfl⟩
      simp [hl]
      apply List.ext_getElem?
      intro i
      rcases Nat.lt_or_ge i (lst a).length with h2 | h2
      · exact h1 i h2
      · rw [List.getElem?_eq_none (by simpa using h2), List.getElem?_eq_none (by simp; omega)]
    · exact ⟨fun i hi => by omega, by simp⟩
  · have : (lst a).map lst ≠ (lst b).map lst := fun h => hl (by have := congrArg List.length h; simpa using this)
    have h2 : ((lst a).length : Int) ≠ (lst b).length := by omega
    simp [c_laws_eqInt64SS, h2, this]

def S_eqRack (pg : Pg) : Prop := ∀ a b : Rw (Rw Int), small a → Call pg 10 [.agg [rawT a], .agg [rawT b]] [.agg [rawT a], .agg [rawT b]] (B (decide ((lst a).map lst = (lst b).map lst)))
theorem t_eqRack {pg : Pg} (hp : pg.fn 10 = some c_laws_eqRack) (h21 : S_eqT pg) : S_eqRack pg := by
  intro a b ha
  refine Call.intro hp rfl (by simp) ?_
  show wp _ _ c_laws_eqRack.body (post [.t 4] _ _ _) _
  simp [c_laws_eqRack]
  refine callR (h21 _ _ ha) rfl rfl (fun _ => rfl) ?_
  by_cases h : (lst a).map lst = (lst b).map lst <;> simp [h]

def S_eqSol (pg : Pg) : Prop := ∀ a b c d : Rw (Rw Int), small a → small b → Call pg 18 [.agg [rawT a, rawT b], .agg [rawT c, rawT d]] [.agg [rawT a, rawT b], .agg [rawT c, rawT d]] (B (decide ((lst a).map lst = (lst c).map lst ∧ (lst b).map lst = (lst d).map lst)))
theorem t_eqSol {pg : Pg} (hp : pg.fn 18 = some c_laws_eqSolution) (h21 : S_eqT pg) : S_eqSol pg := by
  intro a b c d ha hb
  refine Call.intro hp rfl (by simp) ?_
  show wp _ _ c_laws_eqSolution.body (post [.t 4] _ _ _) _
  simp [c_laws_eqSolution]
  refine callR (h21 _ _ ha) rfl rfl (fun _ => rfl) ?_
  by_cases h : (lst a).map lst = (lst c).map lst
  · simp [h]
    refine callR (h21 _ _ hb) rfl rfl (fun _ => rfl) ?_
    by_cases h2 : (lst b).map lst = (lst d).map lst <;> simp [h2]
  · simp [h]

end Go.Mch
