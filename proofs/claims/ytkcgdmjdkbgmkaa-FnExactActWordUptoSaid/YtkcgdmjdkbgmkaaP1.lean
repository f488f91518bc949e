/- Our texts YfA YfC YfD YfE YfB YfF YfG YfI YfJ YfK YfM YfO YfP YfQ YfS YfT YhB YgA YfX YfV YfW YgF YgE YgG YgY YjC YjI YjJ YjK YjM YjO YjP YjQ YjD YjE YjU YjF YjG YkA YkB YkD YkE YpA YpB, end to end. -/
import Derived.Test.YtkcgdmjdkbgmkaaYeA
import Derived.Test.YtkcgdmjdkbgmkaaM1
import Derived.Test.YtkcgdmjdkbgmkaaM4
import Derived.ProofKit
import Derived.OpenShut
import Derived.JoinedCond
import Derived.WideKeyArgs
namespace Go.Mch

abbrev nil : T := .sc (.slice none 0 0)

inductive Rw (α : Type) where
 | no
 | odd (a : Addr)
 | of (l : List α)

def lst {α : Type} : Rw α → List α
 | .of l => l
 | _ => []
def lso {α : Type} (o : Option (List α)) : List α := o.getD []
def Rw.ofO {α : Type} : Option (List α) → Rw α
 | none => .no
 | some l => .of l

def rawI : Rw Int → T
 | .no => nil
 | .odd a => .sc (.slice (some a) 0 0)
 | .of xs => .mem .old (some 1) (xs.map I)

@[simp] theorem lst_of {α : Type} (l : List α) : lst (.of l) = l := rfl
@[simp] theorem lst_no {α : Type} : lst (.no : Rw α) = [] := rfl
@[simp] theorem lst_odd {α : Type} (a : Addr) : lst (.odd a : Rw α) = [] := rfl
@[simp] theorem lso_some {α : Type} (l : List α) : lso (some l) = l := rfl
@[simp] theorem lso_none {α : Type} : lso (none : Option (List α)) = [] := rfl
@[simp] theorem lst_ofO {α : Type} (o : Option (List α)) : lst (Rw.ofO o) = lso o := by cases o <;> rfl

@[simp] theorem noOwnL_mapI (xs : List Int) : T.noOwnL (xs.map I) = true := by
 induction xs with
 | nil => rfl
 | cons x xs ih => simp [ih]
@[simp] theorem eryL_mapI (k : K) (xs : List Int) : T.eryL k (xs.map I) = xs.map I := by
 induction xs with
 | nil => rfl
 | cons x xs ih => simp [ih]
@[simp] theorem noOldL_mapI (xs : List Int) : T.noOldL (xs.map I) = true := by
 induction xs with
 | nil => rfl
 | cons x xs ih => simp [ih]
@[simp] theorem rawI_noOwn (a : Rw Int) : (rawI a).noOwn = true := by cases a <;> simp [rawI]
@[simp] theorem rawI_peek (a : Rw Int) (n : Nat) (p : List Nat) : (rawI a).peek n p = .val (rawI a) := by cases a <;> rfl
@[simp] theorem rawI_ery (a : Rw Int) : (rawI a).ery .old = rawI a := by cases a <;> simp [rawI]
@[simp] theorem rawI_len (a : Rw Int) : lenV (.val (rawI a)) = some (lst a).length := by cases a <;> simp [rawI]
@[simp] theorem rawI_idx (a : Rw Int) (i : Int) : idxV 1 (.val (rawI a)) i = if 0 ≤ i ∧ i < ((lst a).length : Int) then some (.val (.mem .old none (win ((lst a).map I) (i.toNat * 1) 1))) else none := by
 cases a with
 | no =>
  simp only [rawI, idxV, lst_no, List.length_nil, List.map_nil]
  rw [if_neg]
  omega
 | odd ad =>
  simp only [rawI, idxV, lst_odd, List.length_nil, List.map_nil]
  rw [if_neg]
  omega
 | of xs => simp [rawI]
def rawT : Rw (Rw Int) → T
 | .no => nil
 | .odd a => .sc (.slice (some a) 0 0)
 | .of rs => .mem .old (some 1) (rs.map rawI)
@[simp] theorem noOwnL_mapR (rs : List (Rw Int)) : T.noOwnL (rs.map rawI) = true := by
 induction rs with
 | nil => rfl
 | cons x xs ih => simp [ih]
@[simp] theorem eryL_mapR (rs : List (Rw Int)) : T.eryL .old (rs.map rawI) = rs.map rawI := by
 induction rs with
 | nil => rfl
 | cons x xs ih => simp [ih]
@[simp] theorem rawT_noOwn (a : Rw (Rw Int)) : (rawT a).noOwn = true := by cases a <;> simp [rawT]
@[simp] theorem rawT_peek (a : Rw (Rw Int)) (n : Nat) (p : List Nat) : (rawT a).peek n p = .val (rawT a) := by cases a <;> rfl
@[simp] theorem rawT_ery (a : Rw (Rw Int)) : (rawT a).ery .old = rawT a := by cases a <;> simp [rawT]
@[simp] theorem rawT_len (a : Rw (Rw Int)) : lenV (.val (rawT a)) = some (lst a).length := by cases a <;> simp [rawT]
@[simp] theorem rawT_idx (a : Rw (Rw Int)) (i : Int) : idxV 1 (.val (rawT a)) i = if 0 ≤ i ∧ i < ((lst a).length : Int) then some (.val (.mem .old none (win ((lst a).map rawI) (i.toNat * 1) 1))) else none := by
 cases a with
 | no =>
  simp only [rawT, idxV, lst_no, List.length_nil, List.map_nil]
  rw [if_neg]
  omega
 | odd ad =>
  simp only [rawT, idxV, lst_odd, List.length_nil, List.map_nil]
  rw [if_neg]
  omega
 | of xs => simp [rawT]
@[simp] theorem rawT_isCell (a : Rw (Rw Int)) : (rawT a).isCell = true := by cases a <;> rfl
theorem callR {G : Rl} {d : Option Nat} {k : Env → Prop} {e : Env} {args : List (Opd × Mode)} {id : Nat} {caps ts : List T} {r : T} (hc : G id (ts ++ T.eryL .old caps) (ts ++ T.eryL .old caps) r) (hall : args.all (fun x => x.2 == .r) = true) (hlen : args.length = ts.length)
 (hold : e.lends args = true → r.noOld = true) (hk : k (e.setD d (.val r))) : callP G d k e args id caps ts := by
 refine ⟨ts, r, hc, rfl, fun h => ⟨hold h, hall⟩, ?_⟩
 have : ∀ (xs : List (Opd × Mode)) (us : List T), xs.all (fun x => x.2 == .r) = true → xs.length = us.length → e.back xs us = some e := by
  intro xs
  induction xs with
  | nil => intro us _ h; cases us with | nil => rfl | cons => simp at h
  | cons x xs ih =>
   intro us h h2
   obtain ⟨x, md⟩ := x
   simp only [List.all_cons, Bool.and_eq_true, beq_iff_eq] at h
   obtain ⟨rfl, h⟩ := h
   cases us with
   | nil => simp at h2
   | cons u us => simp only [Env.back]; exact ih us (by simpa using h) (by simpa using h2)
 rw [this args ts hall hlen]
 exact ⟨e, rfl, hk⟩

theorem set_fill {α : Type} {xs : List α} {z : α} {k : Nat} (hk : k < xs.length) :
 (List.take k xs ++ List.replicate (xs.length - k) z).set k xs[k] = List.take (k + 1) xs ++ List.replicate (xs.length - (k + 1)) z := by
 rw [List.set_append_right _ _ (by simp; omega)]
 have h1 : (List.take k xs).length = k := by simp; omega
 rw [h1, Nat.sub_self, show xs.length - k = (xs.length - (k + 1)) + 1 from by omega, List.replicate_succ, List.set_cons_zero]
 rw [List.take_succ_eq_append_getElem hk, List.append_assoc]
 rfl

theorem take_len {α : Type} (l : List α) {n : Nat} (h : l.length ≤ n) : l.take n = l := List.take_of_length_le h

def S_toI (pg : Pg) : Prop := ∀ a : Rw Int, (lst a).length ≤ 1048576 → Call pg 7 [rawI a] [rawI a] (ints .own (lst a))
theorem t_toI {pg : Pg} (hp : pg.fn 7 = some c_laws_toInt64S) : S_toI pg := by
 intro a hl
 refine Call.intro hp rfl (by simp) ?_
 show wp _ _ c_laws_toInt64S.body (post [.t 2] _ _ _) _
 simp [c_laws_toInt64S, ints]
 refine ⟨by unfold roomy; omega, ?_⟩
 refine wpLoop_count (fun k e => e = fr [(0, some (.val (rawI a))), (3, some (.val (.mem .own (some 1) ((lst a).map I |>.take k |>.append (List.replicate ((lst a).length - k) (I 0)))))), (4, some (.val (I k)))]) (lst a).length ?_ ?_ 0 _ (by omega) ?_
 · rintro k e hk rfl
   simp [hk]
   refine ⟨by omega, by omega, by omega, ?_⟩
   have := set_fill (xs := (lst a).map I) (z := I 0) (k := k) (by simpa using hk)
   simp at this
   rw [this]
 · rintro e rfl
   simp [take_len]
 · simp

theorem S_toI.at {pg : Pg} (h : S_toI pg) (a : Rw Int) (hl : (lst a).length ≤ 1048576) : Call pg 7 [rawI a] [rawI a] (.mem .own (some 1) ((lst a).map I)) := h a hl

def rows (xss : List (List Int)) : List T := xss.map fun xs => .mem .own (some 1) (xs.map I)
@[simp] theorem rows_length (xss : List (List Int)) : (rows xss).length = xss.length := by simp [rows]

@[simp] theorem noOldL_rows (xss : List (List Int)) : T.noOldL (rows xss) = true := by
 induction xss with
 | nil => rfl
 | cons x xs ih => simp only [rows, List.map_cons] at ih ⊢; simp [ih]
abbrev ix (xs : List Int) : T := .mem .old (some 1) (xs.map I)
def tbL (xss : List (List Int)) : List T := xss.map fun xs => ix xs
abbrev tb (xss : List (List Int)) : T := .mem .old (some 1) (tbL xss)
@[simp] theorem tbL_length (xss : List (List Int)) : (tbL xss).length = xss.length := by simp [tbL]
@[simp] theorem noOwnL_tbL (xss : List (List Int)) : T.noOwnL (tbL xss) = true := by
 induction xss with
 | nil => rfl
 | cons x xs ih => simp only [tbL, List.map_cons] at ih ⊢; simp [ih]
@[simp] theorem eryL_tbL (xss : List (List Int)) : T.eryL .old (tbL xss) = tbL xss := by
 induction xss with
 | nil => rfl
 | cons x xs ih => simp only [tbL, List.map_cons] at ih ⊢; simp [ih]
@[simp] theorem eryL_rows (xss : List (List Int)) : T.eryL .old (rows xss) = tbL xss := by
 induction xss with
 | nil => rfl
 | cons x xs ih => simp only [rows, tbL, List.map_cons] at ih ⊢; simp [ih]
theorem rawT_tb (xss : List (List Int)) : rawT (.of (xss.map .of)) = tb xss := by simp [rawT, tbL, rawI]
def small (a : Rw (Rw Int)) : Prop := (lst a).length ≤ 1048576 ∧ ∀ r ∈ lst a, (lst r).length ≤ 1048576

def S_toT (pg : Pg) : Prop := ∀ a, small a → Call pg 32 [rawT a] [rawT a] (.mem .own (some 1) (rows ((lst a).map lst)))
theorem t_toT {pg : Pg} (hp : pg.fn 32 = some c_laws_toInt64SS) (h7 : S_toI pg) : S_toT pg := by
 intro a ⟨hl, hr⟩
 refine Call.intro hp rfl (by simp) ?_
 show wp _ _ c_laws_toInt64SS.body (post [.t 2] _ _ _) _
 simp [c_laws_toInt64SS]
 refine ⟨by unfold roomy; omega, ?_⟩
 refine wpLoop_count (fun k e => e = fr [(0, some (.val (rawT a))), (3, some (.val (.mem .own (some 1) ((rows ((lst a).map lst)).take k ++ List.replicate ((lst a).length - k) nil)))), (4, some (.val (I k)))]) (lst a).length ?_ ?_ 0 _ (by omega) ?_
 · rintro k e hk rfl
   simp [hk]
   refine callR (h7.at _ (hr _ (List.getElem_mem hk))) rfl rfl (fun _ => by simp) ?_
   simp
   refine ⟨by omega, by omega, by omega, ?_⟩
   have := set_fill (xs := rows ((lst a).map lst)) (z := nil) (k := k) (by simpa using hk)
   simp [rows] at this
   simp [rows, this]
 · rintro e rfl
   simp [take_len]
 · simp


def S_toSol (pg : Pg) : Prop := ∀ a b, small a → small b → Call pg 16 [.agg [rawT a, rawT b]] [.agg [rawT a, rawT b]] (.agg [.mem .own (some 1) (rows ((lst a).map lst)), .mem .own (some 1) (rows ((lst b).map lst))])
theorem t_toSol {pg : Pg} (hp : pg.fn 16 = some c_laws_toSolution) (h32 : S_toT pg) : S_toSol pg := by
 intro a b ha hb
 refine Call.intro hp rfl (by simp) ?_
 show wp _ _ c_laws_toSolution.body (post [.cell 2 (some 2)] _ _ _) _
 simp [c_laws_toSolution]
 refine callR (h32 _ ha) rfl rfl (fun _ => by simp) ?_
 simp
 refine callR (h32 _ hb) rfl rfl (fun _ => by simp) ?_
 simp


def sz1 (r : Rw Int) (l : Int) : Int := if l - ((lst r).length : Int) < 0 then -1 else l - ((lst r).length : Int)
def szL : List (Rw Int) → Int → Int
 | [], l => l
 | r :: rs, l => if sz1 r l < 0 then -1 else szL rs (sz1 r l)
def szT (a : Rw (Rw Int)) (l : Int) : Int := if l - ((lst a).length : Int) < 0 then -1 else szL (lst a) (l - ((lst a).length : Int))
theorem sz1_le {r : Rw Int} {l : Int} (h : -1 ≤ l) : -1 ≤ sz1 r l ∧ sz1 r l ≤ max l 0 := by
 unfold sz1; split <;> omega
theorem szL_le : ∀ (rs : List (Rw Int)) {l : Int}, -1 ≤ l → -1 ≤ szL rs l ∧ szL rs l ≤ max l 0
 | [], l, h => by unfold szL; omega
 | r :: rs, l, h => by
  have h1 := sz1_le (r := r) h
  unfold szL
  split
  · omega
  · have := szL_le rs (l := sz1 r l) h1.1
    omega
theorem szT_le {a : Rw (Rw Int)} {l : Int} (h : -1 ≤ l) : -1 ≤ szT a l ∧ szT a l ≤ max l 0 := by
 unfold szT
 split
 · omega
 · have := szL_le (lst a) (l := l - ((lst a).length : Int)) (by omega)
   omega

def S_szI (pg : Pg) : Prop := ∀ (a : Rw Int) (l : Int), (lst a).length ≤ 1048576 → -1 ≤ l → l ≤ 1048576 → Call pg 45 [rawI a, I l] [rawI a, I l] (I (sz1 a l))
theorem t_szI {pg : Pg} (hp : pg.fn 45 = some c_laws_szInt64S) : S_szI pg := by
 intro a l ha h1 h2
 refine Call.intro hp rfl (by simp) ?_
 show wp _ _ c_laws_szInt64S.body (post [.t 4] _ _ _) _
 by_cases hlt : l - ((lst a).length : Int) < 0
 · simp [c_laws_szInt64S, hlt, sz1]
   omega
 · simp [c_laws_szInt64S, hlt, sz1]
   omega

def S_szT (pg : Pg) : Prop := ∀ (a : Rw (Rw Int)) (l : Int), small a → -1 ≤ l → l ≤ 1048576 → Call pg 27 [rawT a, I l] [rawT a, I l] (I (szT a l))
theorem t_szT {pg : Pg} (hp : pg.fn 27 = some c_laws_szInt64SS) (h45 : S_szI pg) : S_szT pg := by
 intro a l ⟨ha, hr⟩ h1 h2
 refine Call.intro hp rfl (by simp) ?_
 show wp _ _ c_laws_szInt64SS.body (post [.t 4] _ _ _) _
 by_cases hlt : l - ((lst a).length : Int) < 0
 · simp [c_laws_szInt64SS, hlt, szT]
   omega
 · simp [c_laws_szInt64SS, hlt, szT]
   refine ⟨by omega, ?_⟩
   refine wpLoop_count (fun k e => ∃ l' : Int, -1 ≤ l' ∧ l' ≤ 1048576 ∧ szL ((lst a).drop k) l' = szL (lst a) (l - ((lst a).length : Int)) ∧ e = fr [(0, some (.val (rawT a))), (1, some (.val (I l'))), (5, some (.val (I k)))]) (lst a).length ?_ ?_ 0 _ (by omega) ?_
   · rintro k e hk ⟨l', g1, g2, g3, rfl⟩
     simp [hk]
     have hd : (lst a).drop k = (lst a)[k] :: (lst a).drop (k + 1) := List.drop_eq_getElem_cons hk
     rw [hd] at g3
     simp only [szL] at g3
     have h3 := sz1_le (r := (lst a)[k]) g1
     refine callR (h45 _ _ (hr _ (List.getElem_mem hk)) g1 g2) rfl rfl (fun _ => rfl) ?_
     by_cases hn : sz1 (lst a)[k] l' < 0
     · simp [hn]
       rw [if_pos hn] at g3
       exact g3
     · simp [hn]
       rw [if_neg hn] at g3
       refine ⟨by omega, sz1 (lst a)[k] l', by omega, by omega, g3, ?_⟩
       simp
   · rintro e ⟨l', g1, g2, g3, rfl⟩
     simp
     rw [List.drop_length] at g3
     exact g3
   · exact ⟨_, by omega, by omega, rfl, by simp⟩

def S_szSol (pg : Pg) : Prop := ∀ (a b : Rw (Rw Int)) (l : Int), small a → small b → -1 ≤ l → l ≤ 1048576 → ∃ r, -1 ≤ r ∧ r ≤ 1048576 ∧ Call pg 14 [.agg [rawT a, rawT b], I l] [.agg [rawT a, rawT b], I l] (I r)
theorem t_szSol {pg : Pg} (hp : pg.fn 14 = some c_laws_szSolution) (h27 : S_szT pg) : S_szSol pg := by
 intro a b l ha hb h1 h2
 have h3 := szT_le (a := a) h1
 have h4 := szT_le (a := b) h3.1
 by_cases hn : szT a l < 0
 · refine ⟨-1, by omega, by omega, Call.intro hp rfl (by simp) ?_⟩
   show wp _ _ c_laws_szSolution.body (post [.t 4] _ _ _) _
   simp [c_laws_szSolution]
   refine callR (h27 _ _ ha h1 h2) rfl rfl (fun _ => rfl) ?_
   simp [hn]
 · refine ⟨szT b (szT a l), by omega, by omega, Call.intro hp rfl (by simp) ?_⟩
   show wp _ _ c_laws_szSolution.body (post [.t 4] _ _ _) _
   simp [c_laws_szSolution]
   refine callR (h27 _ _ ha h1 h2) rfl rfl (fun _ => rfl) ?_
   simp [hn]
   refine callR (h27 _ _ hb (by omega) (by omega)) rfl rfl (fun _ => rfl) ?_
   by_cases hn2 : szT b (szT a l) < 0
   · simp [hn2]; omega
   · simp [hn2]


def S_eqI (pg : Pg) : Prop := ∀ a b : Rw Int, (lst a).length ≤ 1048576 → Call pg 9 [rawI a, rawI b] [rawI a, rawI b] (B (decide (lst a = lst b)))
theorem t_eqI {pg : Pg} (hp : pg.fn 9 = some c_laws_eqInt64S) : S_eqI pg := by
 intro a b ha
 refine Call.intro hp rfl (by simp) ?_
 show wp _ _ c_laws_eqInt64S.body (post [.t 4] _ _ _) _
 by_cases hl : (lst a).length = (lst b).length
 · simp [c_laws_eqInt64S, hl]
   refine wpLoop_count (fun k e => (∀ i, i < k → (lst a)[i]? = (lst b)[i]?) ∧ e = fr [(0, some (.val (rawI a))), (1, some (.val (rawI b))), (5, some (.val (I k)))]) (lst a).length ?_ ?_ 0 _ (by omega) ?_
   · rintro k e hk ⟨h1, rfl⟩
     have hk2 : k < (lst b).length := by omega
     by_cases hne : (lst a)[k] = (lst b)[k]
     · simp [hk, hk2, hne]
       refine ⟨by omega, fun i hi => ?_⟩
       rcases Nat.lt_or_ge i k with h2 | h2
       · exact h1 i h2
       · have : i = k := by omega
         subst this
         rw [List.getElem?_eq_getElem hk, List.getElem?_eq_getElem hk2, hne]
     · simp [hk, hk2, hne]
       intro h2
       exact hne (by simp [h2])
   · rintro e ⟨h1, rfl⟩
     simp [hl]
     apply List.ext_getElem?
     intro i
     rcases Nat.lt_or_ge i (lst a).length with h2 | h2
     · exact h1 i h2
     · rw [List.getElem?_eq_none h2, List.getElem?_eq_none (by omega)]
   · exact ⟨fun i hi => by omega, by simp⟩
 · have : lst a ≠ lst b := fun h => hl (by rw [h])
   have h2 : ((lst a).length : Int) ≠ (lst b).length := by omega
   simp [c_laws_eqInt64S, h2, this]

def S_eqT (pg : Pg) : Prop := ∀ a b : Rw (Rw Int), small a → Call pg 21 [rawT a, rawT b] [rawT a, rawT b] (B (decide ((lst a).map lst = (lst b).map lst)))
theorem t_eqT {pg : Pg} (hp : pg.fn 21 = some c_laws_eqInt64SS) (h9 : S_eqI pg) : S_eqT pg := by
 intro a b ⟨ha, hr⟩
 refine Call.intro hp rfl (by simp) ?_
 show wp _ _ c_laws_eqInt64SS.body (post [.t 4] _ _ _) _
 by_cases hl : (lst a).length = (lst b).length
 · simp [c_laws_eqInt64SS, hl]
   refine wpLoop_count (fun k e => (∀ i, i < k → ((lst a).map lst)[i]? = ((lst b).map lst)[i]?) ∧ e = fr [(0, some (.val (rawT a))), (1, some (.val (rawT b))), (5, some (.val (I k)))]) (lst a).length ?_ ?_ 0 _ (by omega) ?_
   · rintro k e hk ⟨h1, rfl⟩
     have hk2 : k < (lst b).length := by omega
     simp [hk, hk2]
     refine callR (h9 _ _ (hr _ (List.getElem_mem hk))) rfl rfl (fun _ => rfl) ?_
     by_cases hne : lst (lst a)[k] = lst (lst b)[k]
     · simp [hne]
       refine ⟨by omega, fun i hi => ?_⟩
       rcases Nat.lt_or_ge i k with h2 | h2
       · have := h1 i h2
         simpa using this
       · have : i = k := by omega
         subst this
         simp [hk, hk2, hne]
     · simp [hne]
       intro h2
       have h3 := congrArg (fun l => l[k]?) h2
       simp [hk, hk2] at h3
       exact hne h3
   · rintro e ⟨h1, rfl⟩
     simp [hl]
     apply List.ext_getElem?
     intro i
     rcases Nat.lt_or_ge i (lst a).length with h2 | h2
     · exact h1 i h2
     · rw [List.getElem?_eq_none (by simpa using h2), List.getElem?_eq_none (by simp; omega)]
   · exact ⟨fun i hi => by omega, by simp⟩
 · have : (lst a).map lst ≠ (lst b).map lst := fun h => hl (by have := congrArg List.length h; simpa using this)
   have h2 : ((lst a).length : Int) ≠ (lst b).length := by omega
   simp [c_laws_eqInt64SS, h2, this]

def S_eqRack (pg : Pg) : Prop := ∀ a b : Rw (Rw Int), small a → Call pg 10 [.agg [rawT a], .agg [rawT b]] [.agg [rawT a], .agg [rawT b]] (B (decide ((lst a).map lst = (lst b).map lst)))
def S_eqSol (pg : Pg) : Prop := ∀ a b c d : Rw (Rw Int), small a → small b → Call pg 18 [.agg [rawT a, rawT b], .agg [rawT c, rawT d]] [.agg [rawT a, rawT b], .agg [rawT c, rawT d]] (B (decide ((lst a).map lst = (lst c).map lst ∧ (lst b).map lst = (lst d).map lst)))
theorem t_eqSol {pg : Pg} (hp : pg.fn 18 = some c_laws_eqSolution) (h21 : S_eqT pg) : S_eqSol pg := by
 intro a b c d ha hb
 refine Call.intro hp rfl (by simp) ?_
 show wp _ _ c_laws_eqSolution.body (post [.t 4] _ _ _) _
 simp [c_laws_eqSolution]
 refine callR (h21 _ _ ha) rfl rfl (fun _ => rfl) ?_
 by_cases h : (lst a).map lst = (lst c).map lst
 · simp [h]
   refine callR (h21 _ _ hb) rfl rfl (fun _ => rfl) ?_
   by_cases h2 : (lst b).map lst = (lst d).map lst <;> simp [h2]
 · simp [h]

end Go.Mch
namespace Go.Mch

def S_in (pg : Pg) (f : Nat) : Prop := ∀ n lo hi : Int, Call pg f [I n, I lo, I hi] [I n, I lo, I hi] (B (decide (lo ≤ n ∧ n ≤ hi)))
theorem t_l01In {pg : Pg} (hp : pg.fn 30 = some c_spec_l01In) : S_in pg 30 := by
 intro n lo hi
 refine Call.intro hp rfl (by simp) ?_
 show wp _ _ c_spec_l01In.body (post [.t 6] _ _ _) _
 by_cases h1 : lo ≤ n
 · by_cases h2 : n ≤ hi <;> simp [c_spec_l01In, h1, h2]
 · simp [c_spec_l01In, h1, undefV]
theorem t_within {pg : Pg} (hp : pg.fn 35 = some c_impl_within) : S_in pg 35 := by
 intro n lo hi
 refine Call.intro hp rfl (by simp) ?_
 show wp _ _ c_impl_within.body (post [.t 6] _ _ _) _
 by_cases h1 : lo ≤ n
 · by_cases h2 : n ≤ hi <;> simp [c_impl_within, h1, h2]
 · simp [c_impl_within, h1, undefV]

def S_own (pg : Pg) : Prop := ∀ xs : List Int, xs.length ≤ 1048576 → Call pg 31 [ix xs] [ix xs] (.mem .own (some 1) (xs.map I))
theorem t_own {pg : Pg} (hp : pg.fn 31 = some c_spec_l01Own) : S_own pg := by
 intro xs hl
 refine Call.intro hp rfl (by simp) ?_
 show wp _ _ c_spec_l01Own.body (post [.t 2] _ _ _) _
 simp [c_spec_l01Own, roomy]
 omega

def ixOf : List Int → Int → Int
 | [], _ => -1
 | x :: xs, n => if x = n then 0 else if ixOf xs n < 0 then -1 else ixOf xs n + 1

def Tab (t : List (List Int)) : Prop := ∀ r ∈ t, r.length = t.length ∧ ∀ v ∈ r, 0 ≤ v ∧ v < t.length

def isTable (t : List (List Int)) : Prop := 1 ≤ t.length ∧ t.length ≤ 12 ∧ Tab t

instance (t : List (List Int)) : Decidable (Tab t) := by unfold Tab; infer_instance
instance (t : List (List Int)) : Decidable (isTable t) := by unfold isTable; infer_instance

def S_table (pg : Pg) (f : Nat) : Prop := ∀ t : List (List Int), t.length ≤ 1048576 → (∀ r ∈ t, r.length ≤ 1048576) → Call pg f [tb t] [tb t] (B (decide (isTable t)))

@[simp] theorem tbL_getElem {t : List (List Int)} {k : Nat} (h : k < (tbL t).length) : (tbL t)[k] = ix (t[k]'(by simpa using h)) := by simp [tbL]

theorem t_l01Table {pg : Pg} (hp : pg.fn 46 = some c_spec_l01Table) (h30 : S_in pg 30) : S_table pg 46 := by
 intro t hl hr
 refine Call.intro hp rfl (by simp) ?_
 show wp _ _ c_spec_l01Table.body (post [.t 2] _ _ _) _
 simp [c_spec_l01Table]
 refine callR (h30 _ 1 12) rfl rfl (fun _ => rfl) ?_
 by_cases hn : 1 ≤ t.length ∧ t.length ≤ 12
 · have hn' : (1 : Int) ≤ t.length ∧ (t.length : Int) ≤ 12 := by omega
   simp [hn']
   refine wpLoop_count (fun k e => (∀ i (h : i < t.length), i < k → t[i].length = t.length ∧ ∀ v ∈ t[i], 0 ≤ v ∧ v < t.length) ∧ e = fr [(0, some (.val (tb t))), (3, some (.val (I t.length))), (4, some (.val (I k)))]) t.length ?_ ?_ 0 _ (by omega) ?_
   · rintro k e hk ⟨h1, rfl⟩
     by_cases hlen : t[k].length = t.length
     · simp [hk, hlen]
       refine wpLoop_count (fun j e => (∀ i (h : i < t[k].length), i < j → 0 ≤ t[k][i] ∧ t[k][i] < t.length) ∧ e = fr [(0, some (.val (tb t))), (3, some (.val (I t.length))), (4, some (.val (I k))), (5, some (.val (I j)))]) t.length ?_ ?_ 0 _ (by omega) ?_
       · rintro j e hj ⟨h2, rfl⟩
         have hj2 : j < t[k].length := by omega
         simp [hk, hj, hj2]
         refine ⟨by omega, ?_⟩
         refine callR (h30 _ 0 _) rfl rfl (fun _ => rfl) ?_
         by_cases hv : 0 ≤ t[k][j] ∧ t[k][j] ≤ (t.length : Int) - 1
         · simp [hv]
           refine ⟨by omega, fun i hi hij => ?_⟩
           rcases Nat.lt_or_ge i j with h3 | h3
           · exact h2 i hi h3
           · have : i = j := by omega
             subst this; omega
         · have hvd : ¬ isTable t := fun ht => hv (by
            have := (ht.2.2 t[k] (List.getElem_mem hk)).2 t[k][j] (List.getElem_mem hj2)
            omega)
           simp [hv, hvd]
       · rintro e ⟨h2, rfl⟩
         simp
         refine ⟨by omega, fun i hi hik => ?_⟩
         rcases Nat.lt_or_ge i k with h3 | h3
         · exact h1 i hi h3
         · have : i = k := by omega
           subst this
           refine ⟨hlen, fun v hv => ?_⟩
           obtain ⟨j, hj, rfl⟩ := List.getElem_of_mem hv
           exact h2 j hj (by omega)
       · simp
     · have hvd : ¬ isTable t := fun ht => hlen (ht.2.2 t[k] (List.getElem_mem hk)).1
       have hne : ((t[k].length : Nat) : Int) ≠ t.length := by omega
       simp [hk, hne, hvd]
   · rintro e ⟨h1, rfl⟩
     have : isTable t := ⟨hn.1, hn.2, fun r hr => by
      obtain ⟨i, hi, rfl⟩ := List.getElem_of_mem hr
      exact h1 i hi hi⟩
     simp [this]
   · simp
 · have hvd : ¬ isTable t := fun ht => hn ⟨ht.1, ht.2.1⟩
   have hn' : ¬ ((1 : Int) ≤ t.length ∧ (t.length : Int) ≤ 12) := by omega
   simp [hn', hvd]

end Go.Mch
namespace Go.Mch

def isPerm (p : List Int) : Prop := 1 ≤ p.length ∧ p.length ≤ 12 ∧ ∀ x : Nat, x < p.length → (x : Int) ∈ p
instance (p : List Int) : Decidable (isPerm p) := by unfold isPerm; infer_instance

def inR (lo hi : Int) (xs : List Int) : Prop := ∀ x ∈ xs, lo ≤ x ∧ x ≤ hi
instance (lo hi : Int) (xs : List Int) : Decidable (inR lo hi xs) := by unfold inR; infer_instance

def S_allWithin (pg : Pg) : Prop := ∀ (xs : List Int) (lo hi : Int), xs.length ≤ 1048576 → Call pg 54 [ix xs, I lo, I hi] [ix xs, I lo, I hi] (B (decide (inR lo hi xs)))
theorem t_allWithin {pg : Pg} (hp : pg.fn 54 = some c_impl_allWithin) (h35 : S_in pg 35) : S_allWithin pg := by
 intro xs lo hi hl
 refine Call.intro hp rfl (by simp) ?_
 show wp _ _ c_impl_allWithin.body (post [.t 6] _ _ _) _
 simp [c_impl_allWithin]
 refine wpLoop_count (fun k e => (∀ i (h : i < xs.length), i < k → lo ≤ xs[i] ∧ xs[i] ≤ hi) ∧ e = fr [(1, some (.val (I lo))), (2, some (.val (I hi))), (9, some (.val (ix xs))), (10, some (.val (I xs.length))), (11, some (.val (I k)))]) xs.length ?_ ?_ 0 _ (by omega) ?_
 · rintro k e hk ⟨h1, rfl⟩
   simp [hk]
   refine callR (h35 _ _ _) rfl rfl (fun _ => rfl) ?_
   by_cases hm : lo ≤ xs[k] ∧ xs[k] ≤ hi
   · simp [hm]
     refine ⟨by omega, fun i hi hik => ?_⟩
     rcases Nat.lt_or_ge i k with h2 | h2
     · exact h1 i hi h2
     · have : i = k := by omega
       subst this; exact hm
   · have hvd : ¬ inR lo hi xs := fun h => hm (h _ (List.getElem_mem hk))
     simp [hm, hvd]
 · rintro e ⟨h1, rfl⟩
   have : inR lo hi xs := fun x hx => by
    obtain ⟨i, hi, rfl⟩ := List.getElem_of_mem hx
    exact h1 i hi hi
   simp [this]
 · simp

def S_areElements (pg : Pg) : Prop := ∀ (n : Int) (xs : List Int), xs.length ≤ 1048576 → 0 ≤ n → n ≤ 1048576 → Call pg 39 [I n, ix xs] [I n, ix xs] (B (decide (inR 0 (n - 1) xs)))
theorem t_areElements {pg : Pg} (hp : pg.fn 39 = some c_impl_areElements) (h54 : S_allWithin pg) : S_areElements pg := by
 intro n xs hl h1 h2
 refine Call.intro hp rfl (by simp) ?_
 show wp _ _ c_impl_areElements.body (post [.t 4] _ _ _) _
 simp [c_impl_areElements]
 refine ⟨by omega, ?_⟩
 refine callR (h54 _ _ _ hl) rfl rfl (fun _ => rfl) ?_
 simp

def isPermuted (p : List Int) : Prop := (∀ x ∈ p, 0 ≤ x ∧ x < p.length) ∧ p.Nodup
instance (p : List Int) : Decidable (isPermuted p) := by unfold isPermuted; infer_instance


def S_indexFunc (pg : Pg) : Prop := ∀ (t : List (List Int)) (P : List Int → Bool) (f : Nat) (caps : List T), t.length ≤ 1048576 → T.eryL .old caps = caps → T.noOwnL caps = true → (∀ r ∈ t, Call pg f (ix r :: caps) (ix r :: caps) (B (P r))) →
 ∃ r : Int, (0 ≤ r ↔ t.any P = true) ∧ Call pg 70 [tb t, .fn f caps] [tb t, .fn f caps] (I r)
theorem t_indexFunc {pg : Pg} (hp : pg.fn 70 = some c_slices_IndexFunc_____int64___int64_) : S_indexFunc pg := by
 intro t P f caps hl hc hno hf
 by_cases hex : ∃ (k : Nat) (hk : k < t.length), (∀ i (h : i < k), P t[i] = false) ∧ P t[k] = true
 · obtain ⟨m, hm, hm1, hm2⟩ := hex
   refine ⟨m, ⟨fun _ => List.any_eq_true.2 ⟨_, List.getElem_mem hm, hm2⟩, fun _ => by omega⟩, Call.intro hp rfl (by simp [hno]) ?_⟩
   show wp _ _ c_slices_IndexFunc_____int64___int64_.body (post [.t 4] _ _ _) _
   simp [c_slices_IndexFunc_____int64___int64_]
   refine wpLoop_count (fun k e => k ≤ m ∧ e = fr [(0, some (.val (tb t))), (1, some (.val (.fn f caps))), (7, some (.val (I t.length))), (8, some (.val (I k)))]) t.length ?_ ?_ 0 _ (by omega) ?_
   · rintro k e hk ⟨h1, rfl⟩
     simp [hk]
     refine callR (by simpa [hc] using hf t[k] (List.getElem_mem hk)) rfl rfl (fun _ => rfl) ?_
     rcases Nat.lt_or_ge k m with h2 | h2
     · simp [hm1 k h2]
       omega
     · have : k = m := by omega
       subst this
       simp [hm2, hno]
   · rintro e ⟨h1, rfl⟩
     omega
   · simp
 · have hall : ∀ i (h : i < t.length), P t[i] = false := by
    intro i
    induction i using Nat.strongRecOn with
    | _ i ih =>
     intro hi
     cases hv : P t[i] with
     | false => rfl
     | true => exact (hex ⟨i, hi, fun j hj => ih j hj (by omega), hv⟩).elim
   refine ⟨-1, ⟨fun h => by omega, fun h => by
    obtain ⟨r, hr, h2⟩ := List.any_eq_true.1 h
    obtain ⟨i, hi, rfl⟩ := List.getElem_of_mem hr
    rw [hall i hi] at h2; cases h2⟩, Call.intro hp rfl (by simp [hno]) ?_⟩
   show wp _ _ c_slices_IndexFunc_____int64___int64_.body (post [.t 4] _ _ _) _
   simp [c_slices_IndexFunc_____int64___int64_]
   refine wpLoop_count (fun k e => e = fr [(0, some (.val (tb t))), (1, some (.val (.fn f caps))), (7, some (.val (I t.length))), (8, some (.val (I k)))]) t.length ?_ ?_ 0 _ (by omega) ?_
   · rintro k e hk rfl
     simp [hk]
     refine callR (by simpa [hc] using hf t[k] (List.getElem_mem hk)) rfl rfl (fun _ => rfl) ?_
     simp [hall k hk]
     omega
   · rintro e rfl
     simp [hno]
   · simp

def S_containsFunc (pg : Pg) : Prop := ∀ (t : List (List Int)) (P : List Int → Bool) (f : Nat) (caps : List T), t.length ≤ 1048576 → T.eryL .old caps = caps → T.noOwnL caps = true → (∀ r ∈ t, Call pg f (ix r :: caps) (ix r :: caps) (B (P r))) →
 Call pg 63 [tb t, .fn f caps] [tb t, .fn f caps] (B (t.any P))
theorem t_containsFunc {pg : Pg} (hp : pg.fn 63 = some c_slices_ContainsFunc_____int64___int64_) (h70 : S_indexFunc pg) : S_containsFunc pg := by
 intro t P f caps hl hc hno hf
 obtain ⟨r, h1, h2⟩ := h70 t P f caps hl hc hno hf
 refine Call.intro hp rfl (by simp [hno]) ?_
 show wp _ _ c_slices_ContainsFunc_____int64___int64_.body (post [.t 4] _ _ _) _
 simp [c_slices_ContainsFunc_____int64___int64_, hno, hc]
 refine callR h2 rfl rfl (fun _ => rfl) ?_
 cases h : t.any P with
 | true => simp [h1.2 h, hno]
 | false =>
  have : ¬ 0 ≤ r := fun hh => by rw [h1.1 hh] at h; cases h
  simp [this, hno]

end Go.Mch
namespace Go.Mch

def S_isTable1 (pg : Pg) : Prop := ∀ (r : List Int) (n : Int), r.length ≤ 1048576 → 0 ≤ n → n ≤ 1048576 → Call pg 64 [ix r, .mem .old none [I n]] [ix r, .mem .old none [I n]] (B (decide ((r.length : Int) ≠ n ∨ ¬ inR 0 (n - 1) r)))
theorem t_isTable1 {pg : Pg} (hp : pg.fn 64 = some c_impl_IsTable_1) (h54 : S_allWithin pg) : S_isTable1 pg := by
 intro r n hl h1 h2
 refine Call.intro hp rfl (by simp) ?_
 show wp _ _ c_impl_IsTable_1.body (post [.t 3] _ _ _) _
 by_cases hn : (r.length : Int) = n
 · simp [c_impl_IsTable_1, hn]
   refine ⟨by omega, ?_⟩
   refine callR (h54 _ _ _ hl) rfl rfl (fun _ => rfl) ?_
   by_cases hr : inR 0 (n - 1) r <;> simp [hr]
 · simp [c_impl_IsTable_1, hn, undefV]

theorem t_isTable {pg : Pg} (hp : pg.fn 50 = some c_impl_IsTable) (h35 : S_in pg 35) (h64 : S_isTable1 pg) (h63 : S_containsFunc pg) : S_table pg 50 := by
 intro t hl hr
 refine Call.intro hp rfl (by simp) ?_
 show wp _ _ c_impl_IsTable.body (post [.t 2] _ _ _) _
 simp [c_impl_IsTable]
 refine callR (h35 _ 1 12) rfl rfl (fun _ => rfl) ?_
 by_cases hn : 1 ≤ t.length ∧ t.length ≤ 12
 · have hn' : (1 : Int) ≤ t.length ∧ (t.length : Int) ≤ 12 := by omega
   simp [hn']
   refine callR (h63 t (fun r => decide ((r.length : Int) ≠ t.length ∨ ¬ inR 0 ((t.length : Int) - 1) r)) 64 [.mem .old none [I t.length]] hl rfl rfl (fun r hm => h64 r _ (hr r hm) (by omega) (by omega))) rfl rfl (fun _ => rfl) ?_
   simp
   by_cases ht : isTable t
   · simp [ht]
     intro r hm
     have := ht.2.2 r hm
     exact ⟨by omega, fun v hv => by have := this.2 v hv; omega⟩
   · simp [ht]
     rcases Classical.em (∃ x, x ∈ t ∧ (¬ ((x.length : Nat) : Int) = t.length ∨ ¬ inR 0 ((t.length : Int) - 1) x)) with h | h
     · exact h
     · exfalso
       refine ht ⟨hn.1, hn.2, fun r hm => ?_⟩
       have h1 : ((r.length : Nat) : Int) = t.length ∧ inR 0 ((t.length : Int) - 1) r := by
        refine Classical.byContradiction fun h2 => h ⟨r, hm, ?_⟩
        rcases Classical.em (((r.length : Nat) : Int) = t.length) with h3 | h3
        · exact .inr fun h4 => h2 ⟨h3, h4⟩
        · exact .inl h3
       exact ⟨by omega, fun v hv => by have := h1.2 v hv; omega⟩
 · have hvd : ¬ isTable t := fun ht => hn ⟨ht.1, ht.2.1⟩
   have hn' : ¬ ((1 : Int) ≤ t.length ∧ (t.length : Int) ≤ 12) := by omega
   simp [hn', hvd, undefV]

def permRows (t : List (List Int)) : Prop := ∀ r ∈ t, isPermuted r
instance (t : List (List Int)) : Decidable (permRows t) := by unfold permRows; infer_instance

def S_same (pg : Pg) : Prop := ∀ a b : List Int, a.length ≤ 1048576 → Call pg 67 [ix a, ix b] [ix a, ix b] (B (decide (a = b)))
theorem t_same {pg : Pg} (hp : pg.fn 67 = some c_spec_l01Same) : S_same pg := by
 intro a b ha
 refine Call.intro hp rfl (by simp) ?_
 show wp _ _ c_spec_l01Same.body (post [.t 4] _ _ _) _
 by_cases hl : a.length = b.length
 · simp [c_spec_l01Same, hl]
   refine wpLoop_count (fun k e => (∀ i, i < k → a[i]? = b[i]?) ∧ e = fr [(0, some (.val (ix a))), (1, some (.val (ix b))), (5, some (.val (I k)))]) a.length ?_ ?_ 0 _ (by omega) ?_
   · rintro k e hk ⟨h1, rfl⟩
     have hk2 : k < b.length := by omega
     by_cases hne : a[k] = b[k]
     · simp [hk, hk2, hne]
       refine ⟨by omega, fun i hi => ?_⟩
       rcases Nat.lt_or_ge i k with h2 | h2
       · exact h1 i h2
       · have : i = k := by omega
         subst this
         rw [List.getElem?_eq_getElem hk, List.getElem?_eq_getElem hk2, hne]
     · simp [hk, hk2, hne]
       intro h2
       exact hne (by simp [h2])
   · rintro e ⟨h1, rfl⟩
     simp [hl]
     apply List.ext_getElem?
     intro i
     rcases Nat.lt_or_ge i a.length with h2 | h2
     · exact h1 i h2
     · rw [List.getElem?_eq_none h2, List.getElem?_eq_none (by omega)]
   · exact ⟨fun i hi => by omega, by simp⟩
 · have : a ≠ b := fun h => hl (by rw [h])
   have h2 : (a.length : Int) ≠ b.length := by omega
   simp [c_spec_l01Same, h2, this]


abbrev sol (f s : List (List Int)) : T := .agg [tb f, tb s]
def isPairMap (f s : List (List Int)) : Prop := isTable f ∧ isTable s ∧ f.length = s.length
instance (f s : List (List Int)) : Decidable (isPairMap f s) := by unfold isPairMap; infer_instance

def fits (t : List (List Int)) : Prop := t.length ≤ 1048576 ∧ ∀ r ∈ t, r.length ≤ 1048576

def S_pairMap (pg : Pg) (n : Nat) : Prop := ∀ f s : List (List Int), fits f → fits s → Call pg n [sol f s] [sol f s] (B (decide (isPairMap f s)))
theorem t_l02Map {pg : Pg} (hp : pg.fn 56 = some c_spec_l02Map) (h46 : S_table pg 46) : S_pairMap pg 56 := by
 intro f s hf hs
 refine Call.intro hp rfl (by simp) ?_
 show wp _ _ c_spec_l02Map.body (post [.t 2] _ _ _) _
 simp [c_spec_l02Map]
 refine callR (h46 _ hf.1 hf.2) rfl rfl (fun _ => rfl) ?_
 by_cases h1 : isTable f
 · simp [h1]
   refine callR (h46 _ hs.1 hs.2) rfl rfl (fun _ => rfl) ?_
   by_cases h2 : isTable s
   · simp [h2, isPairMap, h1]
     omega
   · simp [h2, isPairMap, undefV]
 · simp [h1, isPairMap, undefV]
theorem t_isPairMap {pg : Pg} (hp : pg.fn 59 = some c_impl_IsPairMap) (h50 : S_table pg 50) : S_pairMap pg 59 := by
 intro f s hf hs
 refine Call.intro hp rfl (by simp) ?_
 show wp _ _ c_impl_IsPairMap.body (post [.t 2] _ _ _) _
 simp [c_impl_IsPairMap]
 refine callR (h50 _ hf.1 hf.2) rfl rfl (fun _ => rfl) ?_
 by_cases h1 : isTable f
 · simp [h1]
   refine callR (h50 _ hs.1 hs.2) rfl rfl (fun _ => rfl) ?_
   by_cases h2 : isTable s
   · simp [h2, isPairMap, h1]
     omega
   · simp [h2, isPairMap, undefV]
 · simp [h1, isPairMap, undefV]


def v2 (t : List (List Int)) (x y : Nat) : Int := (t.getD x []).getD y 0
theorem get_v2 {t : List (List Int)} {x y : Nat} (hx : x < t.length) (hy : y < (t[x]).length) : (t[x])[y] = v2 t x y := by
 simp [v2, List.getD_eq_getElem?_getD, hx, hy]
theorem Tab.row {t : List (List Int)} (h : Tab t) {x : Nat} (hx : x < t.length) : (t[x]).length = t.length := (h _ (List.getElem_mem hx)).1
theorem Tab.nonneg {t : List (List Int)} (h : Tab t) (x y : Nat) : 0 ≤ v2 t x y := by
 unfold v2
 rw [List.getD_eq_getElem?_getD, List.getD_eq_getElem?_getD]
 cases h1 : t[x]? with
 | none => simp
 | some r =>
  simp only [Option.getD_some]
  cases h2 : r[y]? with
  | none => simp
  | some v => exact ((h r (List.mem_of_getElem? h1)).2 v (List.mem_of_getElem? h2)).1
theorem Tab.lt {t : List (List Int)} (h : Tab t) (h0 : 0 < t.length) (x y : Nat) : v2 t x y < t.length := by
 unfold v2
 rw [List.getD_eq_getElem?_getD, List.getD_eq_getElem?_getD]
 cases h1 : t[x]? with
 | none => simp; omega
 | some r =>
  simp only [Option.getD_some]
  cases h2 : r[y]? with
  | none => simp; omega
  | some v => exact ((h r (List.mem_of_getElem? h1)).2 v (List.mem_of_getElem? h2)).2
theorem Tab.ltN {t : List (List Int)} (h : Tab t) (h0 : 0 < t.length) (x y : Nat) : (v2 t x y).toNat < t.length := by
 have := h.lt h0 x y
 have := h.nonneg x y
 omega

@[simp] theorem tdiv_nat (a b : Nat) : (a : Int).tdiv (b : Int) = ((a / b : Nat) : Int) := rfl
@[simp] theorem tmod_nat (a b : Nat) : (a : Int).tmod (b : Int) = ((a % b : Nat) : Int) := rfl

theorem least {P : Nat → Prop} {m : Nat} (h : ∃ k, k < m ∧ P k) : ∃ k, k < m ∧ P k ∧ ∀ i, i < k → ¬ P i := by
 obtain ⟨k, h1, h2⟩ := h
 induction k using Nat.strongRecOn with
 | _ k ih =>
  by_cases hh : ∃ i, i < k ∧ P i
  · obtain ⟨i, h3, h4⟩ := hh
    exact ih i h3 (by omega) h4
  · exact ⟨k, h1, h2, fun i hi hp => hh ⟨i, hi, hp⟩⟩

end Go.Mch
namespace Go.Mch

def ownI : Option (List Int) → T
 | none => nil
 | some xs => .mem .own (some 1) (xs.map I)

def up (k : Int) (n : Nat) : List Int := (List.range n).map fun i : Nat => k + i
def held : List Int → Int → Int
 | [], k => k
 | x :: xs, k => if x = k then held xs (k + 1) else -1

def S_heldI (pg : Pg) : Prop := ∀ (a : Rw Int) (k : Int), (lst a).length ≤ 1048576 → -1 ≤ k → k ≤ 4611686018427387904 → Call pg 13 [rawI a, I k] [rawI a, I k] (I (held (lst a) k))
def upto (k : Int) (xs : List Int) (j : Nat) : List Int := (List.range xs.length).map fun i : Nat => if i < j then k + i else xs.getD i 0
def S_markI (pg : Pg) : Prop := ∀ (a : Option (List Int)) (k : Int), (lso a).length ≤ 1048576 → -1 ≤ k → k ≤ 4611686018427387904 → Call pg 12 [ownI a, I k] [ownI (a.map fun xs => up k xs.length), I k] (I (k + (lso a).length))
def ownT : Option (List (List Int)) → T
 | none => nil
 | some xss => .mem .own (some 1) (rows xss)

def kAt (k : Int) (xss : List (List Int)) (j : Nat) : Int := k + ((xss.take j).map List.length).sum
def smallT (xss : List (List Int)) : Prop := xss.length ≤ 1048576 ∧ ∀ r ∈ xss, r.length ≤ 1048576

def upT (k : Int) (xss : List (List Int)) : List (List Int) := (List.range xss.length).map fun j => up (kAt k xss j) (xss.getD j []).length
def heldL : List (List Int) → Int → Int
 | [], k => k
 | r :: rs, k => if held r k < 0 then -1 else heldL rs (held r k)

def S_heldT (pg : Pg) : Prop := ∀ (a : Rw (Rw Int)) (k : Int), small a → -1 ≤ k → k ≤ 2305843009213693952 → Call pg 24 [rawT a, I k] [rawT a, I k] (I (heldL ((lst a).map lst) k))
def S_markT (pg : Pg) : Prop := ∀ (a : Option (List (List Int))) (k : Int), smallT (lso a) → 0 ≤ k → k ≤ 2305843009213693952 → Call pg 23 [ownT a, I k] [ownT (a.map (upT k)), I k] (I (kAt k (lso a) (lso a).length))
end Go.Mch
namespace Go.Mch

def coll (f s : List (List Int)) (a b : Nat) : Prop :=
 a ≠ b ∧ v2 f (a / f.length) (a % f.length) = v2 f (b / f.length) (b % f.length) ∧ v2 s (a / f.length) (a % f.length) = v2 s (b / f.length) (b % f.length)
def Inj (f s : List (List Int)) : Prop := ∀ a, a < f.length * f.length → ∀ b, b < f.length * f.length → ¬ coll f s a b
instance (f s : List (List Int)) (a b : Nat) : Decidable (coll f s a b) := by unfold coll; infer_instance
instance (f s : List (List Int)) : Decidable (Inj f s) := by unfold Inj; infer_instance

structure PM (f s : List (List Int)) : Prop where
 tf : Tab f
 ts : Tab s
 len : s.length = f.length
 pos : 0 < f.length
 small : f.length ≤ 12
theorem PM.of {f s : List (List Int)} (h : isPairMap f s) : PM f s := ⟨h.1.2.2, h.2.1.2.2, h.2.2.symm, h.1.1, h.1.2.1⟩

theorem dm_lt {n a : Nat} (h : a < n * n) : a / n < n ∧ a % n < n := by
 have hn : 0 < n := by
  rcases Nat.eq_zero_or_pos n with h0 | h0
  · subst h0; simp at h
  · exact h0
 exact ⟨Nat.div_lt_of_lt_mul h, Nat.mod_lt _ hn⟩

def S_coll57 (pg : Pg) : Prop := ∀ f s : List (List Int), PM f s → ∃ l : List Int, (l.length = 0 ↔ Inj f s) ∧ l.length ≤ 4 ∧ Call pg 57 [sol f s] [sol f s] (.mem .own (some 1) (l.map I))
set_option maxRecDepth 10000 in
theorem t_coll57 {pg : Pg} (hp : pg.fn 57 = some c_spec_l02Collision) : S_coll57 pg := by
 intro f s h
 have h0 := h.pos
 have h12 := h.small
 have h0' : f.length ≠ 0 := by omega
 have hsq : f.length * f.length ≤ 144 := Nat.mul_le_mul h12 h12
 have hsq' : ((f.length : Int) * f.length) ≤ 144 := by exact_mod_cast hsq
 have hsq0 : 0 ≤ ((f.length : Int) * f.length) := by exact_mod_cast Nat.zero_le _
 have fr' := fun x hx => h.tf.row (x := x) hx
 have sr' : ∀ x (hx : x < s.length), (s[x]).length = f.length := fun x hx => (h.ts.row hx).trans h.len
 have loop : ∀ (a b : Nat), a < f.length * f.length → b < f.length * f.length → coll f s a b → True := fun _ _ _ _ _ => trivial
 by_cases hex : ∃ a, a < f.length * f.length ∧ ∃ b, b < f.length * f.length ∧ coll f s a b
 · obtain ⟨a, ha, hb, hmin⟩ := least hex
   obtain ⟨b, hb, hc, hmin2⟩ := least hb
   have hni : ¬ Inj f s := fun hi => hi a ha b hb hc
   refine ⟨[((a / f.length : Nat) : Int), ((a % f.length : Nat) : Int), ((b / f.length : Nat) : Int), ((b % f.length : Nat) : Int)], by simp [hni], by simp, Call.intro hp rfl (by simp) ?_⟩
   show wp _ _ c_spec_l02Collision.body (post [.t 2] _ _ _) _
   simp [c_spec_l02Collision]
   refine wpLoop_count (fun k e => k ≤ a ∧ e = fr [(1, some (.val (.mem .own none [tb f, tb s]))), (3, some (.val (I f.length))), (4, some (.val (I k)))]) (f.length * f.length) ?_ ?_ 0 _ (by omega) ?_
   · rintro k e hk ⟨h1, rfl⟩
     have hk1 := dm_lt hk
     have hki : (k : Int) < (f.length : Int) * f.length := by exact_mod_cast hk
     have hq1 : 0 ≤ (k : Int) / f.length ∧ (k : Int) / f.length < f.length := ⟨by exact_mod_cast Nat.zero_le _, by exact_mod_cast hk1.1⟩
     have hr1 : 0 ≤ (k : Int) % f.length ∧ (k : Int) % f.length < f.length := ⟨by exact_mod_cast Nat.zero_le _, by exact_mod_cast hk1.2⟩
     have ht1 : ((k : Int) / f.length).toNat = k / f.length := by rw [← Int.natCast_ediv]; exact Int.toNat_natCast _
     have hu1 : ((k : Int) % f.length).toNat = k % f.length := by rw [← Int.natCast_emod]; exact Int.toNat_natCast _
     simp [hki]
     refine ⟨by omega, ?_⟩
     rcases Nat.lt_or_ge k a with hka | hka
     · refine wpLoop_count (fun j e => e = fr [(1, some (.val (.mem .own none [tb f, tb s]))), (3, some (.val (I f.length))), (4, some (.val (I k))), (5, some (.val (I j)))]) (f.length * f.length) ?_ ?_ 0 _ (by omega) ?_
       · rintro j e hj rfl
         have hj1 := dm_lt hj
         have hji : (j : Int) < (f.length : Int) * f.length := by exact_mod_cast hj
         have hq2 : 0 ≤ (j : Int) / f.length ∧ (j : Int) / f.length < f.length := ⟨by exact_mod_cast Nat.zero_le _, by exact_mod_cast hj1.1⟩
         have hr2 : 0 ≤ (j : Int) % f.length ∧ (j : Int) % f.length < f.length := ⟨by exact_mod_cast Nat.zero_le _, by exact_mod_cast hj1.2⟩
         have ht2 : ((j : Int) / f.length).toNat = j / f.length := by rw [← Int.natCast_ediv]; exact Int.toNat_natCast _
         have hu2 : ((j : Int) % f.length).toNat = j % f.length := by rw [← Int.natCast_emod]; exact Int.toNat_natCast _
         have hnc : ¬ coll f s k j := fun hcc => hmin k hka ⟨j, hj, hcc⟩
         by_cases hkj : k = j
         · subst hkj
           clear hj hj1 hnc
           simp [hji, h0', undefV]
           omega
         · have hkjI : (k : Int) ≠ j := by omega
           by_cases hv1 : v2 f (k / f.length) (k % f.length) = v2 f (j / f.length) (j % f.length)
           · by_cases hv2 : v2 s (k / f.length) (k % f.length) = v2 s (j / f.length) (j % f.length)
             · have hcc : coll f s k j := ⟨hkj, hv1, hv2⟩
               exact (hnc hcc).elim
             · simp [hkjI, hk1, hj1, hq1, hq2, hr1, hr2, ht1, ht2, hu1, hu2, hji, h0', fr', sr', h.len, get_v2, hv1, hv2]
               omega
           · simp [hkjI, hk1, hj1, hq1, hq2, hr1, hr2, ht1, ht2, hu1, hu2, hji, h0', fr', get_v2, undefV, hv1]
             omega
       · rintro e rfl
         simp
         omega
       · simp
     · have hka2 : k = a := by omega
       subst hka2
       refine wpLoop_count (fun j e => j ≤ b ∧ e = fr [(1, some (.val (.mem .own none [tb f, tb s]))), (3, some (.val (I f.length))), (4, some (.val (I k))), (5, some (.val (I j)))]) (f.length * f.length) ?_ ?_ 0 _ (by omega) ?_
       · rintro j e hj ⟨hjb, rfl⟩
         have hj1 := dm_lt hj
         have hji : (j : Int) < (f.length : Int) * f.length := by exact_mod_cast hj
         have hq2 : 0 ≤ (j : Int) / f.length ∧ (j : Int) / f.length < f.length := ⟨by exact_mod_cast Nat.zero_le _, by exact_mod_cast hj1.1⟩
         have hr2 : 0 ≤ (j : Int) % f.length ∧ (j : Int) % f.length < f.length := ⟨by exact_mod_cast Nat.zero_le _, by exact_mod_cast hj1.2⟩
         have ht2 : ((j : Int) / f.length).toNat = j / f.length := by rw [← Int.natCast_ediv]; exact Int.toNat_natCast _
         have hu2 : ((j : Int) % f.length).toNat = j % f.length := by rw [← Int.natCast_emod]; exact Int.toNat_natCast _
         rcases Nat.lt_or_ge j b with hlt | hge
         · have hnc : ¬ coll f s k j := hmin2 j hlt
           by_cases hkj : k = j
           · subst hkj
             clear hj hj1 hnc
             simp [hji, h0', undefV]
             omega
           · have hkjI : (k : Int) ≠ j := by omega
             by_cases hv1 : v2 f (k / f.length) (k % f.length) = v2 f (j / f.length) (j % f.length)
             · by_cases hv2 : v2 s (k / f.length) (k % f.length) = v2 s (j / f.length) (j % f.length)
               · have hcc : coll f s k j := ⟨hkj, hv1, hv2⟩
                 exact (hnc hcc).elim
               · simp [hkjI, hk1, hj1, hq1, hq2, hr1, hr2, ht1, ht2, hu1, hu2, hji, h0', fr', sr', h.len, get_v2, hv1, hv2]
                 omega
             · simp [hkjI, hk1, hj1, hq1, hq2, hr1, hr2, ht1, ht2, hu1, hu2, hji, h0', fr', get_v2, undefV, hv1]
               omega
         · have hjb2 : j = b := by omega
           subst hjb2
           obtain ⟨hkj, hv1, hv2⟩ := hc
           have hkjI : (k : Int) ≠ j := by omega
           simp [hkjI, hk1, hj1, hq1, hq2, hr1, hr2, ht1, ht2, hu1, hu2, hji, h0', fr', sr', h.len, get_v2, hv1, hv2]
           try omega
       · rintro e ⟨h1, rfl⟩
         omega
       · simp
   · rintro e ⟨h1, rfl⟩
     omega
   · simp
 · have hi : Inj f s := fun a ha b hb hc => hex ⟨a, ha, b, hb, hc⟩
   refine ⟨[], by simp [hi], by simp, Call.intro hp rfl (by simp) ?_⟩
   show wp _ _ c_spec_l02Collision.body (post [.t 2] _ _ _) _
   simp [c_spec_l02Collision]
   refine wpLoop_count (fun k e => e = fr [(1, some (.val (.mem .own none [tb f, tb s]))), (3, some (.val (I f.length))), (4, some (.val (I k)))]) (f.length * f.length) ?_ ?_ 0 _ (by omega) ?_
   · rintro k e hk rfl
     have hk1 := dm_lt hk
     have hki : (k : Int) < (f.length : Int) * f.length := by exact_mod_cast hk
     have hq1 : 0 ≤ (k : Int) / f.length ∧ (k : Int) / f.length < f.length := ⟨by exact_mod_cast Nat.zero_le _, by exact_mod_cast hk1.1⟩
     have hr1 : 0 ≤ (k : Int) % f.length ∧ (k : Int) % f.length < f.length := ⟨by exact_mod_cast Nat.zero_le _, by exact_mod_cast hk1.2⟩
     have ht1 : ((k : Int) / f.length).toNat = k / f.length := by rw [← Int.natCast_ediv]; exact Int.toNat_natCast _
     have hu1 : ((k : Int) % f.length).toNat = k % f.length := by rw [← Int.natCast_emod]; exact Int.toNat_natCast _
     simp [hki]
     refine ⟨by omega, ?_⟩
     refine wpLoop_count (fun j e => e = fr [(1, some (.val (.mem .own none [tb f, tb s]))), (3, some (.val (I f.length))), (4, some (.val (I k))), (5, some (.val (I j)))]) (f.length * f.length) ?_ ?_ 0 _ (by omega) ?_
     · rintro j e hj rfl
       have hj1 := dm_lt hj
       have hji : (j : Int) < (f.length : Int) * f.length := by exact_mod_cast hj
       have hq2 : 0 ≤ (j : Int) / f.length ∧ (j : Int) / f.length < f.length := ⟨by exact_mod_cast Nat.zero_le _, by exact_mod_cast hj1.1⟩
       have hr2 : 0 ≤ (j : Int) % f.length ∧ (j : Int) % f.length < f.length := ⟨by exact_mod_cast Nat.zero_le _, by exact_mod_cast hj1.2⟩
       have ht2 : ((j : Int) / f.length).toNat = j / f.length := by rw [← Int.natCast_ediv]; exact Int.toNat_natCast _
       have hu2 : ((j : Int) % f.length).toNat = j % f.length := by rw [← Int.natCast_emod]; exact Int.toNat_natCast _
       have hnc : ¬ coll f s k j := hi k hk j hj
       by_cases hkj : k = j
       · subst hkj
         clear hj hj1 hnc
         simp [hji, h0', undefV]
         omega
       · have hkjI : (k : Int) ≠ j := by omega
         by_cases hv1 : v2 f (k / f.length) (k % f.length) = v2 f (j / f.length) (j % f.length)
         · by_cases hv2 : v2 s (k / f.length) (k % f.length) = v2 s (j / f.length) (j % f.length)
           · have hcc : coll f s k j := ⟨hkj, hv1, hv2⟩
             exact (hnc hcc).elim
           · simp [hkjI, hk1, hj1, hq1, hq2, hr1, hr2, ht1, ht2, hu1, hu2, hji, h0', fr', sr', h.len, get_v2, hv1, hv2]
             omega
         · simp [hkjI, hk1, hj1, hq1, hq2, hr1, hr2, ht1, ht2, hu1, hu2, hji, h0', fr', get_v2, undefV, hv1]
           omega
     · rintro e rfl
       simp
       omega
     · simp
   · rintro e rfl
     simp
     try omega
   · simp

def S_coll60 (pg : Pg) : Prop := ∀ f s : List (List Int), PM f s → ∃ o : Option (List Int), (o = none ↔ Inj f s) ∧ Call pg 60 [sol f s] [sol f s] (ownI o)
set_option maxRecDepth 10000 in
theorem t_coll60 {pg : Pg} (hp : pg.fn 60 = some c_impl_collisionOf) : S_coll60 pg := by
 intro f s h
 have h0 := h.pos
 have h12 := h.small
 have h0' : f.length ≠ 0 := by omega
 have hsq : f.length * f.length ≤ 144 := Nat.mul_le_mul h12 h12
 have hsq' : ((f.length : Int) * f.length) ≤ 144 := by exact_mod_cast hsq
 have hsq0 : 0 ≤ ((f.length : Int) * f.length) := by exact_mod_cast Nat.zero_le _
 have fr' := fun x hx => h.tf.row (x := x) hx
 have sr' : ∀ x (hx : x < s.length), (s[x]).length = f.length := fun x hx => (h.ts.row hx).trans h.len
 have loop : ∀ (a b : Nat), a < f.length * f.length → b < f.length * f.length → coll f s a b → True := fun _ _ _ _ _ => trivial
 by_cases hex : ∃ a, a < f.length * f.length ∧ ∃ b, b < f.length * f.length ∧ coll f s a b
 · obtain ⟨a, ha, hb, hmin⟩ := least hex
   obtain ⟨b, hb, hc, hmin2⟩ := least hb
   have hni : ¬ Inj f s := fun hi => hi a ha b hb hc
   refine ⟨some [((a / f.length : Nat) : Int), ((a % f.length : Nat) : Int), ((b / f.length : Nat) : Int), ((b % f.length : Nat) : Int)], by simp [hni], Call.intro hp rfl (by simp) ?_⟩
   simp only [ownI]
   show wp _ _ c_impl_collisionOf.body (post [.t 2] _ _ _) _
   simp [c_impl_collisionOf]
   refine ⟨by omega, ?_⟩
   refine wpLoop_count (fun k e => k ≤ a ∧ e = fr [(1, some (.val (.mem .own none [tb f, tb s]))), (3, some (.val (I f.length))), (15, some (.val (I ((f.length : Int) * f.length)))), (16, some (.val (I k)))]) (f.length * f.length) ?_ ?_ 0 _ (by omega) ?_
   · rintro k e hk ⟨h1, rfl⟩
     have hk1 := dm_lt hk
     have hki : (k : Int) < (f.length : Int) * f.length := by exact_mod_cast hk
     have hq1 : 0 ≤ (k : Int) / f.length ∧ (k : Int) / f.length < f.length := ⟨by exact_mod_cast Nat.zero_le _, by exact_mod_cast hk1.1⟩
     have hr1 : 0 ≤ (k : Int) % f.length ∧ (k : Int) % f.length < f.length := ⟨by exact_mod_cast Nat.zero_le _, by exact_mod_cast hk1.2⟩
     have ht1 : ((k : Int) / f.length).toNat = k / f.length := by rw [← Int.natCast_ediv]; exact Int.toNat_natCast _
     have hu1 : ((k : Int) % f.length).toNat = k % f.length := by rw [← Int.natCast_emod]; exact Int.toNat_natCast _
     simp [hki, h0']
     refine ⟨by omega, by omega, ?_⟩
     rcases Nat.lt_or_ge k a with hka | hka
     · refine wpLoop_count (fun j e => e = fr [(1, some (.val (.mem .own none [tb f, tb s]))), (3, some (.val (I f.length))), (4, some (.val (I k))), (5, some (.val (I ((k / f.length : Nat) : Int)))), (6, some (.val (I ((k % f.length : Nat) : Int)))), (15, some (.val (I ((f.length : Int) * f.length)))), (16, some (.val (I k))), (27, some (.val (I ((f.length : Int) * f.length)))), (28, some (.val (I j)))]) (f.length * f.length) ?_ ?_ 0 _ (by omega) ?_
       · rintro j e hj rfl
         have hj1 := dm_lt hj
         have hji : (j : Int) < (f.length : Int) * f.length := by exact_mod_cast hj
         have hq2 : 0 ≤ (j : Int) / f.length ∧ (j : Int) / f.length < f.length := ⟨by exact_mod_cast Nat.zero_le _, by exact_mod_cast hj1.1⟩
         have hr2 : 0 ≤ (j : Int) % f.length ∧ (j : Int) % f.length < f.length := ⟨by exact_mod_cast Nat.zero_le _, by exact_mod_cast hj1.2⟩
         have ht2 : ((j : Int) / f.length).toNat = j / f.length := by rw [← Int.natCast_ediv]; exact Int.toNat_natCast _
         have hu2 : ((j : Int) % f.length).toNat = j % f.length := by rw [← Int.natCast_emod]; exact Int.toNat_natCast _
         have hnc : ¬ coll f s k j := fun hcc => hmin k hka ⟨j, hj, hcc⟩
         by_cases hkj : k = j
         · subst hkj
           clear hj hj1 hnc
           simp [hji, h0', undefV]
           omega
         · have hkjI : (k : Int) ≠ j := by omega
           by_cases hv1 : v2 f (k / f.length) (k % f.length) = v2 f (j / f.length) (j % f.length)
           · by_cases hv2 : v2 s (k / f.length) (k % f.length) = v2 s (j / f.length) (j % f.length)
             · have hcc : coll f s k j := ⟨hkj, hv1, hv2⟩
               exact (hnc hcc).elim
             · simp [hkjI, hk1, hj1, hq1, hq2, hr1, hr2, ht1, ht2, hu1, hu2, hji, h0', fr', sr', h.len, get_v2, hv1, hv2]
               omega
           · simp [hkjI, hk1, hj1, hq1, hq2, hr1, hr2, ht1, ht2, hu1, hu2, hji, h0', fr', get_v2, undefV, hv1]
             omega
       · rintro e rfl
         simp
         omega
       · simp
     · have hka2 : k = a := by omega
       subst hka2
       refine wpLoop_count (fun j e => j ≤ b ∧ e = fr [(1, some (.val (.mem .own none [tb f, tb s]))), (3, some (.val (I f.length))), (4, some (.val (I k))), (5, some (.val (I ((k / f.length : Nat) : Int)))), (6, some (.val (I ((k % f.length : Nat) : Int)))), (15, some (.val (I ((f.length : Int) * f.length)))), (16, some (.val (I k))), (27, some (.val (I ((f.length : Int) * f.length)))), (28, some (.val (I j)))]) (f.length * f.length) ?_ ?_ 0 _ (by omega) ?_
       · rintro j e hj ⟨hjb, rfl⟩
         have hj1 := dm_lt hj
         have hji : (j : Int) < (f.length : Int) * f.length := by exact_mod_cast hj
         have hq2 : 0 ≤ (j : Int) / f.length ∧ (j : Int) / f.length < f.length := ⟨by exact_mod_cast Nat.zero_le _, by exact_mod_cast hj1.1⟩
         have hr2 : 0 ≤ (j : Int) % f.length ∧ (j : Int) % f.length < f.length := ⟨by exact_mod_cast Nat.zero_le _, by exact_mod_cast hj1.2⟩
         have ht2 : ((j : Int) / f.length).toNat = j / f.length := by rw [← Int.natCast_ediv]; exact Int.toNat_natCast _
         have hu2 : ((j : Int) % f.length).toNat = j % f.length := by rw [← Int.natCast_emod]; exact Int.toNat_natCast _
         rcases Nat.lt_or_ge j b with hlt | hge
         · have hnc : ¬ coll f s k j := hmin2 j hlt
           by_cases hkj : k = j
           · subst hkj
             clear hj hj1 hnc
             simp [hji, h0', undefV]
             omega
           · have hkjI : (k : Int) ≠ j := by omega
             by_cases hv1 : v2 f (k / f.length) (k % f.length) = v2 f (j / f.length) (j % f.length)
             · by_cases hv2 : v2 s (k / f.length) (k % f.length) = v2 s (j / f.length) (j % f.length)
               · have hcc : coll f s k j := ⟨hkj, hv1, hv2⟩
                 exact (hnc hcc).elim
               · simp [hkjI, hk1, hj1, hq1, hq2, hr1, hr2, ht1, ht2, hu1, hu2, hji, h0', fr', sr', h.len, get_v2, hv1, hv2]
                 omega
             · simp [hkjI, hk1, hj1, hq1, hq2, hr1, hr2, ht1, ht2, hu1, hu2, hji, h0', fr', get_v2, undefV, hv1]
               omega
         · have hjb2 : j = b := by omega
           subst hjb2
           obtain ⟨hkj, hv1, hv2⟩ := hc
           have hkjI : (k : Int) ≠ j := by omega
           simp [hkjI, hk1, hj1, hq1, hq2, hr1, hr2, ht1, ht2, hu1, hu2, hji, h0', fr', sr', h.len, get_v2, hv1, hv2]
           try omega
       · rintro e ⟨h1, rfl⟩
         omega
       · simp
   · rintro e ⟨h1, rfl⟩
     omega
   · simp
 · have hi : Inj f s := fun a ha b hb hc => hex ⟨a, ha, b, hb, hc⟩
   refine ⟨none, by simp [hi], Call.intro hp rfl (by simp) ?_⟩
   simp only [ownI]
   show wp _ _ c_impl_collisionOf.body (post [.t 2] _ _ _) _
   simp [c_impl_collisionOf]
   refine ⟨by omega, ?_⟩
   refine wpLoop_count (fun k e => e = fr [(1, some (.val (.mem .own none [tb f, tb s]))), (3, some (.val (I f.length))), (15, some (.val (I ((f.length : Int) * f.length)))), (16, some (.val (I k)))]) (f.length * f.length) ?_ ?_ 0 _ (by omega) ?_
   · rintro k e hk rfl
     have hk1 := dm_lt hk
     have hki : (k : Int) < (f.length : Int) * f.length := by exact_mod_cast hk
     have hq1 : 0 ≤ (k : Int) / f.length ∧ (k : Int) / f.length < f.length := ⟨by exact_mod_cast Nat.zero_le _, by exact_mod_cast hk1.1⟩
     have hr1 : 0 ≤ (k : Int) % f.length ∧ (k : Int) % f.length < f.length := ⟨by exact_mod_cast Nat.zero_le _, by exact_mod_cast hk1.2⟩
     have ht1 : ((k : Int) / f.length).toNat = k / f.length := by rw [← Int.natCast_ediv]; exact Int.toNat_natCast _
     have hu1 : ((k : Int) % f.length).toNat = k % f.length := by rw [← Int.natCast_emod]; exact Int.toNat_natCast _
     simp [hki, h0']
     refine ⟨by omega, by omega, ?_⟩
     refine wpLoop_count (fun j e => e = fr [(1, some (.val (.mem .own none [tb f, tb s]))), (3, some (.val (I f.length))), (4, some (.val (I k))), (5, some (.val (I ((k / f.length : Nat) : Int)))), (6, some (.val (I ((k % f.length : Nat) : Int)))), (15, some (.val (I ((f.length : Int) * f.length)))), (16, some (.val (I k))), (27, some (.val (I ((f.length : Int) * f.length)))), (28, some (.val (I j)))]) (f.length * f.length) ?_ ?_ 0 _ (by omega) ?_
     · rintro j e hj rfl
       have hj1 := dm_lt hj
       have hji : (j : Int) < (f.length : Int) * f.length := by exact_mod_cast hj
       have hq2 : 0 ≤ (j : Int) / f.length ∧ (j : Int) / f.length < f.length := ⟨by exact_mod_cast Nat.zero_le _, by exact_mod_cast hj1.1⟩
       have hr2 : 0 ≤ (j : Int) % f.length ∧ (j : Int) % f.length < f.length := ⟨by exact_mod_cast Nat.zero_le _, by exact_mod_cast hj1.2⟩
       have ht2 : ((j : Int) / f.length).toNat = j / f.length := by rw [← Int.natCast_ediv]; exact Int.toNat_natCast _
       have hu2 : ((j : Int) % f.length).toNat = j % f.length := by rw [← Int.natCast_emod]; exact Int.toNat_natCast _
       have hnc : ¬ coll f s k j := hi k hk j hj
       by_cases hkj : k = j
       · subst hkj
         clear hj hj1 hnc
         simp [hji, h0', undefV]
         omega
       · have hkjI : (k : Int) ≠ j := by omega
         by_cases hv1 : v2 f (k / f.length) (k % f.length) = v2 f (j / f.length) (j % f.length)
         · by_cases hv2 : v2 s (k / f.length) (k % f.length) = v2 s (j / f.length) (j % f.length)
           · have hcc : coll f s k j := ⟨hkj, hv1, hv2⟩
             exact (hnc hcc).elim
           · simp [hkjI, hk1, hj1, hq1, hq2, hr1, hr2, ht1, ht2, hu1, hu2, hji, h0', fr', sr', h.len, get_v2, hv1, hv2]
             omega
         · simp [hkjI, hk1, hj1, hq1, hq2, hr1, hr2, ht1, ht2, hu1, hu2, hji, h0', fr', get_v2, undefV, hv1]
           omega
     · rintro e rfl
       simp
       omega
     · simp
   · rintro e rfl
     simp
     try omega
   · simp


end Go.Mch
namespace Go.Mch

def g2 (t : List (List Int)) (x y : Int) : Int := v2 t x.toNat y.toNat
theorem get_g2 {t : List (List Int)} {x y : Int} (hx : x.toNat < t.length) (hy : y.toNat < (t[x.toNat]).length) : (t[x.toNat])[y.toNat] = g2 t x y := get_v2 hx hy
def inN (n : Nat) (w : List Int) : Prop := ∀ x ∈ w, 0 ≤ x ∧ x < n
theorem PM.gF {f s : List (List Int)} (h : PM f s) (x y : Int) : 0 ≤ g2 f x y ∧ g2 f x y < f.length := ⟨h.tf.nonneg _ _, h.tf.lt h.pos _ _⟩
theorem PM.gS {f s : List (List Int)} (h : PM f s) (x y : Int) : 0 ≤ g2 s x y ∧ g2 s x y < f.length := ⟨h.ts.nonneg _ _, by have := h.ts.lt (by rw [h.len]; exact h.pos) x.toNat y.toNat; rw [h.len] at this; exact this⟩

def dW (f s : List (List Int)) (w : List Int) (i : Nat) : List Int :=
 (w.set i (g2 f (w.getD i 0) (w.getD (i + 1) 0))).set (i + 1) (g2 s (w.getD i 0) (w.getD (i + 1) 0))
@[simp] theorem dW_length (f s : List (List Int)) (w : List Int) (i : Nat) : (dW f s w i).length = w.length := by simp [dW]
theorem set_in {n : Nat} {w : List Int} (h : inN n w) {i : Nat} {v : Int} (hv : 0 ≤ v ∧ v < n) : inN n (w.set i v) := by
 intro x hx
 rcases List.mem_or_eq_of_mem_set hx with h1 | h1
 · exact h x h1
 · rw [h1]; exact hv
theorem dW_in {f s : List (List Int)} (h : PM f s) {w : List Int} (hw : inN f.length w) (i : Nat) : inN f.length (dW f s w i) := set_in (set_in hw (h.gF _ _)) (h.gS _ _)

def S_do (pg : Pg) (n : Nat) : Prop := ∀ (f s : List (List Int)) (w : List Int) (i : Nat), PM f s → i + 1 < w.length → w.length ≤ 1048576 → inN f.length w →
 Call pg n [sol f s, ix w, I i] [sol f s, ix w, I i] (.mem .own (some 1) ((dW f s w i).map I))
set_option maxRecDepth 10000 in
theorem do_of {pg : Pg} {n : Nat} (hp : pg.fn n = some c_spec_l02Do) (h31 : S_own pg) : S_do pg n := by
 intro f s w i h hi hl hw
 refine Call.intro hp rfl (by simp) ?_
 show wp _ _ c_spec_l02Do.body (post [.t 6] _ _ _) _
 have h1 := hw _ (List.getElem_mem (show i < w.length by omega))
 have h2 := hw _ (List.getElem_mem hi)
 have fr' := fun x hx => h.tf.row (x := x) hx
 have sr' : ∀ x (hx : x < s.length), (s[x]).length = f.length := fun x hx => (h.ts.row hx).trans h.len
 have hi0 : i < w.length := by omega
 have hiI : (i : Int) + 1 < w.length := by omega
 have e1 : ((i : Int) + 1).toNat = i + 1 := by omega
 have t1 : (w[i]).toNat < f.length := by omega
 have t2 : (w[i + 1]).toNat < f.length := by omega
 have hb : -9223372036854775808 ≤ (i : Int) + 1 ∧ (i : Int) + 1 ≤ 9223372036854775807 := by omega
 have hb0 : 0 ≤ (i : Int) + 1 := by omega
 simp [c_spec_l02Do]
 refine callR (h31 _ hl) rfl rfl (fun _ => by simp) ?_
 simp [hi, hb, hb0, hi0, hiI, e1, h1, h2, t1, t2, fr', sr', h.len, get_g2]
 refine ⟨by omega, by omega, ?_⟩
 simp [dW, hi0, hi]

def ybAt (f s : List (List Int)) (x y z : Nat) : Prop := dW f s (dW f s (dW f s [(x : Int), y, z] 0) 1) 0 = dW f s (dW f s (dW f s [(x : Int), y, z] 1) 0) 1
def YB (f s : List (List Int)) : Prop := ∀ x y z : Nat, x < f.length → y < f.length → z < f.length → ybAt f s x y z
instance (f s : List (List Int)) (x y z : Nat) : Decidable (ybAt f s x y z) := by unfold ybAt; infer_instance

theorem first3 (P : Nat → Nat → Nat → Prop) (n : Nat) : (∀ x y z, x < n → y < n → z < n → ¬ P x y z) ∨
 ∃ a b c, a < n ∧ b < n ∧ c < n ∧ P a b c ∧ ∀ x y z, x < n → y < n → z < n → P x y z → a < x ∨ (a = x ∧ (b < y ∨ (b = y ∧ c ≤ z))) := by
 by_cases h : ∃ a, a < n ∧ ∃ b, b < n ∧ ∃ c, c < n ∧ P a b c
 · right
   obtain ⟨a, ha, hb, h1⟩ := least h
   obtain ⟨b, hb, hc, h2⟩ := least hb
   obtain ⟨c, hc, hp, h3⟩ := least hc
   refine ⟨a, b, c, ha, hb, hc, hp, fun x y z hx hy hz hq => ?_⟩
   rcases Nat.lt_trichotomy a x with g | g | g
   · exact .inl g
   · subst g
     right
     refine ⟨rfl, ?_⟩
     rcases Nat.lt_trichotomy b y with g | g | g
     · exact .inl g
     · subst g
       right
       refine ⟨rfl, ?_⟩
       rcases Nat.lt_or_ge z c with g | g
       · exact absurd hq (h3 z g)
       · exact g
     · exact absurd ⟨z, hz, hq⟩ (h2 y g)
   · exact absurd ⟨y, hy, z, hz, hq⟩ (h1 x g)
 · left
   intro x y z hx hy hz hp
   exact h ⟨x, hx, y, hy, z, hz, hp⟩

theorem fault (f s : List (List Int)) : ∃ (a b c : Nat) (l : List Int), (l.length = 0 ↔ YB f s) ∧ (a < f.length → l = [(a : Int), b, c] ∧ b < f.length ∧ c < f.length ∧ ¬ ybAt f s a b c) ∧ (¬ a < f.length → a = f.length ∧ l = []) ∧ l.length ≤ 3 ∧
 ∀ x y z, x < f.length → y < f.length → z < f.length → ¬ ybAt f s x y z → a < x ∨ (a = x ∧ (b < y ∨ (b = y ∧ c ≤ z))) := by
 rcases first3 (fun x y z => ¬ ybAt f s x y z) f.length with h | ⟨a, b, c, ha, hb, hc, hp, h⟩
 · refine ⟨f.length, 0, 0, [], ⟨fun _ x y z hx hy hz => ?_, fun _ => rfl⟩, fun h => absurd h (Nat.lt_irrefl _), fun _ => ⟨rfl, rfl⟩, by simp, fun x y z hx hy hz hn => absurd hn (h x y z hx hy hz)⟩
   exact Decidable.of_not_not (h x y z hx hy hz)
 · exact ⟨a, b, c, [(a : Int), b, c], ⟨fun h => by simp at h, fun h => absurd (h a b c ha hb hc) hp⟩, fun _ => ⟨rfl, hb, hc, hp⟩, fun h => absurd ha h, by simp, h⟩

def S_fault58 (pg : Pg) : Prop := ∀ f s : List (List Int), PM f s → ∃ l : List Int, (l.length = 0 ↔ YB f s) ∧ l.length ≤ 3 ∧ Call pg 58 [sol f s] [sol f s] (.mem .own (some 1) (l.map I))

theorem w3_in {n x y z : Nat} (hx : x < n) (hy : y < n) (hz : z < n) : inN n [(x : Int), y, z] := by
 intro v hv
 simp at hv
 omega

set_option maxRecDepth 10000 in
theorem t_fault58 {pg : Pg} (hp : pg.fn 58 = some c_spec_l02Fault) (h68 : S_do pg 68) (h67 : S_same pg) : S_fault58 pg := by
 intro f s h
 obtain ⟨a, b, c, l, hl, hf1, hf2, hf3, hmin⟩ := fault f s
 have h0 := h.pos
 have h12 := h.small
 refine ⟨l, hl, hf3, Call.intro hp rfl (by simp) ?_⟩
 show wp _ _ c_spec_l02Fault.body (post [.t 2] _ _ _) _
 simp [c_spec_l02Fault]
 refine wpLoop_count (fun x e => x ≤ a ∧ e = fr [(1, some (.val (.mem .own none [tb f, tb s]))), (3, some (.val (I f.length))), (4, some (.val (I x)))]) f.length ?_ ?_ 0 _ (by omega) ?_
 · rintro x e hx ⟨hxa, rfl⟩
   simp [hx]
   refine wpLoop_count (fun y e => (x = a → y ≤ b) ∧ e = fr [(1, some (.val (.mem .own none [tb f, tb s]))), (3, some (.val (I f.length))), (4, some (.val (I x))), (5, some (.val (I y)))]) f.length ?_ ?_ 0 _ (by omega) ?_
   · rintro y e hy ⟨hyb, rfl⟩
     simp [hy]
     refine wpLoop_count (fun z e => (x = a → y = b → z ≤ c) ∧ e = fr [(1, some (.val (.mem .own none [tb f, tb s]))), (3, some (.val (I f.length))), (4, some (.val (I x))), (5, some (.val (I y))), (6, some (.val (I z)))]) f.length ?_ ?_ 0 _ (by omega) ?_
     · rintro z e hz ⟨hzc, rfl⟩
       have hw := w3_in hx hy hz
       have d1 := dW_in h hw 0
       have d2 := dW_in h d1 1
       have d3 := dW_in h hw 1
       have d4 := dW_in h d3 0
       simp [hz]
       refine callR (h68 f s [(x : Int), y, z] 0 h (by simp) (by simp) hw) rfl rfl (fun _ => by simp) ?_
       simp
       refine callR (h68 f s _ 1 h (by simp) (by simp) d1) rfl rfl (fun _ => by simp) ?_
       simp
       refine callR (h68 f s _ 0 h (by simp) (by simp) d2) rfl rfl (fun _ => by simp) ?_
       simp
       refine callR (h68 f s [(x : Int), y, z] 1 h (by simp) (by simp) hw) rfl rfl (fun _ => by simp) ?_
       simp
       refine callR (h68 f s _ 0 h (by simp) (by simp) d3) rfl rfl (fun _ => by simp) ?_
       simp
       refine callR (h68 f s _ 1 h (by simp) (by simp) d4) rfl rfl (fun _ => by simp) ?_
       simp
       refine callR (h67 _ _ (by simp)) rfl rfl (fun _ => rfl) ?_
       by_cases hy2 : ybAt f s x y z
       · have hy3 := hy2
         unfold ybAt at hy3
         simp [hy3]
         have : ¬ (x = a ∧ y = b ∧ z = c) := fun ⟨e1, e2, e3⟩ => by
          subst e1 e2 e3
          exact (hf1 hx).2.2.2 hy2
         omega
       · have hy3 := hy2
         unfold ybAt at hy3
         have := hmin x y z hx hy hz hy2
         have e1 : x = a := by omega
         subst e1
         have e2 : y = b := by have := hyb rfl; omega
         subst e2
         have e3 : z = c := by have := hzc rfl rfl; omega
         subst e3
         simp [hy3, (hf1 hx).1]
     · rintro e ⟨hzc, rfl⟩
       simp
       have : ¬ (x = a ∧ y = b) := fun ⟨e1, e2⟩ => by
        have := hzc e1 e2
        have := (hf1 (by omega)).2.2.1
        omega
       omega
     · simp
   · rintro e ⟨hyb, rfl⟩
     simp
     have : ¬ x = a := fun e1 => by
      have := hyb e1
      have := (hf1 (by omega)).2.1
      omega
     omega
   · simp
 · rintro e ⟨h1, rfl⟩
   simp [(hf2 (by omega)).2]
 · simp

theorem yb_v2 (f s : List (List Int)) (x y z : Nat) : ybAt f s x y z ↔
 (v2 f (v2 f x y).toNat (v2 f (v2 s x y).toNat z).toNat = v2 f x (v2 f y z).toNat ∧
  v2 s (v2 f x y).toNat (v2 f (v2 s x y).toNat z).toNat = v2 f (v2 s x (v2 f y z).toNat).toNat (v2 s y z).toNat ∧
  v2 s (v2 s x y).toNat z = v2 s (v2 s x (v2 f y z).toNat).toNat (v2 s y z).toNat) := by
 simp [ybAt, dW, g2]

def S_fault61 (pg : Pg) : Prop := ∀ f s : List (List Int), PM f s → ∃ o : Option (List Int), (o = none ↔ YB f s) ∧ Call pg 61 [sol f s] [sol f s] (ownI o)
set_option maxRecDepth 10000 in
theorem t_fault61 {pg : Pg} (hp : pg.fn 61 = some c_impl_equationFault) : S_fault61 pg := by
 intro f s h
 obtain ⟨a, b, c, l, hl, hf1, hf2, hf3, hmin⟩ := fault f s
 have h0 := h.pos
 have h12 := h.small
 have fr' := fun x hx => h.tf.row (x := x) hx
 have sr' : ∀ x (hx : x < s.length), (s[x]).length = f.length := fun x hx => (h.ts.row hx).trans h.len
 have hF0 : ∀ i j, 0 ≤ v2 f i j := h.tf.nonneg
 have hF1 : ∀ i j, v2 f i j < f.length := h.tf.lt h0
 have hF2 : ∀ i j, (v2 f i j).toNat < f.length := h.tf.ltN h0
 have hS0 : ∀ i j, 0 ≤ v2 s i j := h.ts.nonneg
 have hS1 : ∀ i j, v2 s i j < f.length := fun i j => by have := h.ts.lt (by rw [h.len]; exact h0) i j; rw [h.len] at this; exact this
 have hS2 : ∀ i j, (v2 s i j).toNat < f.length := fun i j => by have := hS0 i j; have := hS1 i j; omega
 refine ⟨if a < f.length then some l else none, ?_, Call.intro hp rfl (by simp) ?_⟩
 · by_cases ha : a < f.length
   · have h1 := (hf1 ha).1
     rw [← hl, if_pos ha, h1]
     simp
   · have h1 := (hf2 ha).2
     rw [← hl, if_neg ha, h1]
     simp
 show wp _ _ c_impl_equationFault.body (post [.t 2] _ _ _) _
 simp [c_impl_equationFault]
 refine wpLoop_count (fun x e => x ≤ a ∧ e = fr [(1, some (.val (.mem .own none [tb f, tb s]))), (3, some (.val (I f.length))), (16, some (.val (I f.length))), (17, some (.val (I x)))]) f.length ?_ ?_ 0 _ (by omega) ?_
 · rintro x e hx ⟨hxa, rfl⟩
   simp [hx]
   refine wpLoop_count (fun y e => (x = a → y ≤ b) ∧ e = fr [(1, some (.val (.mem .own none [tb f, tb s]))), (3, some (.val (I f.length))), (4, some (.val (I x))), (16, some (.val (I f.length))), (17, some (.val (I x))), (20, some (.val (I f.length))), (21, some (.val (I y)))]) f.length ?_ ?_ 0 _ (by omega) ?_
   · rintro y e hy ⟨hyb, rfl⟩
     simp [hy]
     refine wpLoop_count (fun z e => (x = a → y = b → z ≤ c) ∧ e = fr [(1, some (.val (.mem .own none [tb f, tb s]))), (3, some (.val (I f.length))), (4, some (.val (I x))), (5, some (.val (I y))), (16, some (.val (I f.length))), (17, some (.val (I x))), (20, some (.val (I f.length))), (21, some (.val (I y))), (24, some (.val (I f.length))), (25, some (.val (I z)))]) f.length ?_ ?_ 0 _ (by omega) ?_
     · rintro z e hz ⟨hzc, rfl⟩
       have hyb2 := yb_v2 f s x y z
       simp [hx, hy, hz, fr', sr', h.len, get_v2, hF0, hF1, hF2, hS0, hS1, hS2]
       have bad : ¬ ybAt f s x y z → x = a ∧ y = b ∧ z = c := fun hn => by
        have := hmin x y z hx hy hz hn
        have e1 : x = a := by omega
        have e2 : y = b := by have := hyb e1; omega
        have e3 : z = c := by have := hzc e1 e2; omega
        exact ⟨e1, e2, e3⟩
       by_cases e1 : v2 f (v2 f x y).toNat (v2 f (v2 s x y).toNat z).toNat = v2 f x (v2 f y z).toNat
       · by_cases e2 : v2 s (v2 f x y).toNat (v2 f (v2 s x y).toNat z).toNat = v2 f (v2 s x (v2 f y z).toNat).toNat (v2 s y z).toNat
         · by_cases e3 : v2 s (v2 s x y).toNat z = v2 s (v2 s x (v2 f y z).toNat).toNat (v2 s y z).toNat
           · simp [e1, e2, e3]
             have : ¬ (x = a ∧ y = b ∧ z = c) := fun ⟨g1, g2, g3⟩ => by
              subst g1 g2 g3
              exact (hf1 hx).2.2.2 (hyb2.2 ⟨e1, e2, e3⟩)
             omega
           · obtain ⟨g1, g2, g3⟩ := bad fun hh => e3 (hyb2.1 hh).2.2
             subst g1 g2 g3
             simp [e1, e2, e3, hx, (hf1 hx).1, ownI]
         · obtain ⟨g1, g2, g3⟩ := bad fun hh => e2 (hyb2.1 hh).2.1
           subst g1 g2 g3
           simp [e1, e2, undefV, hx, (hf1 hx).1, ownI]
       · obtain ⟨g1, g2, g3⟩ := bad fun hh => e1 (hyb2.1 hh).1
         subst g1 g2 g3
         simp [e1, undefV, hx, (hf1 hx).1, ownI]
     · rintro e ⟨hzc, rfl⟩
       simp
       have : ¬ (x = a ∧ y = b) := fun ⟨e1, e2⟩ => by
        have := hzc e1 e2
        have := (hf1 (by omega)).2.2.1
        omega
       omega
     · simp
   · rintro e ⟨hyb, rfl⟩
     simp
     have : ¬ x = a := fun e1 => by
      have := hyb e1
      have := (hf1 (by omega)).2.1
      omega
     omega
   · simp
 · rintro e ⟨h1, rfl⟩
   have h2 : ¬ a < f.length := by omega
   simp [h2, ownI]
 · simp

def isSol (f s : List (List Int)) : Prop := isPairMap f s ∧ Inj f s ∧ YB f s

noncomputable def dec (p : Prop) : Bool := @decide p (Classical.propDecidable p)
theorem dec_true {p : Prop} (h : p) : dec p = true := by simp [dec, h]
theorem dec_false {p : Prop} (h : ¬ p) : dec p = false := by simp [dec, h]

def S_isSol (pg : Pg) (n : Nat) : Prop := ∀ f s : List (List Int), fits f → fits s → Call pg n [sol f s] [sol f s] (B (dec (isSol f s)))
theorem t_l02Is {pg : Pg} (hp : pg.fn 41 = some c_spec_l02Is) (h56 : S_pairMap pg 56) (h57 : S_coll57 pg) (h58 : S_fault58 pg) : S_isSol pg 41 := by
 intro f s hf hs
 refine Call.intro hp rfl (by simp) ?_
 show wp _ _ c_spec_l02Is.body (post [.t 2] _ _ _) _
 simp [c_spec_l02Is]
 refine callR (h56 f s hf hs) rfl rfl (fun _ => rfl) ?_
 by_cases h1 : isPairMap f s
 · have hpm := PM.of h1
   obtain ⟨l, hl, hl2, hc⟩ := h57 f s hpm
   simp [h1]
   refine callR hc rfl rfl (fun _ => by simp) ?_
   by_cases h2 : Inj f s
   · have h3 := hl.2 h2
     obtain ⟨l2, hm, hm2, hc2⟩ := h58 f s hpm
     simp [h3]
     refine callR hc2 rfl rfl (fun _ => by simp) ?_
     by_cases h4 : YB f s
     · have h5 := hm.2 h4
       simp [h5, dec_true (show isSol f s from ⟨h1, h2, h4⟩)]
     · have h5 : ¬ l2.length = 0 := fun h => h4 (hm.1 h)
       have h6 : ¬ ((l2.length : Nat) : Int) = 0 := by omega
       simp [h5, dec_false (show ¬ isSol f s from fun h => h4 h.2.2)]
   · have h3 : ¬ l.length = 0 := fun h => h2 (hl.1 h)
     have h6 : ¬ ((l.length : Nat) : Int) = 0 := by omega
     simp [h3, undefV, dec_false (show ¬ isSol f s from fun h => h2 h.2.1)]
 · simp [h1, undefV, dec_false (show ¬ isSol f s from fun h => h1 h.1)]

theorem t_IsSolution {pg : Pg} (hp : pg.fn 42 = some c_impl_IsSolution) (h59 : S_pairMap pg 59) (h60 : S_coll60 pg) (h61 : S_fault61 pg) : S_isSol pg 42 := by
 intro f s hf hs
 refine Call.intro hp rfl (by simp) ?_
 show wp _ _ c_impl_IsSolution.body (post [.t 2] _ _ _) _
 simp [c_impl_IsSolution]
 refine callR (h59 f s hf hs) rfl rfl (fun _ => rfl) ?_
 by_cases h1 : isPairMap f s
 · have hpm := PM.of h1
   obtain ⟨l, hl, hc⟩ := h60 f s hpm
   simp [h1]
   refine callR hc rfl rfl (fun _ => by cases l <;> simp [ownI]) ?_
   by_cases h2 : Inj f s
   · have h3 := hl.2 h2
     subst h3
     obtain ⟨l2, hm, hc2⟩ := h61 f s hpm
     simp [ownI]
     refine callR hc2 rfl rfl (fun _ => by cases l2 <;> simp [ownI]) ?_
     by_cases h4 : YB f s
     · have h5 := hm.2 h4
       subst h5
       simp [ownI, dec_true (show isSol f s from ⟨h1, h2, h4⟩)]
     · cases l2 with
       | none => exact absurd (hm.1 rfl) h4
       | some l2 => simp [ownI, dec_false (show ¬ isSol f s from fun h => h4 h.2.2)]
   · cases l with
     | none => exact absurd (hl.1 rfl) h2
     | some l => simp [ownI, undefV, dec_false (show ¬ isSol f s from fun h => h2 h.2.1)]
 · simp [h1, undefV, dec_false (show ¬ isSol f s from fun h => h1 h.1)]
end Go.Mch
namespace Go.Mch

def eT : Option (List (List Int)) → T
 | none => nil
 | some X => tb X
def ryT (o : Option (List (List Int))) : Rw (Rw Int) := Rw.ofO (o.map fun X => X.map .of)
theorem rawT_ry (o : Option (List (List Int))) : rawT (ryT o) = eT o := by
 cases o with
 | none => rfl
 | some X => exact rawT_tb X
theorem map_lst_of {α : Type} (X : List (List α)) : (X.map Rw.of).map lst = X := by simp [Function.comp_def]
theorem lst_ry (o : Option (List (List Int))) : (lst (ryT o)).map lst = lso o := by
 cases o with
 | none => rfl
 | some X => exact map_lst_of X
theorem small_ry {o : Option (List (List Int))} (h : smallT (lso o)) : small (ryT o) := by
 cases o with
 | none => exact ⟨by simp [ryT, Rw.ofO, lst], by simp [ryT, Rw.ofO, lst]⟩
 | some X => exact ⟨by simpa [ryT, Rw.ofO] using h.1, by simpa [ryT, Rw.ofO] using h.2⟩
theorem S_eqSol.o {pg : Pg} (h : S_eqSol pg) (X Y Z W : List (List Int)) (hX : smallT X) (hY : smallT Y) : Call pg 18 [.agg [tb X, tb Y], .agg [tb Z, tb W]] [.agg [tb X, tb Y], .agg [tb Z, tb W]] (B (decide (X = Z ∧ Y = W))) := by
 have := h (ryT (some X)) (ryT (some Y)) (ryT (some Z)) (ryT (some W)) (small_ry hX) (small_ry hY)
 simp only [rawT_ry, lst_ry] at this
 exact this

theorem fitsT_of {a : Rw (Rw Int)} (h : small a) : fits ((lst a).map lst) := ⟨by simpa using h.1, by simpa using h.2⟩
end Go.Mch
namespace Go.Mch

def isTup (n : Int) (xs : List Int) : Prop := xs.length ≤ 12 ∧ inR 0 (n - 1) xs
instance (n : Int) (xs : List Int) : Decidable (isTup n xs) := by unfold isTup; infer_instance
def tmOk (f : List (List Int)) (w : List Int) (p : Int) : Prop := isTup f.length w ∧ 0 ≤ p ∧ p ≤ (w.length : Int) - 2
instance (f : List (List Int)) (w : List Int) (p : Int) : Decidable (tmOk f w p) := by unfold tmOk; infer_instance
end Go.Mch
namespace Go.Mch

def eI : Option (List Int) → T
 | none => nil
 | some X => ix X
theorem rawI_ry (o : Option (List Int)) : rawI (Rw.ofO o) = eI o := by cases o <;> rfl
theorem S_eqI.o {pg : Pg} (h : S_eqI pg) (o o' : Option (List Int)) (hs : (lso o).length ≤ 1048576) : Call pg 9 [eI o, eI o'] [eI o, eI o'] (B (decide (lso o = lso o'))) := by
 have := h (Rw.ofO o) (Rw.ofO o') (by simpa using hs)
 simp only [rawI_ry, lst_ofO] at this
 exact this
end Go.Mch
namespace Go.Mch

def sdAt (t : List (List Int)) (x y z : Nat) : Prop := v2 t x (v2 t y z).toNat = v2 t (v2 t x y).toNat (v2 t x z).toNat
instance (t : List (List Int)) (x y z : Nat) : Decidable (sdAt t x y z) := by unfold sdAt; infer_instance
end Go.Mch
namespace Go.Mch

@[simp] theorem frzL_mapI (k : K) (xs : List Int) : T.frzL k (xs.map I) = xs.map I := by
 induction xs with
 | nil => rfl
 | cons x xs ih => simp [ih]
def tabL (n : Nat) (g : Nat → Nat → Int) : List (List Int) := (List.range n).map fun x => (List.range n).map fun y => g x y
def turnL (t : List (List Int)) : List (List Int) := tabL t.length fun x y => v2 t y x
def nonDeg (f s : List (List Int)) : Prop := permRows f ∧ permRows (turnL s)
instance (f s : List (List Int)) : Decidable (nonDeg f s) := by unfold nonDeg; infer_instance
end Go.Mch
namespace Go.Mch

def thenL (p q : List Int) : List Int := p.map fun x => q.getD x.toNat 0



def abel (f : List (List Int)) : Prop := ∀ x y : Nat, x < f.length → y < f.length → thenL (f.getD x []) (f.getD y []) = thenL (f.getD y []) (f.getD x [])
instance (f : List (List Int)) : Decidable (abel f) := by
 have : abel f ↔ ∀ x ∈ List.range f.length, ∀ y ∈ List.range f.length, thenL (f.getD x []) (f.getD y []) = thenL (f.getD y []) (f.getD x []) := by
  simp only [abel, List.mem_range]
  exact ⟨fun h x hx y hy => h x y hx hy, fun h x y hx hy => h x hx y hy⟩
 exact decidable_of_iff _ this.symm
end Go.Mch
namespace Go.Mch

@[simp] theorem dec_False : dec False = false := dec_false id

end Go.Mch
namespace Go.Mch


def S_heldRack (pg : Pg) : Prop := ∀ (o : Option (List (List Int))) (k : Int), smallT (lso o) → 0 ≤ k → k ≤ 2305843009213693952 → heldL (lso o) k ≤ 4611686018427387904 → Call pg 149 [.agg [eT o], I k] [.agg [eT o], I k] (I (if heldL (lso o) k < 0 then -1 else heldL (lso o) k))
end Go.Mch
namespace Go.Mch

@[simp] theorem isPrefixOf_cons2 (a b : Nat) (as bs : List Nat) : (a :: as).isPrefixOf (b :: bs) = (a == b && as.isPrefixOf bs) := rfl

def S_heldSol (pg : Pg) : Prop := ∀ (o o' : Option (List (List Int))) (k m : Int), smallT (lso o) → smallT (lso o') → 0 ≤ k → k ≤ 1152921504606846976 → 0 ≤ heldL (lso o) k → heldL (lso o) k ≤ 1152921504606846976 → heldL (lso o') (heldL (lso o) k) = m → 0 ≤ m → Call pg 172 [.agg [eT o, eT o'], I k] [.agg [eT o, eT o'], I k] (I m)
end Go.Mch
namespace Go.Mch
def lw_wpN (a b : Nat) : F where
 np := 3
 rs := [.t 6]
 body :=
  (.seq
  (.region none [ ⟨some 3, none, .box (.t 0)⟩, ⟨some 6, none, .mv (.c (.bool false))⟩] [1, 2, 3]) (.seq (.seq
  (.region none [ ⟨some 14, none, .mv (.t 1)⟩, ⟨some 15, none, .len (.t 14)⟩, ⟨some 16, none, .bin .gtr (.t 15) (.c (.int .i64 1048576))⟩] [1, 2, 3, 16]) (.cond (.t 16) (.seq
  (.region none [ ⟨some 6, none, .mv (.c (.bool true))⟩] [6]) .ret) .skip)) (.seq
  (.region none [ ⟨some 7, none, .mv (.c (.int .i64 1048576))⟩] [1, 2, 3, 7]) (.seq
  (.region none [ ⟨some 17, none, .ld (some 2) (.t 3)⟩, ⟨some 18, none, .mv (.t 7)⟩, ⟨some 19, none, .call (.f 14) [((.t 17), .r), ((.t 18), .r)]⟩, ⟨some 7, none, .mv (.t 19)⟩] [1, 2, 3, 7]) (.seq (.seq
  (.region none [ ⟨some 20, none, .mv (.t 7)⟩, ⟨some 21, none, .bin .lss (.t 20) (.c (.int .i64 0))⟩] [1, 2, 3, 21]) (.cond (.t 21) (.seq
  (.region none [ ⟨some 6, none, .mv (.c (.bool true))⟩] [6]) .ret) .skip)) (.seq
  (.region none [ ⟨some 23, none, .ld (some 2) (.t 3)⟩, ⟨some 24, none, .call (.f 16) [((.t 23), .r)]⟩, ⟨some 25, none, .mv (.t 1)⟩, ⟨some 26, none, .call (.f 7) [((.t 25), .r)]⟩, ⟨some 27, none, .mv (.t 2)⟩, ⟨some 28, none, .call (.f a) [((.t 24), .r), ((.t 26), .r), ((.t 27), .r)]⟩, ⟨some 22, none, .mv (.t 28)⟩, ⟨some 29, none, .ext (.t 22) 0⟩, ⟨some 30, none, .ext (.t 22) 1⟩, ⟨some 8, none, .mv (.t 29)⟩, ⟨some 9, none, .mv (.t 30)⟩] [1, 2, 3, 8, 9]) (.seq
  (.region none [ ⟨some 31, none, .ld (some 2) (.t 3)⟩, ⟨some 32, none, .call (.f 16) [((.t 31), .r)]⟩, ⟨some 10, none, .alloc [(.slice none 0 0), (.slice none 0 0)]⟩, ⟨none, none, .st (some 2) (.t 10) (.t 32)⟩] [1, 2, 3, 8, 9, 10]) (.seq
  (.region none [ ⟨some 33, none, .mv (.t 1)⟩, ⟨some 34, none, .call (.f 7) [((.t 33), .r)]⟩, ⟨some 11, none, .asg (.t 34)⟩] [1, 2, 3, 8, 9, 10, 11]) (.seq
  (.region none [ ⟨some 36, none, .ld (some 2) (.t 10)⟩, ⟨some 37, none, .mv (.t 11)⟩, ⟨some 38, none, .mv (.t 2)⟩, ⟨some 39, none, .call (.f b) [((.t 36), .r), ((.t 37), .r), ((.t 38), .r)]⟩, ⟨some 35, none, .mv (.t 39)⟩, ⟨some 40, none, .ext (.t 35) 0⟩, ⟨some 41, none, .ext (.t 35) 1⟩, ⟨some 12, none, .mv (.t 40)⟩, ⟨some 13, none, .mv (.t 41)⟩] [1, 3, 8, 9, 10, 11, 12, 13]) (.seq (.seq
  (.region none [ ⟨some 42, none, .mv (.t 12)⟩, ⟨some 43, none, .mv (.t 8)⟩, ⟨some 44, none, .bin .neq (.t 42) (.t 43)⟩, ⟨some 45, none, .mv (.t 44)⟩, ⟨some 46, (some (45, false)), .mv (.t 13)⟩, ⟨some 47, (some (45, false)), .mv (.t 9)⟩, ⟨some 48, (some (45, false)), .bin .neq (.t 46) (.t 47)⟩, ⟨some 49, none, .pick (.t 45) (.c (.bool true)) (.t 48)⟩] [1, 3, 10, 11, 49]) (.cond (.t 49) (.seq
  (.region none [ ⟨some 6, none, .mv (.c (.bool false))⟩] [6]) .ret) .skip)) (.seq (.seq
  (.region (some [50, 51, 52]) [ ⟨some 50, none, .ld (some 2) (.t 10)⟩, ⟨some 51, none, .ld (some 2) (.t 3)⟩, ⟨some 52, none, .call (.f 16) [((.t 51), .r)]⟩, ⟨some 53, none, .call (.f 18) [((.t 50), .r), ((.t 52), .r)]⟩, ⟨some 54, none, .un .not (.t 53)⟩] [1, 11, 54]) (.cond (.t 54) (.seq
  (.region none [ ⟨some 6, none, .mv (.c (.bool false))⟩] [6]) .ret) .skip)) (.seq (.seq
  (.region none [ ⟨some 55, none, .mv (.t 11)⟩, ⟨some 56, none, .mv (.t 1)⟩, ⟨some 57, none, .call (.f 7) [((.t 56), .r)]⟩, ⟨some 58, none, .call (.f 9) [((.t 55), .r), ((.t 57), .r)]⟩, ⟨some 59, none, .un .not (.t 58)⟩] [59]) (.cond (.t 59) (.seq
  (.region none [ ⟨some 6, none, .mv (.c (.bool false))⟩] [6]) .ret) .skip)) (.seq
  (.region none [ ⟨some 6, none, .mv (.c (.bool true))⟩] [6]) .ret)))))))))))))
def S_sh_wpN (pg : Pg) (n : Nat) (R0 : List (List Int) → List (List Int) → List Int → Int → Int) (R1 : List (List Int) → List (List Int) → List Int → Int → Int) : Prop := ∀ (f0 s0 : List (List Int)) (w1 : List Int) (p2 : Int), fits f0 → fits s0 → w1.length ≤ 1048576 → Call pg n [sol f0 s0, ix w1, I p2] [sol f0 s0, ix w1, I p2] (.tup [I (R0 f0 s0 w1 p2), I (R1 f0 s0 w1 p2)])
def S_lw_wpN (pg : Pg) (n : Nat) : Prop := ∀ (a0 b0 : Rw (Rw Int)) (c1 : Rw Int) (p2 : Int), small a0 → small b0 → (lst c1).length ≤ 1048576 → ∃ args', Call pg n [.agg [rawT a0, rawT b0], rawI c1, I p2] args' (B true)
set_option maxRecDepth 20000 in
theorem t_lw_wpN {pg : Pg} {n a b : Nat} {R0 : List (List Int) → List (List Int) → List Int → Int → Int} {R1 : List (List Int) → List (List Int) → List Int → Int → Int} (hp : pg.fn n = some (lw_wpN a b)) (hA : S_sh_wpN pg a R0 R1) (hB : S_sh_wpN pg b R0 R1)  (h14 : S_szSol pg) (h16 : S_toSol pg) (h18 : S_eqSol pg) (h7 : S_toI pg) (h9 : S_eqI pg) : S_lw_wpN pg n := by
 intro a0 b0 c1 p2 ha0 hb0 hl1
 refine ⟨[.agg [rawT a0, rawT b0], rawI c1, I p2], Call.intro hp rfl (by simp) ?_⟩
 obtain ⟨r, hr1, hr2, hsz⟩ := h14 a0 b0 1048576 ha0 hb0 (by omega) (by omega)
 have hto0 := h16 a0 b0 ha0 hb0
 have hfa0 := fitsT_of ha0
 have hfb0 := fitsT_of hb0
 generalize hF0 : (lst a0).map lst = F0 at *
 generalize hS0 : (lst b0).map lst = S0 at *
 have hto1 := h7.at c1 hl1
 have hcl1 : ¬ ((lst c1).length : Int) > 1048576 := by omega
 generalize hwe1 : lst c1 = w1 at *
 have hw1 : w1.length ≤ 1048576 := hl1
 have hc1 := hA F0 S0 w1 p2 hfa0 hfb0 hw1
 have hc2 := hB F0 S0 w1 p2 hfa0 hfb0 hw1
 generalize R0 F0 S0 w1 p2 = o0 at *
 generalize R1 F0 S0 w1 p2 = o1 at *
 show wp _ _ (lw_wpN a b).body (post [.t 6] _ _ _) _
 simp [lw_wpN, hcl1, hwe1]
 refine callR hsz rfl rfl (fun _ => rfl) ?_
 by_cases hneg : r < 0
 · simp [hneg]
 · simp [hneg]
   refine callR hto0 rfl rfl (fun _ => by simp) ?_
   simp
   refine callR hto1 rfl rfl (fun _ => by simp) ?_
   simp
   refine callR hc1 rfl rfl (fun _ => by simp) ?_
   simp
   refine callR hto0 rfl rfl (fun _ => by simp) ?_
   simp
   refine callR hto1 rfl rfl (fun _ => by simp) ?_
   simp
   refine callR hc2 rfl rfl (fun _ => by simp) ?_
   simp
   refine callR hto0 rfl rfl (fun _ => by simp) ?_
   simp
   refine callR (h18.o F0 S0 F0 S0 hfa0 hfb0) rfl rfl (fun _ => rfl) ?_
   simp
   refine callR hto1 rfl rfl (fun _ => by simp) ?_
   simp
   refine callR (h9.o (some w1) (some w1) hw1) rfl rfl (fun _ => rfl) ?_
   simp
end Go.Mch
namespace Go.Mch

abbrev okCl : K → Nat → Prop := fun k _ => k = .old

theorem repL_of {fm : Nat → Nat} {ok : K → Nat → Prop} {w : World} {g : Nat → Value} : ∀ (ts : List T) (i : Nat), (∀ j (h : j < ts.length), rep fm ok w (g (i + j)) ts[j]) → repL fm ok w g i ts
 | [], _, _ => trivial
 | t :: ts, i, h => ⟨h 0 (by simp), repL_of ts (i + 1) fun j hj => by
     have := h (j + 1) (by simpa using hj)
     simpa [show i + 1 + j = i + (j + 1) from by omega] using this⟩

theorem run_true {P : Program} {fm : Nat → Nat} {f : Nat} {args args' : List T} (h : Pact P fm f args args' (B true)) (hno : T.noOwnL args = true) {w : World} {vs : Array Value} (hs : vs.size = args.length)
 (hrep : ∀ s t, args[s]? = some t → rep fm okCl w (vs.getD s undef) t) :
 Calls P (fm f) vs w fun e w' => e = .returned (.bool true) ∧ Keeps (fun _ => False) w w' := by
 have hA : ∀ b, (fun _ => False : Nat → Prop) b → b < w.heap.size := fun _ h => h.elim
 have hc : ∀ s t, init args s = some (.val t) → ∀ b, cnt w (vs.getD s undef) b t = 0 := by
  intro s t ht b
  obtain ⟨u, h1, h2⟩ := init_some ht
  cases h2
  exact cnt_noOwn _ _ _ _ (noOwnL_get hno h1)
 have hR : R (cx0 fm w (fun _ => False) (fun _ => False) hA) (init args) (fun s => vs.getD s undef) w := by
  refine ⟨Keeps.refl _ _, ⟨fun _ => 0, fun s t ht b => ?_⟩, fun s x hx => ?_⟩
  · rw [hc s t ht b]; simp
  · obtain ⟨t, h1, rfl⟩ := init_some hx
    refine .inl ⟨t, rfl, rep_ok (fun k b _ _ hk => ?_) t _ (fun b hb _ _ => ?_) (hrep s t h1)⟩
    · cases hk
      refine ⟨id, by simp, by simp, fun _ => ⟨?_, id⟩⟩
      rintro ⟨s', t', h3, h4⟩
      rw [hc s' t' h3 b] at h4
      omega
    · have h5 := hc s t hx b
      omega
 refine (h.2 w vs _ _ hA hs (fun _ _ hm => hm) hR).mono fun e w' hb => ?_
 cases e with
 | returned v =>
  obtain ⟨q, e', vl', _, h2, _, h4, _⟩ := hb
  refine ⟨?_, h2.keeps⟩
  have h5 := h2.rep q (.val (B true)) (by simp [Env.add])
  rcases h5 with ⟨t, h6, h7⟩ | h7
  · cases h6
    simp only [rep] at h7
    rw [← h4, h7.1]
  · simp only [arep, rep] at h7
    rw [← h4, h7.2.1]
 | _ => exact hb.elim

theorem Keeps.but {w w' : World} (h : Keeps (fun _ => False) w w') (may : MemPlace → Prop) : w.keptBut w' may := by
 refine ⟨h.os, h.output, fun i hi => ?_⟩
 rw [h.block i hi id]
 exact (World.keptBut_refl w may).2.2 i hi

theorem Keeps.at {w w' : World} (h : Keeps (fun _ => False) w w') {p : MemPlace} (hp : p.block < w.heap.size) : w.sameAt w' p := by
 cases p with
 | cell b off => exact World.cell?_of_block (a := ⟨b, off, none⟩) (h.block b hp id)
 | map b => exact h.block b hp id


section
variable {H : Type} {enc : TypeId × Value → H} {P : Program} {w : World} {base : Nat} {sp : Nat → Bool} {held : Bool} {fm : Nat → Nat}

theorem each {α : Type} {Q : Nat → α → Prop} : ∀ (n : Nat), (∀ i, i < n → ∃ z, Q i z) → ∃ zs : List α, zs.length = n ∧ ∀ i (h : i < zs.length), Q i zs[i]
 | 0, _ => ⟨[], rfl, fun i h => by simp at h⟩
 | n + 1, h => by
  obtain ⟨zs, h1, h2⟩ := each n fun i hi => h i (by omega)
  obtain ⟨z, hz⟩ := h n (by omega)
  refine ⟨zs ++ [z], by simp [h1], fun i hi => ?_⟩
  rcases Nat.lt_or_ge i zs.length with hl | hl
  · rw [List.getElem_append_left hl]; exact h2 i hl
  · have : i = n := by simp at hi; omega
    subst this
    rw [List.getElem_append_right hl]
    simp [h1, hz]

theorem open_raw {t e : TypeId} {fuel : Nat} {cs : List Value} {x : DataW H × List MemPlace} (ht : P.underlying t = some (.slice e)) (hc : P.cellsOf e = 1)
 (h : DataW.trod enc P w base (fun _ => true) held fuel t cs = some x) :
 (cs = [.slice none 0 0] ∧ x.1 = .nil) ∨ (∃ a, cs = [.slice (some a) 0 0] ∧ x.1 = .slice [] []) ∨
 ∃ b off len cap ds rest n, cs = [.slice (some ⟨b, off, none⟩) len cap] ∧ len ≤ cap ∧ x.1 = .slice ds rest ∧ ds.length = len ∧
  ∀ i, i < len → ∃ c y, w.cell? ⟨b, off + i, none⟩ = some c ∧ DataW.trod enc P w base (fun _ => true) held n e [c] = some y ∧ ds[i]? = some y.1 := by
 rcases DataW.trod_slice ht h with ⟨h1, rfl⟩ | ⟨a, len, cap, elems, rest, n, _, rfl, rfl, hb, hl, _, hlen, hel, hsp, _⟩
 · exact .inl ⟨h1, rfl⟩
 right
 obtain ⟨hr1, hr2⟩ := hsp rfl
 have cell : ∀ a' y, (w.cells? base a' (P.cellsOf e)).bind (DataW.trod enc P w base (fun _ => true) held n e) = some y → ∃ c, w.cell? a' = some c ∧ DataW.trod enc P w base (fun _ => true) held n e [c] = some y := by
  intro a' y hy
  rw [hc, Option.bind_eq_some_iff] at hy
  obtain ⟨c1, h1, h2⟩ := hy
  have h3 := (World.cells?_some h1).2.1
  match c1, h3 with
  | [c], _ => exact ⟨c, Go.ChangeShapes.cell_of_cells?_one h1, h2⟩
 by_cases hz : cap = 0
 · subst hz
   have h0 : len = 0 := by omega
   subst h0
   have h1 : elems = [] := List.eq_nil_of_length_eq_zero hlen
   have h2 : rest = [] := List.eq_nil_of_length_eq_zero (by simpa using hr1)
   subst h1 h2
   exact .inl ⟨a, rfl, rfl⟩
 right
 have hspot : a.spot = none := by
  by_cases h0 : 0 < len
  · have h1 : 0 < elems.length := by omega
    have := hel 0 h0
    rw [List.getElem?_eq_getElem h1] at this
    obtain ⟨c, hc1, _⟩ := cell _ _ this
    simp only [Nat.zero_mul] at hc1
    have := World.cell?_spot hc1
    simpa [Addr.add] using this
  · have h1 : 0 < rest.length := by omega
    have := hr2 0 (by omega)
    rw [List.getElem?_eq_getElem h1] at this
    obtain ⟨c, hc1, _⟩ := cell _ _ this
    have h2 := World.cell?_spot hc1
    simpa [Addr.add, show len = 0 from by omega] using h2
 obtain ⟨b, off, spot⟩ := a
 simp only at hspot
 subst hspot
 refine ⟨b, off, len, cap, elems.map (·.1), rest.map (·.1), n, rfl, hl, rfl, by simpa using hlen, fun i hi => ?_⟩
 have h1 : i < elems.length := by omega
 have h2 := hel i hi
 rw [List.getElem?_eq_getElem h1] at h2
 obtain ⟨c, h3, h4⟩ := cell _ _ h2
 refine ⟨c, elems[i], ?_, h4, by simp [h1]⟩
 rw [hc, Nat.mul_one] at h3
 rw [← Go.WideShapes.add_plain]; exact h3

theorem rep_slice {b off len cap : Nat} {us : List T} (hlen : us.length = len) (hl : len ≤ cap) (hno : T.noOwnL us = true) (h : ∀ i (hi : i < us.length), ∃ c, w.cell? ⟨b, off + i, none⟩ = some c ∧ rep fm okCl w c us[i]) :
 rep fm okCl w (.slice (some ⟨b, off, none⟩) len cap) (.mem .old (some 1) us) := by
 rw [rep_mem]
 refine ⟨⟨⟨len, rfl, by simp [hlen], by simp, hl⟩, fun i hi => ?_⟩, fun _ => rfl, by simp, fun _ => hno, ?_⟩
 · obtain ⟨c, hc, _⟩ := h i hi
   simp only [blk, ofs]
   rw [hc]; rfl
 · refine repL_of us 0 fun j hj => ?_
   obtain ⟨c, hc, hr⟩ := h j hj
   simp only [kid, Nat.zero_add]
   rw [hc]
   exact hr

structure Bulk (m : DataW H → Nat) : Prop where
 slice : ∀ es rest, es.length ≤ m (.slice es rest)
 elem : ∀ es rest d, d ∈ es → m d ≤ m (.slice es rest)
 part : ∀ ps d, d ∈ ps → m d ≤ m (.agg ps)

theorem open_rawI {m : DataW H → Nat} (hm : Bulk m) {t e : TypeId} {fuel : Nat} {cs : List Value} {x : DataW H × List MemPlace} (ht : P.underlying t = some (.slice e)) (he : P.underlying e = some (.int .i64)) (hc : P.cellsOf e = 1)
 (h : DataW.trod enc P w base (fun _ => true) held fuel t cs = some x) : ∃ v o, cs = [v] ∧ rep fm okCl w v (rawI o) ∧ (lst o).length ≤ m x.1 ∧ ∀ n ∈ lst o, (Lit.int .i64 n).wf = true := by
 rcases open_raw ht hc h with ⟨rfl, hx⟩ | ⟨a, rfl, hx⟩ | ⟨b, off, len, cap, ds, rest, n, rfl, hl, hx, hlen, hel⟩
 · exact ⟨_, .no, rfl, ⟨rfl, rfl⟩, by simp, by simp⟩
 · exact ⟨_, .odd a, rfl, ⟨rfl, rfl⟩, by simp, by simp⟩
 · obtain ⟨zs, h1, h2⟩ := each (Q := fun i (z : Int) => w.cell? ⟨b, off + i, none⟩ = some (.int .i64 z) ∧ (Lit.int .i64 z).wf = true) len (fun i hi => by
    obtain ⟨c, y, h3, h4, _⟩ := hel i hi
    obtain ⟨z, h5, _, h6⟩ := DataW.trod_int he h4
    simp only [List.cons.injEq, and_true] at h5
    exact ⟨z, by rw [h3, h5], h6⟩)
   refine ⟨_, .of zs, rfl, rep_slice (by simp [h1]) hl (by simp) (fun i hi => ?_), ?_, fun n hn => ?_⟩
   · have hi' : i < zs.length := by simpa using hi
     exact ⟨_, (h2 i hi').1, by simp [rep, scal]⟩
   · rw [hx]
     exact Nat.le_trans (by simp [h1, hlen]) (hm.slice ds rest)
   · obtain ⟨i, hi, rfl⟩ := List.getElem_of_mem hn
     exact (h2 i hi).2

theorem open_rawT {m : DataW H → Nat} (hm : Bulk m) {t r e : TypeId} {fuel : Nat} {cs : List Value} {x : DataW H × List MemPlace} (ht : P.underlying t = some (.slice r)) (hr : P.underlying r = some (.slice e)) (he : P.underlying e = some (.int .i64)) (hcr : P.cellsOf r = 1) (hc : P.cellsOf e = 1)
 (h : DataW.trod enc P w base (fun _ => true) held fuel t cs = some x) : ∃ v o, cs = [v] ∧ rep fm okCl w v (rawT o) ∧ (lst o).length ≤ m x.1 ∧ ∀ q ∈ lst o, (lst q).length ≤ m x.1 ∧ ∀ n ∈ lst q, (Lit.int .i64 n).wf = true := by
 rcases open_raw ht hcr h with ⟨rfl, hx⟩ | ⟨a, rfl, hx⟩ | ⟨b, off, len, cap, ds, rest, n, rfl, hl, hx, hlen, hel⟩
 · exact ⟨_, .no, rfl, ⟨rfl, rfl⟩, by simp, by simp⟩
 · exact ⟨_, .odd a, rfl, ⟨rfl, rfl⟩, by simp, by simp⟩
 · obtain ⟨zs, h1, h2⟩ := each (Q := fun i (z : Rw Int) => ∃ c, w.cell? ⟨b, off + i, none⟩ = some c ∧ rep fm okCl w c (rawI z) ∧ (lst z).length ≤ m x.1 ∧ ∀ n ∈ lst z, (Lit.int .i64 n).wf = true) len (fun i hi => by
    obtain ⟨c, y, h3, h4, h5⟩ := hel i hi
    obtain ⟨v, o, h6, h7, h8, h9⟩ := open_rawI (fm := fm) hm hr he hc h4
    simp only [List.cons.injEq, and_true] at h6
    refine ⟨o, c, h3, h6 ▸ h7, Nat.le_trans h8 ?_, h9⟩
    rw [hx]
    exact hm.elem ds rest _ (List.mem_of_getElem? h5))
   refine ⟨_, .of zs, rfl, rep_slice (by simp [h1]) hl (by simp) (fun i hi => ?_), ?_, fun n hn => ?_⟩
   · have hi' : i < zs.length := by simpa using hi
     obtain ⟨c, h3, h4, _⟩ := h2 i hi'
     exact ⟨c, h3, by simpa using h4⟩
   · rw [hx]
     exact Nat.le_trans (by simp [h1, hlen]) (hm.slice ds rest)
   · obtain ⟨i, hi, rfl⟩ := List.getElem_of_mem hn
     obtain ⟨c, _, _, h3⟩ := h2 i hi
     exact h3

theorem open_argI {m : DataW H → Nat} (hm : Bulk m) {rc : Reach} {b0 : Nat} {t e : TypeId} {v : Value} {d : DataW H} {ps : List MemPlace} (ht : P.underlying t = some (.slice e)) (he : P.underlying e = some (.int .i64)) (hc : P.cellsOf e = 1)
 (hval : Value.okWide P w rc b0 t v) (h : DataW.Trod enc P w base (fun _ => true) held t v d ps) : ∃ a, rep fm okCl w v (rawI a) ∧ (lst a).length ≤ m d := by
 obtain ⟨ad, len, cap, rfl⟩ := Go.WideShapes.okWide_slice ht hval
 obtain ⟨fuel, h⟩ := h
 obtain ⟨v0, a, e1, e2, e3, _⟩ := open_rawI (fm := fm) hm ht he hc h
 simp only [Value.cells, List.cons.injEq, and_true] at e1
 subst e1
 exact ⟨a, e2, e3⟩
theorem open_argN {rc : Reach} {b0 : Nat} {t : TypeId} {v : Value} {d : DataW H} {ps : List MemPlace} (ht : P.underlying t = some (.int .i64)) (hval : Value.okWide P w rc b0 t v)
 (h : DataW.Trod enc P w base (fun _ => true) held t v d ps) : ∃ n, rep fm okCl w v (I n) ∧ (Lit.int .i64 n).wf = true := by
 obtain ⟨n, rfl, _, _, hw⟩ := Go.ChangeShapes.open_int ht hval h
 exact ⟨n, ⟨rfl, rfl⟩, hw⟩

theorem open_sol {m : DataW H → Nat} (hm : Bulk m) {rc : Reach} {b0 : Nat} {t r e : TypeId} {f0 f1 : Field} {v : Value} {d : DataW H} {ps : List MemPlace} (ht : P.underlying t = some (.struct #[f0, f1])) (h0 : P.underlying f0.type = some (.slice r)) (h1 : P.underlying f1.type = some (.slice r)) (hr : P.underlying r = some (.slice e)) (he : P.underlying e = some (.int .i64))
 (hn : P.cellsOf t = 2) (hn0 : P.cellsOf f0.type = 1) (hn1 : P.cellsOf f1.type = 1) (hcr : P.cellsOf r = 1) (hc : P.cellsOf e = 1) (hof : f0.offset = 0) (hof1 : f1.offset = 1)
 (hval : Value.okWide P w rc b0 t v) (h : DataW.Trod enc P w base (fun _ => true) held t v d ps) :
 ∃ a b, rep fm okCl w v (.agg [rawT a, rawT b]) ∧ ((lst a).length ≤ m d ∧ ∀ q ∈ lst a, (lst q).length ≤ m d ∧ ∀ n ∈ lst q, (Lit.int .i64 n).wf = true) ∧ ((lst b).length ≤ m d ∧ ∀ q ∈ lst b, (lst q).length ≤ m d ∧ ∀ n ∈ lst q, (Lit.int .i64 n).wf = true) := by
 obtain ⟨cs, rfl, hs⟩ := Go.WideShapes.okWide_struct ht hval
 obtain ⟨fuel, h⟩ := h
 obtain ⟨y0, y1, n, hx, hl, g0, g1⟩ := Go.ChangeShapes.trod_struct2 ht h
 simp only [Prod.mk.injEq] at hx
 obtain ⟨rfl, rfl⟩ := hx
 rw [hn] at hs
 obtain ⟨c0, c1, rfl⟩ : ∃ c0 c1, cs = #[c0, c1] := by
  match cs, hs with
  | ⟨[c0, c1]⟩, _ => exact ⟨c0, c1, rfl⟩
 simp only [Value.cells, hof, hn0, List.drop_zero, List.take_succ_cons, List.take_zero] at g0
 simp only [Value.cells, hof1, hn1, List.drop_succ_cons, List.drop_zero, List.take_succ_cons, List.take_zero] at g1
 obtain ⟨v0, a, e1, e2, e3, e4⟩ := open_rawT (fm := fm) hm h0 hr he hcr hc g0
 obtain ⟨v1, b, i1, i2, i3, i4⟩ := open_rawT (fm := fm) hm h1 hr he hcr hc g1
 simp only [List.cons.injEq, and_true] at e1 i1
 subst e1 i1
 have hp : m y0.1 ≤ m (.agg [y0.1, y1.1]) := hm.part _ _ (by simp)
 have hp1 : m y1.1 ≤ m (.agg [y0.1, y1.1]) := hm.part _ _ (by simp)
 exact ⟨a, b, ⟨⟨_, rfl, rfl⟩, by simpa [kid] using e2, by simpa [kid] using i2, trivial⟩, ⟨by omega, fun q hq => ⟨Nat.le_trans (e4 q hq).1 hp, (e4 q hq).2⟩⟩, ⟨by omega, fun q hq => ⟨Nat.le_trans (i4 q hq).1 hp1, (i4 q hq).2⟩⟩⟩


theorem all_stays {W W' : World} {sp' : Nat → Bool} (hl : laidOutB P = true) : ∀ {ts : List TypeId} {vs : List Value} {ds : List (DataW H)} {ps : List MemPlace}, (∀ t ∈ ts, P.readableRec t = true ∧ t < P.types.size) →
 DataW.TrodAll enc P W 0 (fun _ => true) true ts vs ds ps → (∀ p ∈ ps, W.sameAt W' p) → (∀ p ∈ ps, sp' p.block = true) → DataW.TrodAll enc P W' 0 sp' true ts vs ds ps
 | [], vs, ds, ps, _, h, _, _ => by
  obtain ⟨rfl, rfl, rfl⟩ := Go.ChangeShapes.trodAll_nil h
  rfl
 | t :: ts, vs, ds, ps, ht, h, h1, h2 => by
  obtain ⟨v, vs', d, ds', p, q, rfl, rfl, rfl, h3, h4⟩ := Go.ChangeShapes.trodAll_cons h
  exact ⟨p, q, Go.WideElems.Trod_stays hl (ht t (by simp)).1 (ht t (by simp)).2 h3 (fun x hx => h1 x (by simp [hx])) (fun x hx => h2 x (by simp [hx])),
   all_stays hl (fun t' h' => ht t' (by simp [h'])) h4 (fun x hx => h1 x (by simp [hx])) (fun x hx => h2 x (by simp [hx])), rfl⟩

theorem post_true {f : Func} {s : ChangeSpec} {W W' : World} {args : Array Value} {ds gs : List (DataW H)} {before : List MemPlace} {rt : TypeId} (hW : DataW.Whole enc P f.params.toList s.vars false W args.toList ds gs before) (hK : Keeps (fun _ => False) W W')
 (hv : s.vars = []) (hres : f.resultTypes = #[rt]) (hrt : P.underlying rt = some .bool) (hl : laidOutB P = true) (hr : ∀ t ∈ f.params.toList, P.readableRec t = true ∧ t < P.types.size)
 (hfn : s.fn H ds = { results := [.lit (.bool true)], args := ds }) : s.post enc P f false true false false W args (.bool true) W' := by
 have hlt := hW.lt
 have hW' := hW
 obtain ⟨p, q, hA, hV, rfl, _, _⟩ := hW
 rw [hv] at hV
 have hg : gs = [] ∧ q = [] := by
  cases gs with
  | nil => exact ⟨rfl, by simpa [DataW.TrodVars] using hV⟩
  | cons d ds => simp [DataW.TrodVars] at hV
 obtain ⟨rfl, rfl⟩ := hg
 simp only [List.append_nil] at hlt
 refine ⟨ds, [], p ++ [], [], p, [], hW', ?_, ?_, ?_, hK.but _, by simp⟩
 · rw [List.append_nil, hfn, hres]
   refine ⟨[], [], ⟨1, ?_⟩, rfl, rfl⟩
   simp [DataW.trod, hrt, Value.cells]
 · rw [List.append_nil, hfn]
   exact all_stays hl hr hA (fun x hx => hK.at (hlt x hx)) (fun x hx => by simpa using hlt x hx)
 · rw [List.append_nil, hfn, hv]
   rfl
end
end Go.Mch
namespace Go.Mch

def act (p : List Int) (x : Int) : Int := p.getD x.toNat 0

end Go.Mch
namespace Go.Mch

def uniqs (xs : List Int) : List Int := xs.foldl (fun s x => if x ∈ s then s else s ++ [x]) []
def renum (xs : List Int) : List Int := (List.range xs.length).map fun k => ixOf (uniqs (xs.take (k + 1))) (xs.getD k 0)
end Go.Mch
namespace Go.Mch

def greatest (xs : List Int) : Int := xs.foldl (fun a x => if a ≤ x then x + 1 else a) 0
def eqv (a b : List (List Int)) (i j : Nat) : Prop := a.getD i [] = a.getD j [] ∧ b.getD i [] = b.getD j []
instance (a b : List (List Int)) (i j : Nat) : Decidable (eqv a b i j) := by unfold eqv; infer_instance
def lab (a b : List (List Int)) (i : Nat) : Nat := ((List.range i).find? fun j => decide (eqv a b i j)).getD i
def classes (f s : List (List Int)) : List Int := renum ((List.range f.length).map fun i => (lab f (turnL s) i : Int))
def idL (n : Nat) : List Int := (List.range n).map fun i : Nat => (i : Int)

end Go.Mch
namespace Go.Mch

structure Nd (n : Nat) (σ τ : Nat → Nat → Nat) : Prop where
 rs : ∀ x y, x < n → y < n → σ x y < n
 rt : ∀ x y, x < n → y < n → τ x y < n
 is : ∀ x y y', x < n → y < n → y' < n → σ x y = σ x y' → y = y'
 it : ∀ x y y', x < n → y < n → y' < n → τ x y = τ x y' → y = y'
 ss : ∀ x w, x < n → w < n → ∃ y, y < n ∧ σ x y = w
 st : ∀ x w, x < n → w < n → ∃ y, y < n ∧ τ x y = w
 e1 : ∀ x y z, x < n → y < n → z < n → σ (σ x y) (σ (τ y x) z) = σ x (σ y z)
 e2 : ∀ x y z, x < n → y < n → z < n → τ (σ (τ y x) z) (σ x y) = σ (τ (σ y z) x) (τ z y)
 e3 : ∀ x y z, x < n → y < n → z < n → τ z (τ y x) = τ (τ z y) (τ (σ y z) x)

def Alk (n : Nat) (σ τ : Nat → Nat → Nat) (x x' : Nat) : Prop := ∀ y, y < n → σ x y = σ x' y ∧ τ x y = τ x' y
structure Quo (n m : Nat) (σ τ : Nat → Nat → Nat) (c d : Nat → Nat) : Prop where
 cm : ∀ x, x < n → c x < m
 dn : ∀ i, i < m → d i < n
 cd : ∀ i, i < m → c (d i) = i
 ca : ∀ x x', x < n → x' < n → (c x = c x' ↔ Alk n σ τ x x')
end Go.Mch
namespace Go.Mch

def plK (xs : List Int) (P : Int → Bool) (k : Nat) : List Int := ((List.range k).filter fun i => P (xs.getD i 0)).map fun i : Nat => (i : Int)
def pl (xs : List Int) (P : Int → Bool) : List Int := plK xs P xs.length
end Go.Mch
namespace Go.Mch

def σN (f : List (List Int)) (x y : Nat) : Nat := (v2 f x y).toNat
def τN (s : List (List Int)) (y x : Nat) : Nat := (v2 s x y).toNat


end Go.Mch
namespace Go.Mch

def cmpI (a b : Int) : Int := if a < b then -1 else if b < a then 1 else 0
def cmpW {α : Type} (c : α → α → Int) : List α → List α → Int
 | [], [] => 0
 | [], _ :: _ => -1
 | _ :: _, [] => 1
 | a :: as, b :: bs => if c a b ≠ 0 then c a b else cmpW c as bs
abbrev cmpL : List Int → List Int → Int := cmpW cmpI
end Go.Mch
namespace Go.Mch

def atV (k : Env → Prop) (e : Env) (d : Option Nat) (n : Int) : V → Prop
 | .val (.sc (.string s)) => bindP (if 0 ≤ n then s[n.toNat]? else none) fun b => k (e.setD d (.val (.sc (.int .u8 b.toNat))))
 | _ => False
section
variable (G : Rl) (m : K) (d : Option Nat) (k : Env → Prop) (e : Env)
@[simp ↓, simp] theorem asgV_same (r : Nat) : asgV e d k (.same r) = bindP (e.take (.same r)) fun y => k (y.2.setD d (.val y.1)) := rfl
@[simp ↓, simp] theorem atV_str (n : Int) (s : ByteArray) : atV k e d n (.val (.sc (.string s))) = bindP (if 0 ≤ n then s[n.toNat]? else none) fun b => k (e.setD d (.val (.sc (.int .u8 b.toNat)))) := rfl
end

def Srt (X : List (List Int)) : Prop := X.Pairwise fun a b => cmpL a b < 0
end Go.Mch
namespace Go.Mch

def gt (X : List (List Int)) (k : Nat) : List Int := X.getD k []
def tau (i j k : Nat) : Nat := if k = j then i else if k = i then j else k
def swL (X : List (List Int)) (i j : Nat) : List (List Int) := (X.set i (gt X j)).set j (gt X i)
def Dj (X : List (List Int)) : Prop := ∀ k k', k < X.length → k' < X.length → gt X k = gt X k' → k = k'
def bef (x y : List Int) : Prop := cmpL x y < 0
instance (x y : List Int) : Decidable (bef x y) := by unfold bef; infer_instance
structure PI (X Y : List (List Int)) (a b : Nat) : Prop where
 len : Y.length = X.length
 out : ∀ k, k < a ∨ b ≤ k → gt Y k = gt X k
 fwd : ∀ k, a ≤ k → k < b → ∃ k', a ≤ k' ∧ k' < b ∧ gt Y k = gt X k'
 bwd : ∀ k, a ≤ k → k < b → ∃ k', a ≤ k' ∧ k' < b ∧ gt X k = gt Y k'
 dj : Dj Y
def SI (X : List (List Int)) (a b : Nat) : Prop := ∀ p q, a ≤ p → p < q → q < b → bef (gt X p) (gt X q)
def SJ (X : List (List Int)) (a j i : Nat) : Prop := ∀ p q, a ≤ p → p < q → q < i → q ≠ j → bef (gt X p) (gt X q)
end Go.Mch
namespace Go.Mch

def Sm (X : List (List Int)) : Prop := X.length ≤ 1000000 ∧ ∀ k, (gt X k).length ≤ 1048576
def ExY (P : List (List Int) → Prop) : Prop := ∃ Q, P Q

end Go.Mch
namespace Go.Mch

def chd (c p : Nat) : Prop := c = 2 * p + 1 ∨ c = 2 * p + 2
def Hp (X : List (List Int)) (f lo hi : Nat) : Prop := ∀ p c, lo ≤ p → chd c p → c < hi → ¬ bef (gt X (f + p)) (gt X (f + c))
def HpR (X : List (List Int)) (f lo hi r : Nat) : Prop := (∀ p c, lo ≤ p → p ≠ r → chd c p → c < hi → ¬ bef (gt X (f + p)) (gt X (f + c))) ∧ ∀ q c, lo ≤ q → chd r q → chd c r → c < hi → ¬ bef (gt X (f + q)) (gt X (f + c))
def Big (X : List (List Int)) (f hi r d : Nat) : Prop := chd d r ∧ d < hi ∧ ∀ c, chd c r → c < hi → ¬ bef (gt X (f + d)) (gt X (f + c))

end Go.Mch
namespace Go.Mch

def boxT : Option T → Bool
 | some (.mem _ none _) => true
 | _ => false
@[simp] theorem boxT_mem (k : K) (ts : List T) : boxT (some (.mem k none ts)) = true := rfl
@[simp] theorem hole_pref {e : Env} (r : Nat) (p : List Nat) (off : Nat) : e.hole (.pref r p off) = e.isHole r p := rfl
end Go.Mch
namespace Go.Mch

structure PV (X Y : List (List Int)) (a b i j : Nat) : Prop where
 pi : PI X Y a b
 l : ∀ k, a < k → k < i → bef (gt Y k) (gt Y a)
 r : ∀ k, j < k → k < b → ¬ bef (gt Y k) (gt Y a)
 h1 : a < i
 h2 : i ≤ j + 1
 h3 : j < b
def PtQ (X Y : List (List Int)) (a b m : Nat) : Prop := PI X Y a b ∧ a ≤ m ∧ m < b ∧ (∀ k, a ≤ k → k < m → bef (gt Y k) (gt Y m)) ∧ ∀ k, m < k → k < b → bef (gt Y m) (gt Y k)
section
variable {X Y : List (List Int)} {a b i j : Nat}
end
end Go.Mch
namespace Go.Mch

def Lb (X : List (List Int)) (a b : Nat) : Prop := a = 0 ∨ ∀ k, a ≤ k → k < b → bef (gt X (a - 1)) (gt X k)
end Go.Mch
namespace Go.Mch

def Cut (Y : List (List Int)) (m a b : Nat) : Prop := ∀ p q, a ≤ p → p < m → m ≤ q → q < b → bef (gt Y p) (gt Y q)
section
variable {Y Z : List (List Int)} {m a b c d u v : Nat}
structure Fr (Y : List (List Int)) (a c d b : Nat) : Prop where
 lo : SI Y a c
 hi : SI Y d b
 cl : Cut Y c a b
 ch : Cut Y d a b
 h1 : a ≤ c
 h2 : c ≤ d
 h3 : d ≤ b
end

end Go.Mch
namespace Go.Mch

structure At (X : List (List Int)) (w : List Int) (i : Nat) : Prop where
 le : i ≤ X.length
 lo : ∀ j (hj : j < X.length), j < i → cmpL X[j] w < 0
 hi : ∀ j (hj : j < X.length), i ≤ j → ¬ cmpL X[j] w < 0
end Go.Mch
namespace Go.Mch

def GR (ms : List (List Int)) (n : Nat) (x : List Int) : Prop := ∀ S : List Int → Prop, S (idL n) → (∀ y, S y → ∀ p ∈ ms, S (thenL y p)) → S x
structure Grp (ms : List (List Int)) (n : Nat) (X : List (List Int)) : Prop where
 srt : Srt X
 mem : ∀ x, x ∈ X ↔ GR ms n x
end Go.Mch
namespace Go.Mch

section
variable (mv : List Int → Nat → List Int) (m : Nat) (w : List Int)
def TR (x : List Int) : Prop := ∀ C : List Int → Prop, C w → (∀ y, C y → ∀ i, i < m → C (mv y i)) → C x
structure TF (Q : List (List Int)) : Prop where
 w0 : w ∈ Q
 nd : Q.Nodup
 gr : ∀ x ∈ Q, TR mv m w x
structure TB (Q : List (List Int)) (a k : Nat) : Prop where
 f : TF mv m w Q
 cl : ∀ i (h : i < Q.length), i < a → ∀ p, p < m → mv Q[i] p ∈ Q
 cur : ∀ h : a < Q.length, ∀ p, p < k → mv Q[a] p ∈ Q
variable {mv m w}
variable (mv m w)
variable {mv m w}
end
end Go.Mch
namespace Go.Mch

def ExT (P : List (List Int) → Prop) : Prop := ∃ Q, P Q
structure BF (ms : List (List Int)) (n : Nat) (Q : List (List Int)) (i k : Nat) : Prop where
 nd : Q.Nodup
 gr : ∀ x ∈ Q, GR ms n x
 id : idL n ∈ Q
 dn : ∀ j (hj : j < Q.length), j < i → ∀ p ∈ ms, thenL Q[j] p ∈ Q
 dk : ∀ hi : i < Q.length, ∀ p ∈ ms.take k, thenL Q[i] p ∈ Q
 le : Q.length ≤ 1000
end Go.Mch
namespace Go.Mch

def rowsF (X : List (List Int)) : List T := X.map fun xs => .mem .fresh (some 1) (xs.map I)
def Rds (ts : List T) (X : List (List Int)) : Prop := T.eryL .old ts = tbL X ∧ T.noOwnL ts = true ∧ T.lendL ts = tbL X ∧ ts.length = X.length
def ExTT (P : List (List Int) → List (List Int) → List T → Prop) : Prop := ∃ F S ts, P F S ts

end Go.Mch
namespace Go.Mch

def pre (f s : List (List Int)) (u v : Nat) (x y : Nat) : Prop := x < f.length ∧ y < f.length ∧ σN f x y = u ∧ τN s y x = v

end Go.Mch
namespace Go.Mch

def isWd (n : Int) (w : List Int) : Prop := inR 0 (n - 1) w ∧ w.length ≤ 8
instance (n : Int) (w : List Int) : Decidable (isWd n w) := by unfold isWd; infer_instance
theorem wd_in {n : Nat} {w : List Int} (h : isWd n w) : inN n w := fun x hx => by
 have := h.1 x hx
 omega
open Classical in
noncomputable def wdC (f s : List (List Int)) (us : List (List Int)) : Int := if isSol f s then (if ∀ u ∈ us, isWd f.length u then 0 else 2) else 1

def S_word (pg : Pg) : Prop := ∀ (n : Int) (w : List Int), w.length ≤ 1048576 → 0 ≤ n → n ≤ 1048576 → Call pg 53 [I n, ix w] [I n, ix w] (B (decide (isWd n w)))
theorem t_l09Word {pg : Pg} (hp : pg.fn 53 = some c_spec_l09Word) (h30 : S_in pg 30) : S_word pg := by
 intro n xs hl hn hn2
 refine Call.intro hp rfl (by simp) ?_
 show wp _ _ c_spec_l09Word.body (post [.t 4] _ _ _) _
 simp [c_spec_l09Word]
 refine wpLoop_count (fun k e => (∀ i (h : i < xs.length), i < k → 0 ≤ xs[i] ∧ xs[i] ≤ n - 1) ∧ e = fr [(0, some (.val (I n))), (1, some (.val (ix xs))), (5, some (.val (I k)))]) xs.length ?_ ?_ 0 _ (by omega) ?_
 · rintro k e hk ⟨h1, rfl⟩
   simp [hk]
   refine ⟨by omega, ?_⟩
   refine callR (h30 _ _ _) rfl rfl (fun _ => rfl) ?_
   by_cases hm : 0 ≤ xs[k] ∧ xs[k] ≤ n - 1
   · simp [hm]
     refine ⟨by omega, fun i hi hik => ?_⟩
     rcases Nat.lt_or_ge i k with h2 | h2
     · exact h1 i hi h2
     · have : i = k := by omega
       subst this; exact hm
   · have : ¬ isWd n xs := fun h => hm (h.1 _ (List.getElem_mem hk))
     simp [hm, this]
 · rintro e ⟨h1, rfl⟩
   have : inR 0 (n - 1) xs := fun x hx => by
    obtain ⟨i, hi, rfl⟩ := List.getElem_of_mem hx
    exact h1 i hi hi
   simp [isWd, this]
   omega
 · simp

def S_code37 (pg : Pg) : Prop := ∀ (f s : List (List Int)) (u v : List Int), fits f → fits s → u.length ≤ 1048576 → v.length ≤ 1048576 → Call pg 37 [sol f s, ix u, ix v] [sol f s, ix u, ix v] (I (wdC f s [u, v]))
theorem t_l09Code {pg : Pg} (hp : pg.fn 37 = some c_spec_l09Code) (h41 : S_isSol pg 41) (h53 : S_word pg) : S_code37 pg := by
 intro f s u v hf hs hu hv
 refine Call.intro hp rfl (by simp) ?_
 show wp _ _ c_spec_l09Code.body (post [.t 6] _ _ _) _
 simp [c_spec_l09Code]
 refine callR (h41 f s hf hs) rfl rfl (fun _ => rfl) ?_
 by_cases h : isSol f s
 · simp [dec_true h]
   have hpm := PM.of h.1
   have h12 := hpm.small
   refine callR (h53 f.length u hu (by omega) (by omega)) rfl rfl (fun _ => rfl) ?_
   by_cases h1 : isWd f.length u
   · simp [h1]
     refine callR (h53 f.length v hv (by omega) (by omega)) rfl rfl (fun _ => rfl) ?_
     by_cases h2 : isWd f.length v <;> simp [h2, wdC, h, h1]
   · simp [h1, undefV, wdC, h]
 · simp [wdC, h]

def S_chk38 (pg : Pg) : Prop := ∀ (f s : List (List Int)) (us : List (List Int)), fits f → fits s → us.length ≤ 1000 → (∀ u ∈ us, u.length ≤ 1048576) → Call pg 38 [sol f s, tb us] [sol f s, tb us] (I (wdC f s us))
theorem t_checkWords {pg : Pg} (hp : pg.fn 38 = some c_impl_checkWords) (h42 : S_isSol pg 42) (h39 : S_areElements pg) : S_chk38 pg := by
 intro f s us hf hs hl hus
 refine Call.intro hp rfl (by simp) ?_
 show wp _ _ c_impl_checkWords.body (post [.t 4] _ _ _) _
 simp [c_impl_checkWords]
 refine callR (h42 f s hf hs) rfl rfl (fun _ => rfl) ?_
 by_cases h : isSol f s
 · simp [dec_true h]
   have hpm := PM.of h.1
   have h12 := hpm.small
   refine wpLoop_count (fun k e => (∀ i (h : i < us.length), i < k → isWd f.length us[i]) ∧ e = fr [(2, some (.val (.mem .own none [tb f, tb s]))), (10, some (.val (tb us))), (11, some (.val (I us.length))), (12, some (.val (I k)))]) us.length ?_ ?_ 0 _ (by omega) ?_
   · rintro k e hk ⟨h1, rfl⟩
     have hw : ¬ isWd f.length us[k] → wdC f s us = 2 := fun hh => by
      have : ¬ ∀ u ∈ us, isWd f.length u := fun ha => hh (ha _ (List.getElem_mem hk))
      simp only [wdC, if_pos h, if_neg this]
     have hlk := hus _ (List.getElem_mem hk)
     simp [hk]
     by_cases h8 : us[k].length ≤ 8
     · have h8' : ¬ (8 : Int) < us[k].length := by omega
       simp [h8']
       refine callR (h39 f.length us[k] hlk (by omega) (by omega)) rfl rfl (fun _ => rfl) ?_
       by_cases hm : inR 0 ((f.length : Int) - 1) us[k]
       · simp [hm]
         refine ⟨by omega, fun i hi hik => ?_⟩
         rcases Nat.lt_or_ge i k with h2 | h2
         · exact h1 i hi h2
         · have : i = k := by omega
           subst this; exact ⟨hm, h8⟩
       · simp [hm, hw fun hh => hm hh.1]
     · have h8' : (8 : Int) < us[k].length := by omega
       simp [h8', undefV, hw fun hh => h8 hh.2]
   · rintro e ⟨h1, rfl⟩
     have : ∀ u ∈ us, isWd f.length u := fun x hx => by
      obtain ⟨i, hi, rfl⟩ := List.getElem_of_mem hx
      exact h1 i hi hi
     have e0 : wdC f s us = 0 := by simp only [wdC, if_pos h, if_pos this]
     simp [e0]
   · simp
 · simp [wdC, h]



end Go.Mch
namespace Go.Mch



theorem wdC_1 {f s : List (List Int)} (h : ¬ isSol f s) (us : List (List Int)) : wdC f s us = 1 := by simp only [wdC, if_neg h]
theorem wdC_2 {f s : List (List Int)} (h : isSol f s) {us : List (List Int)} (h2 : ¬ ∀ u ∈ us, isWd f.length u) : wdC f s us = 2 := by simp only [wdC, if_pos h, if_neg h2]
theorem wdC_0 {f s : List (List Int)} (h : isSol f s) {us : List (List Int)} (h2 : ∀ u ∈ us, isWd f.length u) : wdC f s us = 0 := by simp only [wdC, if_pos h, if_pos h2]
end Go.Mch
namespace Go.Mch


def hd0 (X : List (List Int)) : List Int := X.getD 0 []
end Go.Mch
namespace Go.Mch

def acW (f : List (List Int)) (w : List Int) (x : Int) : Int := w.foldr (fun l x => g2 f l x) x
open Classical in
noncomputable def awC (f s : List (List Int)) (w : List Int) (x : Int) : Int := if isSol f s then (if isWd f.length w ∧ (0 ≤ x ∧ x ≤ (f.length : Int) - 1) then 0 else 2) else 1
noncomputable def awR (f s : List (List Int)) (w : List Int) (x : Int) : Int := if awC f s w x = 0 then acW f w x else 0
def S_aw (pg : Pg) (n : Nat) : Prop := ∀ (f s : List (List Int)) (w : List Int) (x : Int), fits f → fits s → w.length ≤ 1048576 → Call pg n [sol f s, ix w, I x] [sol f s, ix w, I x] (.tup [I (awR f s w x), I (awC f s w x)])

theorem acW_in {f s : List (List Int)} (h : PM f s) {w : List Int} {x : Int} (hx : 0 ≤ x ∧ x < f.length) : 0 ≤ acW f w x ∧ acW f w x < f.length := by
 induction w with
 | nil => exact hx
 | cons l w ih => exact h.gF _ _

theorem t_aw_spec {pg : Pg} (hp : pg.fn 15 = some c_spec_ActWord) (h37 : S_code37 pg) (h30 : S_in pg 30) : S_aw pg 15 := by
 intro f s w x hf hs hw
 refine Call.intro hp rfl (by simp) ?_
 show wp _ _ c_spec_ActWord.body (post [.t 6, .t 7] _ _ _) _
 simp [c_spec_ActWord]
 refine callR (h37 f s w w hf hs hw hw) rfl rfl (fun _ => rfl) ?_
 by_cases h : isSol f s
 · have hpm := PM.of h.1
   have h12 := hpm.small
   by_cases h1 : isWd f.length w
   · have e0 := wdC_0 h (us := [w, w]) (by simp [h1])
     simp [e0]
     refine ⟨by omega, ?_⟩
     refine callR (h30 _ _ _) rfl rfl (fun _ => rfl) ?_
     by_cases hx : 0 ≤ x ∧ x ≤ (f.length : Int) - 1
     · have e1 : awC f s w x = 0 := by simp only [awC, if_pos h, if_pos (And.intro h1 hx)]
       have e2 : awR f s w x = acW f w x := by simp only [awR, if_pos e1]
       simp [hx, e1, e2]
       refine ⟨by omega, ?_⟩
       have hwi := wd_in h1
       have hl8 := h1.2
       have hy : ∀ k, 0 ≤ acW f (w.drop (w.length - k)) x ∧ acW f (w.drop (w.length - k)) x < f.length := fun k => acW_in hpm (by omega)
       refine wpLoop_count (fun k e => e = fr [(1, some (.val (ix w))), (2, some (.val (I (acW f (w.drop (w.length - k)) x)))), (3, some (.val (.mem .own none [tb f, tb s]))), (9, some (.val (I ((w.length : Int) - 1 - k))))]) w.length ?_ ?_ 0 _ (by omega) ?_
       · rintro k e hk rfl
         have hi : w.length - 1 - k < w.length := by omega
         have hd : w.drop (w.length - (k + 1)) = w[w.length - 1 - k] :: w.drop (w.length - k) := by
          rw [show w.length - (k + 1) = w.length - 1 - k from by omega, List.drop_eq_getElem_cons hi, show w.length - 1 - k + 1 = w.length - k from by omega]
         have hm := hwi _ (List.getElem_mem hi)
         have hyk := hy k
         have e3 : ((w.length : Int) - 1 - k).toNat = w.length - 1 - k := by omega
         have b1 : (k : Int) ≤ (w.length : Int) - 1 := by omega
         have b2 : (w.length : Int) - 1 - k < w.length := by omega
         have t1 : (w[w.length - 1 - k]).toNat < f.length := by omega
         have t2 : (acW f (w.drop (w.length - k)) x).toNat < f.length := by omega
         have fr' := fun x hx => hpm.tf.row (x := x) hx
         simp [b1, b2, e3, hm, t1, t2, hyk, hi, fr', get_g2]
         refine ⟨by omega, ?_⟩
         rw [hd, show (w.length : Int) - 1 - k - 1 = w.length - 1 - (k + 1) from by omega]
         rfl
       · rintro e rfl
         have : ¬ (w.length : Int) ≤ w.length - 1 := by omega
         simp [this]
       · simp [acW]
     · have e1 : awC f s w x = 2 := by simp only [awC, if_pos h, if_neg fun hh : _ ∧ _ => hx hh.2]
       have e2 : awR f s w x = 0 := by simp [awR, e1]
       simp [hx, e1, e2]
   · have e0 := wdC_2 h (us := [w, w]) (by simpa using h1)
     have e1 : awC f s w x = 2 := by simp only [awC, if_pos h, if_neg fun hh : _ ∧ _ => h1 hh.1]
     have e2 : awR f s w x = 0 := by simp [awR, e1]
     simp [e0, e1, e2, undefV]
 · have e0 := wdC_1 h [w, w]
   have e1 : awC f s w x = 1 := by simp only [awC, if_neg h]
   have e2 : awR f s w x = 0 := by simp [awR, e1]
   simp [e0, e1, e2, undefV]

def S_back (pg : Pg) : Prop := ∀ w : List Int, Call pg 40 [ix w] [ix w] (.fn 55 [.mem .fresh none [ix w]])
theorem t_back {pg : Pg} (hp : pg.fn 40 = some c_slices_Backward___int64_int64_) : S_back pg := by
 intro w
 refine Call.intro hp rfl (by simp) ?_
 show wp _ _ c_slices_Backward___int64_int64_.body (post [.t 2] _ _ _) _
 simp [c_slices_Backward___int64_int64_]

theorem aw_impl {pg pg0 : Pg} (hp : ∀ args args' r, actP (Call pg0) args args' r → Call pg 17 args args' r) (h38 : S_chk38 pg0) (h39 : S_areElements pg0) (h40 : S_back pg0) : S_aw pg 17 := by
 intro f s w x hf hs hw
 refine hp _ _ _ ⟨rfl, by simp, rfl, ?_⟩
 simp [actA, actB, actC, actD]
 refine callR (h38 f s [w] hf hs (by simp) (by simp [hw])) rfl rfl (fun _ => rfl) ?_
 by_cases h : isSol f s
 · have hpm := PM.of h.1
   have h12 := hpm.small
   by_cases h1 : isWd f.length w
   · have e0 := wdC_0 h (us := [w]) (by simp [h1])
     simp [e0]
     refine callR (h39 f.length [x] (by simp) (by omega) (by omega)) rfl rfl (fun _ => rfl) ?_
     by_cases hx : 0 ≤ x ∧ x ≤ (f.length : Int) - 1
     · have e1 : awC f s w x = 0 := by simp only [awC, if_pos h, if_pos (And.intro h1 hx)]
       have e2 : awR f s w x = acW f w x := by simp only [awR, if_pos e1]
       simp [hx, inR, e1, e2]
       refine callR (h40 w) rfl rfl (fun hh => by simp at hh) ?_
       show actLoop _ _
       obtain ⟨n, rfl⟩ : ∃ n : Nat, x = n := ⟨x.toNat, by omega⟩
       have hwi := wd_in h1
       have hl8 := h1.2
       have hrow : ∀ l, l < f.length → (f.getD l []).length = f.length := fun l hl => by
        simp [List.getD_eq_getElem?_getD, hl, hpm.tf.row hl]
       have hfold : ∀ v : List Int, inN f.length v → (((v.map Int.toNat).foldr (fun (l y : Nat) => (g2 f (l : Int) (y : Int)).toNat) n : Nat) : Int) = acW f v n := by
        intro v
        induction v with
        | nil => intro _; rfl
        | cons l v ih =>
         intro hv
         have hl := hv l (by simp)
         have h3 := hpm.gF l (acW f v n)
         have h4 := ih fun z hz => hv z (List.mem_cons_of_mem _ hz)
         have h5 : ((l.toNat : Nat) : Int) = l := by omega
         rw [List.map_cons, List.foldr_cons, h5, h4]
         show ((g2 f l (acW f v n)).toNat : Int) = g2 f l (acW f v n)
         omega
       refine ⟨tb f, tb s, ix w, n, f.length, fun (l y : Nat) => (g2 f (l : Int) (y : Int)).toNat, w.map Int.toNat, .fresh, rfl, rfl, rfl, by decide, by omega, by simp; omega, ?_, ?_, ?_, ?_⟩
       · intro z hz
         obtain ⟨y, hy, rfl⟩ := List.mem_map.1 hz
         have := hwi y hy
         omega
       · refine ⟨.old, tbL f, rfl, by decide, by simp, fun l hl => ?_⟩
         refine ⟨.old, (f[l]).map I, by simp [hl, ix], by decide, by simp [hpm.tf.row hl], fun y hy => ?_⟩
         have h3 := hpm.gF l y
         have hyl : y < (f[l]).length := by rw [hpm.tf.row hl]; exact hy
         refine ⟨show (g2 f l y).toNat < f.length from by omega, ?_⟩
         show _ = some (T.sc (.int .i64 ((g2 f l y).toNat : Int)))
         have : ((g2 f l y).toNat : Int) = (f[l])[y] := by
          have h4 : g2 f l y = (f[l])[y] := by simp [g2, v2, List.getD_eq_getElem?_getD, hl, hyl]
          omega
         rw [this]
         simp [hyl]
       · refine .inl ⟨.old, by decide, ?_⟩
         have : w.map I = (w.map Int.toNat).map fun z : Nat => I z := by
          rw [List.map_map]
          refine List.map_congr_left fun y hy => ?_
          have := hwi y hy
          simp only [Function.comp]
          congr 2
          omega
         simp only [ix, this]
       · rw [hfold w hwi]
     · have e1 : awC f s w x = 2 := by simp only [awC, if_pos h, if_neg fun hh : _ ∧ _ => hx hh.2]
       have e2 : awR f s w x = 0 := by simp [awR, e1]
       simp [hx, inR, e1, e2, actR]
   · have e0 := wdC_2 h (us := [w]) (by simpa using h1)
     have e1 : awC f s w x = 2 := by simp only [awC, if_pos h, if_neg fun hh : _ ∧ _ => h1 hh.1]
     have e2 : awR f s w x = 0 := by simp [awR, e1]
     simp [e0, e1, e2, actR]
 · have e0 := wdC_1 h [w]
   have e1 : awC f s w x = 1 := by simp only [awC, if_neg h]
   have e2 : awR f s w x = 0 := by simp [awR, e1]
   simp [e0, e1, e2, actR]
end Go.Mch
namespace Go.Mch
def S_law1 (pg : Pg) : Prop := S_lw_wpN pg 1
theorem t_law1 {pg : Pg} (hp : pg.fn 1 = some (lw_wpN 15 17)) (h15 : S_aw pg 15) (h17 : S_aw pg 17) (h14 : S_szSol pg) (h16 : S_toSol pg) (h18 : S_eqSol pg) (h7 : S_toI pg) (h9 : S_eqI pg) : S_law1 pg := by
 exact t_lw_wpN (R0 := awR) (R1 := awC) hp h15 h17  h14 h16 h18 h7 h9
end Go.Mch
