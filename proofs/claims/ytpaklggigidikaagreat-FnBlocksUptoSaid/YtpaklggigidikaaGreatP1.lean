/- Our texts YfA YgA YfC YfD YfE YfB YfF YfG YfH YfI YfJ YfK YfL YfM YfN YfO YfP YfX YfY YfQ YfR YfV YfZ YfW YgB YgC YgF YgE YgG YgH YfS YfT YgY YjC YjI YjJ YjK YjL YlA YlJ YgQ YgJ YgK YgW YgZ YgP YjM YjO YjP YjQ YjD YjE YjU YjF YjG YjW YjX YkA YkB YkE YkF YkM, end to end. -/
import Derived.Test.YtpaklggigidikaaGreatYeA
import Derived.Test.YtpaklggigidikaaGreatM4
import Derived.ProofKit
import Derived.OpenShut
import Derived.JoinedCond
import Derived.WideKeyArgs
import Derived.Test.YtpaklggigidikaaGreatYeB
import Derived.Test.YtpaklggigidikaaGreatM1
import Derived.Test.YtpaklggigidikaaGreatYeC
import Derived.Test.YtpaklggigidikaaGreatYeE
import Derived.Test.YtpaklggigidikaaGreatYeG
import Derived.Test.YtpaklggigidikaaGreatYeD
namespace Go.Mch

abbrev nil : T := .sc (.slice none 0 0)

inductive Rw (α : Type) where
 | no
 | odd (a : Addr)
 | of (l : List α)

def lst {α : Type} : Rw α → List α
 | .of l => l
 | _ => []
def lso {α : Type} (o : Option (List α)) : List α := o.getD []
def Rw.ofO {α : Type} : Option (List α) → Rw α
 | none => .no
 | some l => .of l

def rawI : Rw Int → T
 | .no => nil
 | .odd a => .sc (.slice (some a) 0 0)
 | .of xs => .mem .old (some 1) (xs.map I)

@[simp] theorem lst_of {α : Type} (l : List α) : lst (.of l) = l := rfl
@[simp] theorem lst_no {α : Type} : lst (.no : Rw α) = [] := rfl
@[simp] theorem lst_odd {α : Type} (a : Addr) : lst (.odd a : Rw α) = [] := rfl
@[simp] theorem j76 {α : Type} (l : List α) : lso (some l) = l := rfl
@[simp] theorem q3b {α : Type} : lso (none : Option (List α)) = [] := rfl
@[simp] theorem lst_ofO {α : Type} (o : Option (List α)) : lst (Rw.ofO o) = lso o := by cases o <;> rfl

@[simp] theorem noOwnL_mapI (xs : List Int) : T.j0m (xs.map I) = true := by
 induction xs with
 | nil => rfl
 | cons x xs ih => simp [ih]
@[simp] theorem eryL_mapI (k : K) (xs : List Int) : T.eryL k (xs.map I) = xs.map I := by
 induction xs with
 | nil => rfl
 | cons x xs ih => simp [ih]
@[simp] theorem noOldL_mapI (xs : List Int) : T.j5x (xs.map I) = true := by
 induction xs with
 | nil => rfl
 | cons x xs ih => simp [ih]
@[simp] theorem lendL_mapI (xs : List Int) : T.j1y (xs.map I) = xs.map I := by
 induction xs with
 | nil => rfl
 | cons x xs ih => simp [ih]
@[simp] theorem rawI_noOwn (a : Rw Int) : (rawI a).j0q = true := by cases a <;> simp [rawI]
@[simp] theorem rawI_peek (a : Rw Int) (n : Nat) (p : List Nat) : (rawI a).peek n p = .val (rawI a) := by cases a <;> rfl
@[simp] theorem rawI_ery (a : Rw Int) : (rawI a).ery .old = rawI a := by cases a <;> simp [rawI]
@[simp] theorem rawI_len (a : Rw Int) : lenV (.val (rawI a)) = some (lst a).length := by cases a <;> simp [rawI]
@[simp] theorem rawI_idx (a : Rw Int) (i : Int) : idxV 1 (.val (rawI a)) i = if 0 ≤ i ∧ i < ((lst a).length : Int) then some (.val (.mem .old none (win ((lst a).map I) (i.toNat * 1) 1))) else none := by
 cases a with
 | no =>
  simp only [rawI, idxV, lst_no, List.length_nil, List.map_nil]
  rw [if_neg]
  omega
 | odd ad =>
  simp only [rawI, idxV, lst_odd, List.length_nil, List.map_nil]
  rw [if_neg]
  omega
 | of xs => simp [rawI]
def rawT : Rw (Rw Int) → T
 | .no => nil
 | .odd a => .sc (.slice (some a) 0 0)
 | .of rs => .mem .old (some 1) (rs.map rawI)
@[simp] theorem noOwnL_mapR (rs : List (Rw Int)) : T.j0m (rs.map rawI) = true := by
 induction rs with
 | nil => rfl
 | cons x xs ih => simp [ih]
@[simp] theorem eryL_mapR (rs : List (Rw Int)) : T.eryL .old (rs.map rawI) = rs.map rawI := by
 induction rs with
 | nil => rfl
 | cons x xs ih => simp [ih]
@[simp] theorem rawT_noOwn (a : Rw (Rw Int)) : (rawT a).j0q = true := by cases a <;> simp [rawT]
@[simp] theorem rawT_peek (a : Rw (Rw Int)) (n : Nat) (p : List Nat) : (rawT a).peek n p = .val (rawT a) := by cases a <;> rfl
@[simp] theorem rawT_ery (a : Rw (Rw Int)) : (rawT a).ery .old = rawT a := by cases a <;> simp [rawT]
@[simp] theorem rawT_len (a : Rw (Rw Int)) : lenV (.val (rawT a)) = some (lst a).length := by cases a <;> simp [rawT]
@[simp] theorem rawT_idx (a : Rw (Rw Int)) (i : Int) : idxV 1 (.val (rawT a)) i = if 0 ≤ i ∧ i < ((lst a).length : Int) then some (.val (.mem .old none (win ((lst a).map rawI) (i.toNat * 1) 1))) else none := by
 cases a with
 | no =>
  simp only [rawT, idxV, lst_no, List.length_nil, List.map_nil]
  rw [if_neg]
  omega
 | odd ad =>
  simp only [rawT, idxV, lst_odd, List.length_nil, List.map_nil]
  rw [if_neg]
  omega
 | of xs => simp [rawT]
@[simp] theorem rawT_cells (a : Rw (Rw Int)) : (rawT a).cells = [rawT a] := by cases a <;> rfl
@[simp] theorem rawT_isCell (a : Rw (Rw Int)) : (rawT a).j01 = true := by cases a <;> rfl
@[simp] theorem rawI_isCell (a : Rw Int) : (rawI a).j01 = true := by cases a <;> rfl

theorem j0f {G : Rl} {d : Option Nat} {k : Env → Prop} {e : Env} {args : List (Opd × Mode)} {id : Nat} {caps ts : List T} {r : T} (hc : G id (ts ++ T.eryL .old caps) (ts ++ T.eryL .old caps) r) (hall : args.all (fun x => x.2 == .r) = true) (hlen : args.length = ts.length)
 (hold : e.j6f args = true → r.j7l = true) (hk : k (e.setD d (.val r))) : callP G d k e args id caps ts := by
 refine ⟨ts, r, hc, rfl, fun h => ⟨hold h, hall⟩, ?_⟩
 have : ∀ (xs : List (Opd × Mode)) (us : List T), xs.all (fun x => x.2 == .r) = true → xs.length = us.length → e.back xs us = some e := by
  intro xs
  induction xs with
  | nil => intro us _ h; cases us with | nil => rfl | cons => simp at h
  | cons x xs ih =>
   intro us h h2
   obtain ⟨x, md⟩ := x
   simp only [List.all_cons, Bool.and_eq_true, beq_iff_eq] at h
   obtain ⟨rfl, h⟩ := h
   cases us with
   | nil => simp at h2
   | cons u us => simp only [Env.back]; exact ih us (by simpa using h) (by simpa using h2)
 rw [this args ts hall hlen]
 exact ⟨e, rfl, hk⟩

theorem take_len {α : Type} (l : List α) {n : Nat} (h : l.length ≤ n) : l.take n = l := List.take_of_length_le h
@[simp] theorem take_map_len {α β : Type} (l : List α) (f : α → β) : List.take l.length (l.map f) = l.map f := List.take_of_length_le (by simp)


def S_toI (pg : Pg) : Prop := ∀ a : Rw Int, (lst a).length ≤ 1048576 → Call pg 7 [rawI a] [rawI a] (ints .own (lst a))
theorem S_toI.at {pg : Pg} (h : S_toI pg) (a : Rw Int) (hl : (lst a).length ≤ 1048576) : Call pg 7 [rawI a] [rawI a] (.mem .own (some 1) ((lst a).map I)) := h a hl

def rows (xss : List (List Int)) : List T := xss.map fun xs => .mem .own (some 1) (xs.map I)
@[simp] theorem rows_length (xss : List (List Int)) : (rows xss).length = xss.length := by simp [rows]

@[simp] theorem noOldL_rows (xss : List (List Int)) : T.j5x (rows xss) = true := by
 induction xss with
 | nil => rfl
 | cons x xs ih => simp only [rows, List.map_cons] at ih ⊢; simp [ih]
@[simp] theorem lendL_rows (xss : List (List Int)) : T.j1y (rows xss) = rows xss := by
 induction xss with
 | nil => rfl
 | cons x xs ih => simp only [rows, List.map_cons] at ih ⊢; simp [ih]
abbrev ix (xs : List Int) : T := .mem .old (some 1) (xs.map I)
def tbL (xss : List (List Int)) : List T := xss.map fun xs => ix xs
abbrev tb (xss : List (List Int)) : T := .mem .old (some 1) (tbL xss)
@[simp] theorem tbL_length (xss : List (List Int)) : (tbL xss).length = xss.length := by simp [tbL]
@[simp] theorem noOwnL_tbL (xss : List (List Int)) : T.j0m (tbL xss) = true := by
 induction xss with
 | nil => rfl
 | cons x xs ih => simp only [tbL, List.map_cons] at ih ⊢; simp [ih]
@[simp] theorem eryL_tbL (xss : List (List Int)) : T.eryL .old (tbL xss) = tbL xss := by
 induction xss with
 | nil => rfl
 | cons x xs ih => simp only [tbL, List.map_cons] at ih ⊢; simp [ih]
@[simp] theorem eryL_rows (xss : List (List Int)) : T.eryL .old (rows xss) = tbL xss := by
 induction xss with
 | nil => rfl
 | cons x xs ih => simp only [rows, tbL, List.map_cons] at ih ⊢; simp [ih]
theorem rawT_tb (xss : List (List Int)) : rawT (.of (xss.map .of)) = tb xss := by simp [rawT, tbL, rawI]
theorem j55 (xss : List (List Int)) (j : Nat) : (rows xss)[j]? = (xss[j]?).map fun xs => .mem .own (some 1) (xs.map I) := by simp [rows]
@[simp] theorem rows_getElem (xss : List (List Int)) (j : Nat) (h : j < (rows xss).length) : (rows xss)[j] = .mem .own (some 1) ((xss[j]'(by simpa using h)).map I) := by simp [rows]

def small (a : Rw (Rw Int)) : Prop := (lst a).length ≤ 1048576 ∧ ∀ r ∈ lst a, (lst r).length ≤ 1048576


def sz1 (r : Rw Int) (l : Int) : Int := if l - ((lst r).length : Int) < 0 then -1 else l - ((lst r).length : Int)

def S_eqI (pg : Pg) : Prop := ∀ a b : Rw Int, (lst a).length ≤ 1048576 → Call pg 9 [rawI a, rawI b] [rawI a, rawI b] (B (decide (lst a = lst b)))
def S_eqT (pg : Pg) : Prop := ∀ a b : Rw (Rw Int), small a → Call pg 21 [rawT a, rawT b] [rawT a, rawT b] (B (decide ((lst a).map lst = (lst b).map lst)))
def S_eqRack (pg : Pg) : Prop := ∀ a b : Rw (Rw Int), small a → Call pg 10 [.agg [rawT a], .agg [rawT b]] [.agg [rawT a], .agg [rawT b]] (B (decide ((lst a).map lst = (lst b).map lst)))
def S_eqSol (pg : Pg) : Prop := ∀ a b c d : Rw (Rw Int), small a → small b → Call pg 18 [.agg [rawT a, rawT b], .agg [rawT c, rawT d]] [.agg [rawT a, rawT b], .agg [rawT c, rawT d]] (B (decide ((lst a).map lst = (lst c).map lst ∧ (lst b).map lst = (lst d).map lst)))
end Go.Mch
namespace Go.Mch

abbrev okCl : K → Nat → Prop := fun k _ => k = .old

theorem repL_of {fm : Nat → Nat} {ok : K → Nat → Prop} {w : World} {g : Nat → Value} : ∀ (ts : List T) (i : Nat), (∀ j (h : j < ts.length), rep fm ok w (g (i + j)) ts[j]) → repL fm ok w g i ts
 | [], _, _ => trivial
 | t :: ts, i, h => ⟨h 0 (by simp), repL_of ts (i + 1) fun j hj => by
     have := h (j + 1) (by simpa using hj)
     simpa [show i + 1 + j = i + (j + 1) from by omega] using this⟩

theorem run_true {P : Program} {fm : Nat → Nat} {f : Nat} {args args' : List T} (h : Pact P fm f args args' (B true)) (hno : T.j0m args = true) {w : World} {vs : Array Value} (hs : vs.size = args.length)
 (hrep : ∀ s t, args[s]? = some t → rep fm okCl w (vs.getD s undef) t) :
 Calls P (fm f) vs w fun e w' => e = .returned (.bool true) ∧ Keeps (fun _ => False) w w' := by
 have hA : ∀ b, (fun _ => False : Nat → Prop) b → b < w.heap.size := fun _ h => h.elim
 have hc : ∀ s t, init args s = some (.val t) → ∀ b, cnt w (vs.getD s undef) b t = 0 := by
  intro s t ht b
  obtain ⟨u, h1, h2⟩ := j5q ht
  cases h2
  exact j2d _ _ _ _ (j6p hno h1)
 have hR : R (cx0 fm w (fun _ => False) (fun _ => False) hA) (init args) (fun s => vs.getD s undef) w := by
  refine ⟨Keeps.refl _ _, ⟨fun _ => 0, fun s t ht b => ?_⟩, fun s x hx => ?_⟩
  · rw [hc s t ht b]; simp
  · obtain ⟨t, h1, rfl⟩ := j5q hx
    refine .inl ⟨t, rfl, q0m (fun k b _ _ hk => ?_) t _ (fun b hb _ _ => ?_) (hrep s t h1)⟩
    · cases hk
      refine ⟨id, by simp, by simp, fun _ => ⟨?_, id⟩⟩
      rintro ⟨s', t', h3, h4⟩
      rw [hc s' t' h3 b] at h4
      omega
    · have h5 := hc s t hx b
      omega
 refine (h.2 w vs _ _ hA hs (fun _ _ hm => hm) hR).mono fun e w' hb => ?_
 cases e with
 | returned v =>
  obtain ⟨q, e', vl', _, h2, _, h4, _⟩ := hb
  refine ⟨?_, h2.keeps⟩
  have h5 := h2.rep q (.val (B true)) (by simp [Env.add])
  rcases h5 with ⟨t, h6, h7⟩ | h7
  · cases h6
    simp only [rep] at h7
    rw [← h4, h7.1]
  · simp only [arep, rep] at h7
    rw [← h4, h7.2.1]
 | _ => exact hb.elim

theorem Keeps.but {w w' : World} (h : Keeps (fun _ => False) w w') (may : MemPlace → Prop) : w.keptBut w' may := by
 refine ⟨h.os, h.output, fun i hi => ?_⟩
 rw [h.block i hi id]
 exact (World.keptBut_refl w may).2.2 i hi

theorem Keeps.at {w w' : World} (h : Keeps (fun _ => False) w w') {p : MemPlace} (hp : p.block < w.heap.size) : w.sameAt w' p := by
 cases p with
 | cell b off => exact World.cell?_of_block (a := ⟨b, off, none⟩) (h.block b hp id)
 | map b => exact h.block b hp id


section
variable {H : Type} {enc : TypeId × Value → H} {P : Program} {w : World} {base : Nat} {sp : Nat → Bool} {held : Bool} {fm : Nat → Nat}

theorem each {α : Type} {Q : Nat → α → Prop} : ∀ (n : Nat), (∀ i, i < n → ∃ z, Q i z) → ∃ zs : List α, zs.length = n ∧ ∀ i (h : i < zs.length), Q i zs[i]
 | 0, _ => ⟨[], rfl, fun i h => by simp at h⟩
 | n + 1, h => by
  obtain ⟨zs, h1, h2⟩ := each n fun i hi => h i (by omega)
  obtain ⟨z, hz⟩ := h n (by omega)
  refine ⟨zs ++ [z], by simp [h1], fun i hi => ?_⟩
  rcases Nat.lt_or_ge i zs.length with hl | hl
  · rw [List.getElem_append_left hl]; exact h2 i hl
  · have : i = n := by simp at hi; omega
    subst this
    rw [List.getElem_append_right hl]
    simp [h1, hz]

theorem open_raw {t e : TypeId} {fuel : Nat} {cs : List Value} {x : DataW H × List MemPlace} (ht : P.underlying t = some (.slice e)) (hc : P.cellsOf e = 1)
 (h : DataW.trod enc P w base (fun _ => true) held fuel t cs = some x) :
 (cs = [.slice none 0 0] ∧ x.1 = .nil) ∨ (∃ a, cs = [.slice (some a) 0 0] ∧ x.1 = .slice [] []) ∨
 ∃ b off len cap ds rest n, cs = [.slice (some ⟨b, off, none⟩) len cap] ∧ len ≤ cap ∧ x.1 = .slice ds rest ∧ ds.length = len ∧
  ∀ i, i < len → ∃ c y, w.cell? ⟨b, off + i, none⟩ = some c ∧ DataW.trod enc P w base (fun _ => true) held n e [c] = some y ∧ ds[i]? = some y.1 := by
 rcases DataW.trod_slice ht h with ⟨h1, rfl⟩ | ⟨a, len, cap, elems, rest, n, _, rfl, rfl, hb, hl, _, hlen, hel, hsp, _⟩
 · exact .inl ⟨h1, rfl⟩
 right
 obtain ⟨hr1, hr2⟩ := hsp rfl
 have cell : ∀ a' y, (w.cells? base a' (P.cellsOf e)).bind (DataW.trod enc P w base (fun _ => true) held n e) = some y → ∃ c, w.cell? a' = some c ∧ DataW.trod enc P w base (fun _ => true) held n e [c] = some y := by
  intro a' y hy
  rw [hc, Option.bind_eq_some_iff] at hy
  obtain ⟨c1, h1, h2⟩ := hy
  have h3 := (World.cells?_some h1).2.1
  match c1, h3 with
  | [c], _ => exact ⟨c, Go.ChangeShapes.cell_of_cells?_one h1, h2⟩
 by_cases hz : cap = 0
 · subst hz
   have h0 : len = 0 := by omega
   subst h0
   have h1 : elems = [] := List.eq_nil_of_length_eq_zero hlen
   have h2 : rest = [] := List.eq_nil_of_length_eq_zero (by simpa using hr1)
   subst h1 h2
   exact .inl ⟨a, rfl, rfl⟩
 right
 have hspot : a.spot = none := by
  by_cases h0 : 0 < len
  · have h1 : 0 < elems.length := by omega
    have := hel 0 h0
    rw [List.getElem?_eq_getElem h1] at this
    obtain ⟨c, hc1, _⟩ := cell _ _ this
    simp only [Nat.zero_mul] at hc1
    have := World.cell?_spot hc1
    simpa [Addr.add] using this
  · have h1 : 0 < rest.length := by omega
    have := hr2 0 (by omega)
    rw [List.getElem?_eq_getElem h1] at this
    obtain ⟨c, hc1, _⟩ := cell _ _ this
    have h2 := World.cell?_spot hc1
    simpa [Addr.add, show len = 0 from by omega] using h2
 obtain ⟨b, off, spot⟩ := a
 simp only at hspot
 subst hspot
 refine ⟨b, off, len, cap, elems.map (·.1), rest.map (·.1), n, rfl, hl, rfl, by simpa using hlen, fun i hi => ?_⟩
 have h1 : i < elems.length := by omega
 have h2 := hel i hi
 rw [List.getElem?_eq_getElem h1] at h2
 obtain ⟨c, h3, h4⟩ := cell _ _ h2
 refine ⟨c, elems[i], ?_, h4, by simp [h1]⟩
 rw [hc, Nat.mul_one] at h3
 rw [← Go.WideShapes.add_plain]; exact h3

theorem rep_slice {b off len cap : Nat} {us : List T} (hlen : us.length = len) (hl : len ≤ cap) (hno : T.j0m us = true) (h : ∀ i (hi : i < us.length), ∃ c, w.cell? ⟨b, off + i, none⟩ = some c ∧ rep fm okCl w c us[i]) :
 rep fm okCl w (.slice (some ⟨b, off, none⟩) len cap) (.mem .old (some 1) us) := by
 rw [j0u]
 refine ⟨⟨⟨len, rfl, by simp [hlen], by simp, hl⟩, fun i hi => ?_⟩, fun _ => rfl, by simp, fun _ => hno, ?_⟩
 · obtain ⟨c, hc, _⟩ := h i hi
   simp only [blk, ofs]
   rw [hc]; rfl
 · refine repL_of us 0 fun j hj => ?_
   obtain ⟨c, hc, hr⟩ := h j hj
   simp only [kid, Nat.zero_add]
   rw [hc]
   exact hr

structure Bulk (m : DataW H → Nat) : Prop where
 slice : ∀ es rest, es.length ≤ m (.slice es rest)
 elem : ∀ es rest d, d ∈ es → m d ≤ m (.slice es rest)
 part : ∀ ps d, d ∈ ps → m d ≤ m (.agg ps)


theorem all_stays {W W' : World} {sp' : Nat → Bool} (hl : laidOutB P = true) : ∀ {ts : List TypeId} {vs : List Value} {ds : List (DataW H)} {ps : List MemPlace}, (∀ t ∈ ts, P.readableRec t = true ∧ t < P.types.size) →
 DataW.TrodAll enc P W 0 (fun _ => true) true ts vs ds ps → (∀ p ∈ ps, W.sameAt W' p) → (∀ p ∈ ps, sp' p.block = true) → DataW.TrodAll enc P W' 0 sp' true ts vs ds ps
 | [], vs, ds, ps, _, h, _, _ => by
  obtain ⟨rfl, rfl, rfl⟩ := Go.ChangeShapes.trodAll_nil h
  rfl
 | t :: ts, vs, ds, ps, ht, h, h1, h2 => by
  obtain ⟨v, vs', d, ds', p, q, rfl, rfl, rfl, h3, h4⟩ := Go.ChangeShapes.trodAll_cons h
  exact ⟨p, q, Go.WideElems.Trod_stays hl (ht t (by simp)).1 (ht t (by simp)).2 h3 (fun x hx => h1 x (by simp [hx])) (fun x hx => h2 x (by simp [hx])),
   all_stays hl (fun t' h' => ht t' (by simp [h'])) h4 (fun x hx => h1 x (by simp [hx])) (fun x hx => h2 x (by simp [hx])), rfl⟩

theorem post_true {f : Func} {s : ChangeSpec} {W W' : World} {args : Array Value} {ds gs : List (DataW H)} {before : List MemPlace} {rt : TypeId} (hW : DataW.Whole enc P f.params.toList s.vars false W args.toList ds gs before) (hK : Keeps (fun _ => False) W W')
 (hv : s.vars = []) (hres : f.resultTypes = #[rt]) (hrt : P.underlying rt = some .bool) (hl : laidOutB P = true) (hr : ∀ t ∈ f.params.toList, P.readableRec t = true ∧ t < P.types.size)
 (hfn : s.fn H ds = { results := [.lit (.bool true)], args := ds }) : s.post enc P f false true false false W args (.bool true) W' := by
 have hlt := hW.lt
 have hW' := hW
 obtain ⟨p, q, hA, hV, rfl, _, _⟩ := hW
 rw [hv] at hV
 have hg : gs = [] ∧ q = [] := by
  cases gs with
  | nil => exact ⟨rfl, by simpa [DataW.TrodVars] using hV⟩
  | cons d ds => simp [DataW.TrodVars] at hV
 obtain ⟨rfl, rfl⟩ := hg
 simp only [List.append_nil] at hlt
 refine ⟨ds, [], p ++ [], [], p, [], hW', ?_, ?_, ?_, hK.but _, by simp⟩
 · rw [List.append_nil, hfn, hres]
   refine ⟨[], [], ⟨1, ?_⟩, rfl, rfl⟩
   simp [DataW.trod, hrt, Value.cells]
 · rw [List.append_nil, hfn]
   exact all_stays hl hr hA (fun x hx => hK.at (hlt x hx)) (fun x hx => by simpa using hlt x hx)
 · rw [List.append_nil, hfn, hv]
   rfl
end
end Go.Mch
namespace Go.Mch

def S_in (pg : Pg) (f : Nat) : Prop := ∀ n lo hi : Int, Call pg f [I n, I lo, I hi] [I n, I lo, I hi] (B (decide (lo ≤ n ∧ n ≤ hi)))
theorem t_l01In {pg : Pg} (hp : pg.fn 30 = some j5k) : S_in pg 30 := by
 intro n lo hi
 refine Call.intro hp rfl (by simp) ?_
 show wp _ _ j5k.body (post [.t 6] _ _ _) _
 by_cases h1 : lo ≤ n
 · by_cases h2 : n ≤ hi <;> simp [j5k, h1, h2]
 · simp [j5k, h1, j00]
theorem t_within {pg : Pg} (hp : pg.fn 35 = some j4x) : S_in pg 35 := by
 intro n lo hi
 refine Call.intro hp rfl (by simp) ?_
 show wp _ _ j4x.body (post [.t 6] _ _ _) _
 by_cases h1 : lo ≤ n
 · by_cases h2 : n ≤ hi <;> simp [j4x, h1, h2]
 · simp [j4x, h1, j00]

def S_own (pg : Pg) : Prop := ∀ xs : List Int, xs.length ≤ 1048576 → Call pg 31 [ix xs] [ix xs] (.mem .own (some 1) (xs.map I))
theorem t_own {pg : Pg} (hp : pg.fn 31 = some j5u) : S_own pg := by
 intro xs hl
 refine Call.intro hp rfl (by simp) ?_
 show wp _ _ j5u.body (post [.t 2] _ _ _) _
 simp [j5u, roomy]
 omega

def ixOf : List Int → Int → Int
 | [], _ => -1
 | x :: xs, n => if x = n then 0 else if ixOf xs n < 0 then -1 else ixOf xs n + 1
theorem j79 : ∀ (xs : List Int) (n : Int), -1 ≤ ixOf xs n ∧ ixOf xs n < xs.length
 | [], n => by simp [ixOf]
 | x :: xs, n => by
  have := j79 xs n
  unfold ixOf
  simp only [List.length_cons]
  split
  · omega
  · split <;> omega
theorem j5p : ∀ (xs : List Int) (n : Int), 0 ≤ ixOf xs n ↔ n ∈ xs
 | [], n => by simp [ixOf]
 | x :: xs, n => by
  have := j5p xs n
  have h2 := j79 xs n
  unfold ixOf
  by_cases h : x = n
  · subst h; simp
  · rw [if_neg h]
    split
    · rename_i h3
      simp only [List.mem_cons]
      constructor
      · intro h4; omega
      · intro h4
        rcases h4 with h4 | h4
        · exact (h h4.symm).elim
        · have := this.2 h4; omega
    · rename_i h3
      simp only [List.mem_cons]
      exact ⟨fun _ => .inr (this.1 (by omega)), fun _ => by omega⟩
theorem q4o : ∀ {xs : List Int} {n : Int} {k : Nat} (hk : k < xs.length), (∀ i (h : i < k), xs[i] ≠ n) → xs[k] = n → ixOf xs n = k
 | x :: xs, n, 0, _, _, h => by simp at h; simp [ixOf, h]
 | x :: xs, n, k + 1, hk, h1, h2 => by
  have h0 := h1 0 (by omega)
  simp only [List.getElem_cons_zero] at h0
  have := q4o (xs := xs) (n := n) (k := k) (by simpa using hk) (fun i hi => by
   have := h1 (i + 1) (by omega)
   simpa using this) (by simpa using h2)
  unfold ixOf
  rw [if_neg h0, this, if_neg (by omega)]
  omega
theorem ixOf_none {xs : List Int} {n : Int} (h : ∀ i (h : i < xs.length), xs[i] ≠ n) : ixOf xs n = -1 := by
 have h1 := j79 xs n
 have h2 : ¬ 0 ≤ ixOf xs n := fun hh => by
  obtain ⟨i, hi, he⟩ := List.getElem_of_mem ((j5p xs n).1 hh)
  exact h i hi he
 omega

def q2l (pg : Pg) : Prop := ∀ (xs : List Int) (n : Int), xs.length ≤ 1048576 → Call pg 69 [ix xs, I n] [ix xs, I n] (I (ixOf xs n))
theorem t_index {pg : Pg} (hp : pg.fn 69 = some j4q) : q2l pg := by
 intro xs n hl
 refine Call.intro hp rfl (by simp) ?_
 show wp _ _ j4q.body (post [.t 4] _ _ _) _
 simp [j4q]
 refine j0a (fun k e => (∀ i (h : i < xs.length), i < k → xs[i] ≠ n) ∧ e = fr [(0, some (.val (ix xs))), (1, some (.val (I n))), (5, some (.val (I k)))]) xs.length ?_ ?_ 0 _ (by omega) ?_
 · rintro k e hk ⟨h1, rfl⟩
   by_cases hx : xs[k] = n
   · simp [hk, hx]
     exact (q4o hk (fun i hi => h1 i (by omega) hi) hx).symm
   · simp [hk, hx]
     refine ⟨by omega, fun i hi hik => ?_⟩
     rcases Nat.lt_or_ge i k with h2 | h2
     · exact h1 i hi h2
     · have : i = k := by omega
       subst this; exact hx
 · rintro e ⟨h1, rfl⟩
   simp
   exact (ixOf_none fun i hi => h1 i hi hi).symm
 · simp

def S_has (pg : Pg) : Prop := ∀ (xs : List Int) (n : Int), xs.length ≤ 1048576 → Call pg 62 [ix xs, I n] [ix xs, I n] (B (decide (n ∈ xs)))
theorem t_has {pg : Pg} (hp : pg.fn 62 = some j5v) (h69 : q2l pg) : S_has pg := by
 intro xs n hl
 refine Call.intro hp rfl (by simp) ?_
 show wp _ _ j5v.body (post [.t 4] _ _ _) _
 simp [j5v]
 refine j0f (h69 xs n hl) rfl rfl (fun _ => rfl) ?_
 simp [j5p]


def Tab (t : List (List Int)) : Prop := ∀ r ∈ t, r.length = t.length ∧ ∀ v ∈ r, 0 ≤ v ∧ v < t.length

def j4z (t : List (List Int)) : Prop := 1 ≤ t.length ∧ t.length ≤ 12 ∧ Tab t

instance (t : List (List Int)) : Decidable (Tab t) := by unfold Tab; infer_instance
instance (t : List (List Int)) : Decidable (j4z t) := by unfold j4z; infer_instance

def j98 (pg : Pg) (f : Nat) : Prop := ∀ t : List (List Int), t.length ≤ 1048576 → (∀ r ∈ t, r.length ≤ 1048576) → Call pg f [tb t] [tb t] (B (decide (j4z t)))

@[simp] theorem tbL_getElem {t : List (List Int)} {k : Nat} (h : k < (tbL t).length) : (tbL t)[k] = ix (t[k]'(by simpa using h)) := by simp [tbL]

theorem t_l01Table {pg : Pg} (hp : pg.fn 46 = some j4o) (h30 : S_in pg 30) : j98 pg 46 := by
 intro t hl hr
 refine Call.intro hp rfl (by simp) ?_
 show wp _ _ j4o.body (post [.t 2] _ _ _) _
 simp [j4o]
 refine j0f (h30 _ 1 12) rfl rfl (fun _ => rfl) ?_
 by_cases hn : 1 ≤ t.length ∧ t.length ≤ 12
 · have hn' : (1 : Int) ≤ t.length ∧ (t.length : Int) ≤ 12 := by omega
   simp [hn']
   refine j0a (fun k e => (∀ i (h : i < t.length), i < k → t[i].length = t.length ∧ ∀ v ∈ t[i], 0 ≤ v ∧ v < t.length) ∧ e = fr [(0, some (.val (tb t))), (3, some (.val (I t.length))), (4, some (.val (I k)))]) t.length ?_ ?_ 0 _ (by omega) ?_
   · rintro k e hk ⟨h1, rfl⟩
     by_cases hlen : t[k].length = t.length
     · simp [hk, hlen]
       refine j0a (fun j e => (∀ i (h : i < t[k].length), i < j → 0 ≤ t[k][i] ∧ t[k][i] < t.length) ∧ e = fr [(0, some (.val (tb t))), (3, some (.val (I t.length))), (4, some (.val (I k))), (5, some (.val (I j)))]) t.length ?_ ?_ 0 _ (by omega) ?_
       · rintro j e hj ⟨h2, rfl⟩
         have hj2 : j < t[k].length := by omega
         simp [hk, hj, hj2]
         refine ⟨by omega, ?_⟩
         refine j0f (h30 _ 0 _) rfl rfl (fun _ => rfl) ?_
         by_cases hv : 0 ≤ t[k][j] ∧ t[k][j] ≤ (t.length : Int) - 1
         · simp [hv]
           refine ⟨by omega, fun i hi hij => ?_⟩
           rcases Nat.lt_or_ge i j with h3 | h3
           · exact h2 i hi h3
           · have : i = j := by omega
             subst this; omega
         · have hvd : ¬ j4z t := fun ht => hv (by
            have := (ht.2.2 t[k] (List.getElem_mem hk)).2 t[k][j] (List.getElem_mem hj2)
            omega)
           simp [hv, hvd]
       · rintro e ⟨h2, rfl⟩
         simp
         refine ⟨by omega, fun i hi hik => ?_⟩
         rcases Nat.lt_or_ge i k with h3 | h3
         · exact h1 i hi h3
         · have : i = k := by omega
           subst this
           refine ⟨hlen, fun v hv => ?_⟩
           obtain ⟨j, hj, rfl⟩ := List.getElem_of_mem hv
           exact h2 j hj (by omega)
       · simp
     · have hvd : ¬ j4z t := fun ht => hlen (ht.2.2 t[k] (List.getElem_mem hk)).1
       have hne : ((t[k].length : Nat) : Int) ≠ t.length := by omega
       simp [hk, hne, hvd]
   · rintro e ⟨h1, rfl⟩
     have : j4z t := ⟨hn.1, hn.2, fun r hr => by
      obtain ⟨i, hi, rfl⟩ := List.getElem_of_mem hr
      exact h1 i hi hi⟩
     simp [this]
   · simp
 · have hvd : ¬ j4z t := fun ht => hn ⟨ht.1, ht.2.1⟩
   have hn' : ¬ ((1 : Int) ≤ t.length ∧ (t.length : Int) ≤ 12) := by omega
   simp [hn', hvd]

end Go.Mch
namespace Go.Mch

def isPerm (p : List Int) : Prop := 1 ≤ p.length ∧ p.length ≤ 12 ∧ ∀ x : Nat, x < p.length → (x : Int) ∈ p
instance (p : List Int) : Decidable (isPerm p) := by unfold isPerm; infer_instance

def S_perm (pg : Pg) (f : Nat) : Prop := ∀ p : List Int, p.length ≤ 1048576 → Call pg f [ix p] [ix p] (B (decide (isPerm p)))

theorem t_l01Perm {pg : Pg} (hp : pg.fn 47 = some j49) (h30 : S_in pg 30) (h62 : S_has pg) : S_perm pg 47 := by
 intro p hl
 refine Call.intro hp rfl (by simp) ?_
 show wp _ _ j49.body (post [.t 2] _ _ _) _
 simp [j49]
 refine j0f (h30 _ 1 12) rfl rfl (fun _ => rfl) ?_
 by_cases hn : 1 ≤ p.length ∧ p.length ≤ 12
 · have hn' : (1 : Int) ≤ p.length ∧ (p.length : Int) ≤ 12 := by omega
   simp [hn']
   refine j0a (fun k e => (∀ x : Nat, x < k → (x : Int) ∈ p) ∧ e = fr [(0, some (.val (ix p))), (3, some (.val (I p.length))), (4, some (.val (I k)))]) p.length ?_ ?_ 0 _ (by omega) ?_
   · rintro k e hk ⟨h1, rfl⟩
     simp [hk]
     refine j0f (h62 p k hl) rfl rfl (fun _ => rfl) ?_
     by_cases hm : (k : Int) ∈ p
     · simp [hm]
       refine ⟨by omega, fun x hx => ?_⟩
       rcases Nat.lt_or_ge x k with h2 | h2
       · exact h1 x h2
       · have : x = k := by omega
         subst this; exact hm
     · have hvd : ¬ isPerm p := fun h => hm (h.2.2 k hk)
       simp [hm, hvd]
   · rintro e ⟨h1, rfl⟩
     have : isPerm p := ⟨hn.1, hn.2, h1⟩
     simp [this]
   · simp
 · have hvd : ¬ isPerm p := fun h => hn ⟨h.1, h.2.1⟩
   have hn' : ¬ ((1 : Int) ≤ p.length ∧ (p.length : Int) ≤ 12) := by omega
   simp [hn', hvd]

def inR (lo hi : Int) (xs : List Int) : Prop := ∀ x ∈ xs, lo ≤ x ∧ x ≤ hi
instance (lo hi : Int) (xs : List Int) : Decidable (inR lo hi xs) := by unfold inR; infer_instance

def j8g (pg : Pg) : Prop := ∀ (xs : List Int) (lo hi : Int), xs.length ≤ 1048576 → Call pg 54 [ix xs, I lo, I hi] [ix xs, I lo, I hi] (B (decide (inR lo hi xs)))
theorem t_allWithin {pg : Pg} (hp : pg.fn 54 = some j39) (h35 : S_in pg 35) : j8g pg := by
 intro xs lo hi hl
 refine Call.intro hp rfl (by simp) ?_
 show wp _ _ j39.body (post [.t 6] _ _ _) _
 simp [j39]
 refine j0a (fun k e => (∀ i (h : i < xs.length), i < k → lo ≤ xs[i] ∧ xs[i] ≤ hi) ∧ e = fr [(1, some (.val (I lo))), (2, some (.val (I hi))), (9, some (.val (ix xs))), (10, some (.val (I xs.length))), (11, some (.val (I k)))]) xs.length ?_ ?_ 0 _ (by omega) ?_
 · rintro k e hk ⟨h1, rfl⟩
   simp [hk]
   refine j0f (h35 _ _ _) rfl rfl (fun _ => rfl) ?_
   by_cases hm : lo ≤ xs[k] ∧ xs[k] ≤ hi
   · simp [hm]
     refine ⟨by omega, fun i hi hik => ?_⟩
     rcases Nat.lt_or_ge i k with h2 | h2
     · exact h1 i hi h2
     · have : i = k := by omega
       subst this; exact hm
   · have hvd : ¬ inR lo hi xs := fun h => hm (h _ (List.getElem_mem hk))
     simp [hm, hvd]
 · rintro e ⟨h1, rfl⟩
   have : inR lo hi xs := fun x hx => by
    obtain ⟨i, hi, rfl⟩ := List.getElem_of_mem hx
    exact h1 i hi hi
   simp [this]
 · simp

def j8f (pg : Pg) : Prop := ∀ (n : Int) (xs : List Int), xs.length ≤ 1048576 → 0 ≤ n → n ≤ 1048576 → Call pg 39 [I n, ix xs] [I n, ix xs] (B (decide (inR 0 (n - 1) xs)))
theorem q6w {pg : Pg} (hp : pg.fn 39 = some j3m) (h54 : j8g pg) : j8f pg := by
 intro n xs hl h1 h2
 refine Call.intro hp rfl (by simp) ?_
 show wp _ _ j3m.body (post [.t 4] _ _ _) _
 simp [j3m]
 refine ⟨by omega, ?_⟩
 refine j0f (h54 _ _ _ hl) rfl rfl (fun _ => rfl) ?_
 simp

def j1z (p : List Int) : Prop := (∀ x ∈ p, 0 ≤ x ∧ x < p.length) ∧ p.Nodup
instance (p : List Int) : Decidable (j1z p) := by unfold j1z; infer_instance

def q5i (p : List Int) (k : Nat) : List T := (List.range p.length).map fun i : Nat => B (decide ((i : Int) ∈ p.take k))
@[simp] theorem seenL_length (p : List Int) (k : Nat) : (q5i p k).length = p.length := by simp [q5i]
theorem seenL_get {p : List Int} {k i : Nat} (h : i < p.length) : (q5i p k)[i]'(by simpa using h) = B (decide ((i : Int) ∈ p.take k)) := by simp [q5i]
theorem seenL_zero (p : List Int) : q5i p 0 = List.replicate p.length (B false) := by
 apply List.ext_getElem
 · simp
 · intro i h1 h2; simp [q5i]
theorem seenL_set {p : List Int} {k i : Nat} (hk : k < p.length) (hi : p[k] = i) : (q5i p k).set i (B true) = q5i p (k + 1) := by
 apply List.ext_getElem
 · simp
 · intro j h1 h2
   simp only [List.getElem_set, q5i, List.getElem_map, List.getElem_range, List.take_succ_eq_append_getElem hk, List.mem_append, List.mem_singleton]
   by_cases h : i = j
   · subst h; simp [hi]
   · rw [if_neg h]
     have : ¬ ((j : Int) = p[k]) := by omega
     simp [this]

theorem nodup_take {p : List Int} {k : Nat} (hk : k < p.length) (h : (p.take k).Nodup) (hm : p[k] ∉ p.take k) : (p.take (k + 1)).Nodup := by
 rw [List.take_succ_eq_append_getElem hk, List.nodup_append]
 refine ⟨h, by simp, fun a ha b hb => ?_⟩
 simp at hb
 subst hb
 intro e; subst e; exact hm ha

def j9d (pg : Pg) : Prop := ∀ p : List Int, p.length ≤ 1048576 → Call pg 66 [ix p] [ix p] (B (decide (j1z p)))
theorem t_isPermuted {pg : Pg} (hp : pg.fn 66 = some j3w) (h35 : S_in pg 35) : j9d pg := by
 intro p hl
 refine Call.intro hp rfl (by simp) ?_
 show wp _ _ j3w.body (post [.t 2] _ _ _) _
 simp [j3w]
 refine ⟨by unfold roomy; omega, ?_⟩
 refine j0a (fun k e => (∀ i (h : i < p.length), i < k → 0 ≤ p[i] ∧ p[i] < p.length) ∧ (p.take k).Nodup ∧ e = fr [(0, some (.val (ix p))), (3, some (.val (.mem .own (some 1) (q5i p k)))), (9, some (.val (ix p))), (10, some (.val (I p.length))), (11, some (.val (I k)))]) p.length ?_ ?_ 0 _ (by omega) ?_
 · rintro k e hk ⟨h1, h2, rfl⟩
   simp [hk]
   refine ⟨by omega, ?_⟩
   refine j0f (h35 _ _ _) rfl rfl (fun _ => rfl) ?_
   by_cases hv : 0 ≤ p[k] ∧ p[k] ≤ (p.length : Int) - 1
   · obtain ⟨i, hi⟩ : ∃ i : Nat, p[k] = i := ⟨p[k].toNat, by omega⟩
     have hil : i < p.length := by omega
     have hv' : 0 ≤ p[k] ∧ p[k] ≤ (p.length : Int) - 1 := hv
     rw [hi] at hv'
     by_cases hm : (i : Int) ∈ p.take k
     · have hvd : ¬ j1z p := fun h => by
        have h3 : (p.take (k + 1)).Nodup := h.2.sublist (List.take_sublist _ _)
        rw [List.take_succ_eq_append_getElem hk, List.nodup_append] at h3
        exact h3.2.2 _ hm _ (by simp) hi.symm
       simp [hi, hv', hil, seenL_get, hm, hvd]
     · simp [hi, hv', hil, seenL_get, hm]
       refine ⟨by omega, by omega, fun j hj hjk => ?_, nodup_take hk h2 (by rw [hi]; exact hm), ?_⟩
       · rcases Nat.lt_or_ge j k with h3 | h3
         · exact h1 j hj h3
         · have : j = k := by omega
           subst this; omega
       · rw [seenL_set hk hi]
   · have hvd : ¬ j1z p := fun h => hv (by have := h.1 _ (List.getElem_mem hk); omega)
     simp [hv, hvd, j00]
 · rintro e ⟨h1, h2, rfl⟩
   have : j1z p := ⟨fun x hx => by
    obtain ⟨i, hi, rfl⟩ := List.getElem_of_mem hx
    exact h1 i hi hi, by rwa [List.take_length] at h2⟩
   simp [this]
 · simp [seenL_zero]


def q0b (pg : Pg) : Prop := ∀ (t : List (List Int)) (P : List Int → Bool) (f : Nat) (caps : List T), t.length ≤ 1048576 → T.eryL .old caps = caps → T.j0m caps = true → (∀ r ∈ t, Call pg f (ix r :: caps) (ix r :: caps) (B (P r))) →
 ∃ r : Int, (0 ≤ r ↔ t.any P = true) ∧ Call pg 70 [tb t, .fn f caps] [tb t, .fn f caps] (I r)
theorem t_indexFunc {pg : Pg} (hp : pg.fn 70 = some j0p) : q0b pg := by
 intro t P f caps hl hc hno hf
 by_cases hex : ∃ (k : Nat) (hk : k < t.length), (∀ i (h : i < k), P t[i] = false) ∧ P t[k] = true
 · obtain ⟨m, hm, hm1, hm2⟩ := hex
   refine ⟨m, ⟨fun _ => List.any_eq_true.2 ⟨_, List.getElem_mem hm, hm2⟩, fun _ => by omega⟩, Call.intro hp rfl (by simp [hno]) ?_⟩
   show wp _ _ j0p.body (post [.t 4] _ _ _) _
   simp [j0p]
   refine j0a (fun k e => k ≤ m ∧ e = fr [(0, some (.val (tb t))), (1, some (.val (.fn f caps))), (7, some (.val (I t.length))), (8, some (.val (I k)))]) t.length ?_ ?_ 0 _ (by omega) ?_
   · rintro k e hk ⟨h1, rfl⟩
     simp [hk]
     refine j0f (by simpa [hc] using hf t[k] (List.getElem_mem hk)) rfl rfl (fun _ => rfl) ?_
     rcases Nat.lt_or_ge k m with h2 | h2
     · simp [hm1 k h2]
       omega
     · have : k = m := by omega
       subst this
       simp [hm2, hno]
   · rintro e ⟨h1, rfl⟩
     omega
   · simp
 · have hall : ∀ i (h : i < t.length), P t[i] = false := by
    intro i
    induction i using Nat.strongRecOn with
    | _ i ih =>
     intro hi
     cases hv : P t[i] with
     | false => rfl
     | true => exact (hex ⟨i, hi, fun j hj => ih j hj (by omega), hv⟩).elim
   refine ⟨-1, ⟨fun h => by omega, fun h => by
    obtain ⟨r, hr, h2⟩ := List.any_eq_true.1 h
    obtain ⟨i, hi, rfl⟩ := List.getElem_of_mem hr
    rw [hall i hi] at h2; cases h2⟩, Call.intro hp rfl (by simp [hno]) ?_⟩
   show wp _ _ j0p.body (post [.t 4] _ _ _) _
   simp [j0p]
   refine j0a (fun k e => e = fr [(0, some (.val (tb t))), (1, some (.val (.fn f caps))), (7, some (.val (I t.length))), (8, some (.val (I k)))]) t.length ?_ ?_ 0 _ (by omega) ?_
   · rintro k e hk rfl
     simp [hk]
     refine j0f (by simpa [hc] using hf t[k] (List.getElem_mem hk)) rfl rfl (fun _ => rfl) ?_
     simp [hall k hk]
     omega
   · rintro e rfl
     simp [hno]
   · simp

def j57 (pg : Pg) : Prop := ∀ (t : List (List Int)) (P : List Int → Bool) (f : Nat) (caps : List T), t.length ≤ 1048576 → T.eryL .old caps = caps → T.j0m caps = true → (∀ r ∈ t, Call pg f (ix r :: caps) (ix r :: caps) (B (P r))) →
 Call pg 63 [tb t, .fn f caps] [tb t, .fn f caps] (B (t.any P))
theorem q5h {pg : Pg} (hp : pg.fn 63 = some j0t) (h70 : q0b pg) : j57 pg := by
 intro t P f caps hl hc hno hf
 obtain ⟨r, h1, h2⟩ := h70 t P f caps hl hc hno hf
 refine Call.intro hp rfl (by simp [hno]) ?_
 show wp _ _ j0t.body (post [.t 4] _ _ _) _
 simp [j0t, hno, hc]
 refine j0f h2 rfl rfl (fun _ => rfl) ?_
 cases h : t.any P with
 | true => simp [h1.2 h, hno]
 | false =>
  have : ¬ 0 ≤ r := fun hh => by rw [h1.1 hh] at h; cases h
  simp [this, hno]

end Go.Mch
namespace Go.Mch

def q2j (pg : Pg) : Prop := ∀ (r : List Int) (n : Int), r.length ≤ 1048576 → 0 ≤ n → n ≤ 1048576 → Call pg 64 [ix r, .mem .old none [I n]] [ix r, .mem .old none [I n]] (B (decide ((r.length : Int) ≠ n ∨ ¬ inR 0 (n - 1) r)))
theorem t_isTable1 {pg : Pg} (hp : pg.fn 64 = some j3a) (h54 : j8g pg) : q2j pg := by
 intro r n hl h1 h2
 refine Call.intro hp rfl (by simp) ?_
 show wp _ _ j3a.body (post [.t 3] _ _ _) _
 by_cases hn : (r.length : Int) = n
 · simp [j3a, hn]
   refine ⟨by omega, ?_⟩
   refine j0f (h54 _ _ _ hl) rfl rfl (fun _ => rfl) ?_
   by_cases hr : inR 0 (n - 1) r <;> simp [hr]
 · simp [j3a, hn, j00]

theorem t_isTable {pg : Pg} (hp : pg.fn 50 = some j5e) (h35 : S_in pg 35) (h64 : q2j pg) (h63 : j57 pg) : j98 pg 50 := by
 intro t hl hr
 refine Call.intro hp rfl (by simp) ?_
 show wp _ _ j5e.body (post [.t 2] _ _ _) _
 simp [j5e]
 refine j0f (h35 _ 1 12) rfl rfl (fun _ => rfl) ?_
 by_cases hn : 1 ≤ t.length ∧ t.length ≤ 12
 · have hn' : (1 : Int) ≤ t.length ∧ (t.length : Int) ≤ 12 := by omega
   simp [hn']
   refine j0f (h63 t (fun r => decide ((r.length : Int) ≠ t.length ∨ ¬ inR 0 ((t.length : Int) - 1) r)) 64 [.mem .old none [I t.length]] hl rfl rfl (fun r hm => h64 r _ (hr r hm) (by omega) (by omega))) rfl rfl (fun _ => rfl) ?_
   simp
   by_cases ht : j4z t
   · simp [ht]
     intro r hm
     have := ht.2.2 r hm
     exact ⟨by omega, fun v hv => by have := this.2 v hv; omega⟩
   · simp [ht]
     rcases Classical.em (∃ x, x ∈ t ∧ (¬ ((x.length : Nat) : Int) = t.length ∨ ¬ inR 0 ((t.length : Int) - 1) x)) with h | h
     · exact h
     · exfalso
       refine ht ⟨hn.1, hn.2, fun r hm => ?_⟩
       have h1 : ((r.length : Nat) : Int) = t.length ∧ inR 0 ((t.length : Int) - 1) r := by
        refine Classical.byContradiction fun h2 => h ⟨r, hm, ?_⟩
        rcases Classical.em (((r.length : Nat) : Int) = t.length) with h3 | h3
        · exact .inr fun h4 => h2 ⟨h3, h4⟩
        · exact .inl h3
       exact ⟨by omega, fun v hv => by have := h1.2 v hv; omega⟩
 · have hvd : ¬ j4z t := fun ht => hn ⟨ht.1, ht.2.1⟩
   have hn' : ¬ ((1 : Int) ≤ t.length ∧ (t.length : Int) ≤ 12) := by omega
   simp [hn', hvd, j00]

def j99 (pg : Pg) : Prop := ∀ r : List Int, r.length ≤ 1048576 → Call pg 65 [ix r] [ix r] (B (!decide (j1z r)))
theorem t_permRows1 {pg : Pg} (hp : pg.fn 65 = some j1p) (h66 : j9d pg) : j99 pg := by
 intro r hl
 refine Call.intro hp rfl (by simp) ?_
 show wp _ _ j1p.body (post [.t 2] _ _ _) _
 simp [j1p]
 refine j0f (h66 _ hl) rfl rfl (fun _ => rfl) ?_
 simp

def j4w (t : List (List Int)) : Prop := ∀ r ∈ t, j1z r
instance (t : List (List Int)) : Decidable (j4w t) := by unfold j4w; infer_instance

def q2i (pg : Pg) : Prop := ∀ t : List (List Int), t.length ≤ 1048576 → (∀ r ∈ t, r.length ≤ 1048576) → Call pg 51 [tb t] [tb t] (B (decide (j4w t)))
theorem t_permRows {pg : Pg} (hp : pg.fn 51 = some j1v) (h65 : j99 pg) (h63 : j57 pg) : q2i pg := by
 intro t hl hr
 refine Call.intro hp rfl (by simp) ?_
 show wp _ _ j1v.body (post [.t 2] _ _ _) _
 simp [j1v]
 refine j0f (h63 t (fun r => !decide (j1z r)) 65 [] hl rfl rfl (fun r hm => h65 r (hr r hm))) rfl rfl (fun _ => rfl) ?_
 simp only [j4w]
 cases h : t.any fun r => !decide (j1z r) with
 | true =>
  obtain ⟨r, h1, h2⟩ := List.any_eq_true.1 h
  have : ¬ ∀ r, r ∈ t → j1z r := fun hh => by simp [hh r h1] at h2
  simp [this]
 | false =>
  have : ∀ r, r ∈ t → j1z r := fun r hr => by
   have := List.any_eq_false.1 h r hr
   simpa using this
  simp
  exact decide_eq_true this

def S_same (pg : Pg) : Prop := ∀ a b : List Int, a.length ≤ 1048576 → Call pg 67 [ix a, ix b] [ix a, ix b] (B (decide (a = b)))
theorem t_same {pg : Pg} (hp : pg.fn 67 = some j4c) : S_same pg := by
 intro a b ha
 refine Call.intro hp rfl (by simp) ?_
 show wp _ _ j4c.body (post [.t 4] _ _ _) _
 by_cases hl : a.length = b.length
 · simp [j4c, hl]
   refine j0a (fun k e => (∀ i, i < k → a[i]? = b[i]?) ∧ e = fr [(0, some (.val (ix a))), (1, some (.val (ix b))), (5, some (.val (I k)))]) a.length ?_ ?_ 0 _ (by omega) ?_
   · rintro k e hk ⟨h1, rfl⟩
     have hk2 : k < b.length := by omega
     by_cases hne : a[k] = b[k]
     · simp [hk, hk2, hne]
       refine ⟨by omega, fun i hi => ?_⟩
       rcases Nat.lt_or_ge i k with h2 | h2
       · exact h1 i h2
       · have : i = k := by omega
         subst this
         rw [List.getElem?_eq_getElem hk, List.getElem?_eq_getElem hk2, hne]
     · simp [hk, hk2, hne]
       intro h2
       exact hne (by simp [h2])
   · rintro e ⟨h1, rfl⟩
     simp [hl]
     apply List.ext_getElem?
     intro i
     rcases Nat.lt_or_ge i a.length with h2 | h2
     · exact h1 i h2
     · rw [List.getElem?_eq_none h2, List.getElem?_eq_none (by omega)]
   · exact ⟨fun i hi => by omega, by simp⟩
 · have : a ≠ b := fun h => hl (by rw [h])
   have h2 : (a.length : Int) ≠ b.length := by omega
   simp [j4c, h2, this]


abbrev sol (f s : List (List Int)) : T := .agg [tb f, tb s]
def j3s (f s : List (List Int)) : Prop := j4z f ∧ j4z s ∧ f.length = s.length
instance (f s : List (List Int)) : Decidable (j3s f s) := by unfold j3s; infer_instance

def fits (t : List (List Int)) : Prop := t.length ≤ 1048576 ∧ ∀ r ∈ t, r.length ≤ 1048576

def j7v (pg : Pg) (n : Nat) : Prop := ∀ f s : List (List Int), fits f → fits s → Call pg n [sol f s] [sol f s] (B (decide (j3s f s)))
theorem t_l02Map {pg : Pg} (hp : pg.fn 56 = some j5t) (h46 : j98 pg 46) : j7v pg 56 := by
 intro f s hf hs
 refine Call.intro hp rfl (by simp) ?_
 show wp _ _ j5t.body (post [.t 2] _ _ _) _
 simp [j5t]
 refine j0f (h46 _ hf.1 hf.2) rfl rfl (fun _ => rfl) ?_
 by_cases h1 : j4z f
 · simp [h1]
   refine j0f (h46 _ hs.1 hs.2) rfl rfl (fun _ => rfl) ?_
   by_cases h2 : j4z s
   · simp [h2, j3s, h1]
     omega
   · simp [h2, j3s, j00]
 · simp [h1, j3s, j00]
theorem t_isPairMap {pg : Pg} (hp : pg.fn 59 = some j4a) (h50 : j98 pg 50) : j7v pg 59 := by
 intro f s hf hs
 refine Call.intro hp rfl (by simp) ?_
 show wp _ _ j4a.body (post [.t 2] _ _ _) _
 simp [j4a]
 refine j0f (h50 _ hf.1 hf.2) rfl rfl (fun _ => rfl) ?_
 by_cases h1 : j4z f
 · simp [h1]
   refine j0f (h50 _ hs.1 hs.2) rfl rfl (fun _ => rfl) ?_
   by_cases h2 : j4z s
   · simp [h2, j3s, h1]
     omega
   · simp [h2, j3s, j00]
 · simp [h1, j3s, j00]


def v2 (t : List (List Int)) (x y : Nat) : Int := (t.getD x []).getD y 0
theorem j27 {t : List (List Int)} {x y : Nat} (hx : x < t.length) (hy : y < (t[x]).length) : (t[x])[y] = v2 t x y := by
 simp [v2, List.getD_eq_getElem?_getD, hx, hy]
theorem Tab.row {t : List (List Int)} (h : Tab t) {x : Nat} (hx : x < t.length) : (t[x]).length = t.length := (h _ (List.getElem_mem hx)).1
theorem Tab.nonneg {t : List (List Int)} (h : Tab t) (x y : Nat) : 0 ≤ v2 t x y := by
 unfold v2
 rw [List.getD_eq_getElem?_getD, List.getD_eq_getElem?_getD]
 cases h1 : t[x]? with
 | none => simp
 | some r =>
  simp only [Option.getD_some]
  cases h2 : r[y]? with
  | none => simp
  | some v => exact ((h r (List.mem_of_getElem? h1)).2 v (List.mem_of_getElem? h2)).1
theorem Tab.lt {t : List (List Int)} (h : Tab t) (h0 : 0 < t.length) (x y : Nat) : v2 t x y < t.length := by
 unfold v2
 rw [List.getD_eq_getElem?_getD, List.getD_eq_getElem?_getD]
 cases h1 : t[x]? with
 | none => simp; omega
 | some r =>
  simp only [Option.getD_some]
  cases h2 : r[y]? with
  | none => simp; omega
  | some v => exact ((h r (List.mem_of_getElem? h1)).2 v (List.mem_of_getElem? h2)).2
theorem Tab.ltN {t : List (List Int)} (h : Tab t) (h0 : 0 < t.length) (x y : Nat) : (v2 t x y).toNat < t.length := by
 have := h.lt h0 x y
 have := h.nonneg x y
 omega

@[simp] theorem tdiv_nat (a b : Nat) : (a : Int).tdiv (b : Int) = ((a / b : Nat) : Int) := rfl
@[simp] theorem tmod_nat (a b : Nat) : (a : Int).tmod (b : Int) = ((a % b : Nat) : Int) := rfl

theorem least {P : Nat → Prop} {m : Nat} (h : ∃ k, k < m ∧ P k) : ∃ k, k < m ∧ P k ∧ ∀ i, i < k → ¬ P i := by
 obtain ⟨k, h1, h2⟩ := h
 induction k using Nat.strongRecOn with
 | _ k ih =>
  by_cases hh : ∃ i, i < k ∧ P i
  · obtain ⟨i, h3, h4⟩ := hh
    exact ih i h3 (by omega) h4
  · exact ⟨k, h1, h2, fun i hi hp => hh ⟨i, hi, hp⟩⟩

end Go.Mch
namespace Go.Mch

def ownI : Option (List Int) → T
 | none => nil
 | some xs => .mem .own (some 1) (xs.map I)

def up (k : Int) (n : Nat) : List Int := (List.range n).map fun i : Nat => k + i
@[simp] theorem up_length (k : Int) (n : Nat) : (up k n).length = n := by simp [up]

def held : List Int → Int → Int
 | [], k => k
 | x :: xs, k => if x = k then held xs (k + 1) else -1

theorem held_up : ∀ (n : Nat) (k : Int), held (up k n) k = k + n
 | 0, k => by simp [up, held]
 | n + 1, k => by
  have h : up k (n + 1) = k :: up (k + 1) n := by
   simp only [up, List.range_succ_eq_map, List.map_cons, List.map_map]
   congr 1
   · simp
   · apply List.map_congr_left
     intro i _
     simp only [Function.comp]
     omega
  rw [h, held, if_pos rfl, held_up n (k + 1)]
  omega

def S_heldI (pg : Pg) : Prop := ∀ (a : Rw Int) (k : Int), (lst a).length ≤ 1048576 → -1 ≤ k → k ≤ 4611686018427387904 → Call pg 13 [rawI a, I k] [rawI a, I k] (I (held (lst a) k))
def upto (k : Int) (xs : List Int) (j : Nat) : List Int := (List.range xs.length).map fun i : Nat => if i < j then k + i else xs.getD i 0
@[simp] theorem upto_length (k : Int) (xs : List Int) (j : Nat) : (upto k xs j).length = xs.length := by simp [upto]
def S_markI (pg : Pg) : Prop := ∀ (a : Option (List Int)) (k : Int), (lso a).length ≤ 1048576 → -1 ≤ k → k ≤ 4611686018427387904 → Call pg 12 [ownI a, I k] [ownI (a.map fun xs => up k xs.length), I k] (I (k + (lso a).length))
theorem S_markI.at {pg : Pg} (h : S_markI pg) (xs : List Int) (k : Int) (h1 : xs.length ≤ 1048576) (h2 : -1 ≤ k) (h3 : k ≤ 4611686018427387904) : Call pg 12 [.mem .own (some 1) (xs.map I), I k] [.mem .own (some 1) ((up k xs.length).map I), I k] (I (k + xs.length)) := h (some xs) k h1 h2 h3

def ownT : Option (List (List Int)) → T
 | none => nil
 | some xss => .mem .own (some 1) (rows xss)

def kAt (k : Int) (xss : List (List Int)) (j : Nat) : Int := k + ((xss.take j).map List.length).sum
def j5l (xss : List (List Int)) : Prop := xss.length ≤ 1048576 ∧ ∀ r ∈ xss, r.length ≤ 1048576

theorem kAt_zero (k : Int) (xss : List (List Int)) : kAt k xss 0 = k := by simp [kAt]
theorem kAt_succ (k : Int) (xss : List (List Int)) {j : Nat} (hj : j < xss.length) : kAt k xss (j + 1) = kAt k xss j + (xss[j]).length := by
 unfold kAt
 rw [List.take_succ_eq_append_getElem hj, List.map_append, List.sum_append]
 simp only [List.map_cons, List.map_nil, List.sum_cons, List.sum_nil, Int.natCast_add]
 omega
theorem kAt_le {k : Int} {xss : List (List Int)} (h : j5l xss) : ∀ j, j ≤ xss.length → k ≤ kAt k xss j ∧ kAt k xss j ≤ k + j * 1048576
 | 0, _ => by simp [kAt]
 | j + 1, hj => by
  have h1 := kAt_le (k := k) h j (by omega)
  have h2 := h.2 _ (List.getElem_mem (show j < xss.length by omega))
  rw [kAt_succ k xss (by omega)]
  simp only [Int.natCast_add]
  omega

def upT (k : Int) (xss : List (List Int)) : List (List Int) := (List.range xss.length).map fun j => up (kAt k xss j) (xss.getD j []).length
@[simp] theorem upT_length (k : Int) (xss : List (List Int)) : (upT k xss).length = xss.length := by simp [upT]
def q15 : List (List Int) → Int → Int
 | [], k => k
 | r :: rs, k => if held r k < 0 then -1 else q15 rs (held r k)

theorem heldL_up : ∀ (n : Nat) (xss : List (List Int)) (k : Int) (j : Nat), 0 ≤ k → j + n = xss.length → q15 ((upT k xss).drop j) (kAt k xss j) = kAt k xss xss.length
 | 0, xss, k, j, _, h => by
  have : j = xss.length := by omega
  subst this
  have : (upT k xss).drop xss.length = [] := by rw [List.drop_eq_nil_iff]; simp
  rw [this]; rfl
 | n + 1, xss, k, j, hk, h => by
  have hj : j < xss.length := by omega
  have hd : (upT k xss).drop j = (upT k xss)[j]'(by simpa using hj) :: (upT k xss).drop (j + 1) := List.drop_eq_getElem_cons (by simpa using hj)
  have hg : (upT k xss)[j]'(by simpa using hj) = up (kAt k xss j) (xss[j]).length := by
   simp [upT, List.getD_eq_getElem?_getD, List.getElem?_eq_getElem hj]
  have hp : 0 ≤ kAt k xss j := by unfold kAt; omega
  rw [hd, hg, q15, held_up, if_neg (by omega), ← kAt_succ k xss hj]
  exact heldL_up n xss k (j + 1) hk (by omega)
theorem q0x (xss : List (List Int)) (k : Int) (hk : 0 ≤ k) : q15 (upT k xss) k = kAt k xss xss.length := by
 have := heldL_up xss.length xss k 0 hk (by omega)
 rwa [kAt_zero, List.drop_zero] at this

def S_heldT (pg : Pg) : Prop := ∀ (a : Rw (Rw Int)) (k : Int), small a → -1 ≤ k → k ≤ 2305843009213693952 → Call pg 24 [rawT a, I k] [rawT a, I k] (I (q15 ((lst a).map lst) k))
def S_markT (pg : Pg) : Prop := ∀ (a : Option (List (List Int))) (k : Int), j5l (lso a) → 0 ≤ k → k ≤ 2305843009213693952 → Call pg 23 [ownT a, I k] [ownT (a.map (upT k)), I k] (I (kAt k (lso a) (lso a).length))
theorem S_markT.at {pg : Pg} (h : S_markT pg) (xss : List (List Int)) (k : Int) (h1 : j5l xss) (h2 : 0 ≤ k) (h3 : k ≤ 2305843009213693952) : Call pg 23 [.mem .own (some 1) (rows xss), I k] [.mem .own (some 1) (rows (upT k xss)), I k] (I (kAt k xss xss.length)) := h (some xss) k h1 h2 h3
end Go.Mch
namespace Go.Mch

def coll (f s : List (List Int)) (a b : Nat) : Prop :=
 a ≠ b ∧ v2 f (a / f.length) (a % f.length) = v2 f (b / f.length) (b % f.length) ∧ v2 s (a / f.length) (a % f.length) = v2 s (b / f.length) (b % f.length)
def Inj (f s : List (List Int)) : Prop := ∀ a, a < f.length * f.length → ∀ b, b < f.length * f.length → ¬ coll f s a b
instance (f s : List (List Int)) (a b : Nat) : Decidable (coll f s a b) := by unfold coll; infer_instance
instance (f s : List (List Int)) : Decidable (Inj f s) := by unfold Inj; infer_instance

structure PM (f s : List (List Int)) : Prop where
 tf : Tab f
 ts : Tab s
 len : s.length = f.length
 pos : 0 < f.length
 small : f.length ≤ 12
theorem PM.of {f s : List (List Int)} (h : j3s f s) : PM f s := ⟨h.1.2.2, h.2.1.2.2, h.2.2.symm, h.1.1, h.1.2.1⟩

theorem q2a {n a : Nat} (h : a < n * n) : a / n < n ∧ a % n < n := by
 have hn : 0 < n := by
  rcases Nat.eq_zero_or_pos n with h0 | h0
  · subst h0; simp at h
  · exact h0
 exact ⟨Nat.div_lt_of_lt_mul h, Nat.mod_lt _ hn⟩

def q7z (pg : Pg) : Prop := ∀ f s : List (List Int), PM f s → ∃ l : List Int, (l.length = 0 ↔ Inj f s) ∧ l.length ≤ 4 ∧ Call pg 57 [sol f s] [sol f s] (.mem .own (some 1) (l.map I))
set_option maxRecDepth 10000 in
theorem t_coll57 {pg : Pg} (hp : pg.fn 57 = some j1m) : q7z pg := by
 intro f s h
 have h0 := h.pos
 have h12 := h.small
 have h0' : f.length ≠ 0 := by omega
 have hsq : f.length * f.length ≤ 144 := Nat.mul_le_mul h12 h12
 have hsq' : ((f.length : Int) * f.length) ≤ 144 := by exact_mod_cast hsq
 have hsq0 : 0 ≤ ((f.length : Int) * f.length) := by exact_mod_cast Nat.zero_le _
 have fr' := fun x hx => h.tf.row (x := x) hx
 have sr' : ∀ x (hx : x < s.length), (s[x]).length = f.length := fun x hx => (h.ts.row hx).trans h.len
 have loop : ∀ (a b : Nat), a < f.length * f.length → b < f.length * f.length → coll f s a b → True := fun _ _ _ _ _ => trivial
 by_cases hex : ∃ a, a < f.length * f.length ∧ ∃ b, b < f.length * f.length ∧ coll f s a b
 · obtain ⟨a, ha, hb, hmin⟩ := least hex
   obtain ⟨b, hb, hc, hmin2⟩ := least hb
   have hni : ¬ Inj f s := fun hi => hi a ha b hb hc
   refine ⟨[((a / f.length : Nat) : Int), ((a % f.length : Nat) : Int), ((b / f.length : Nat) : Int), ((b % f.length : Nat) : Int)], by simp [hni], by simp, Call.intro hp rfl (by simp) ?_⟩
   show wp _ _ j1m.body (post [.t 2] _ _ _) _
   simp [j1m]
   refine j0a (fun k e => k ≤ a ∧ e = fr [(1, some (.val (.mem .own none [tb f, tb s]))), (3, some (.val (I f.length))), (4, some (.val (I k)))]) (f.length * f.length) ?_ ?_ 0 _ (by omega) ?_
   · rintro k e hk ⟨h1, rfl⟩
     have hk1 := q2a hk
     have hki : (k : Int) < (f.length : Int) * f.length := by exact_mod_cast hk
     have hq1 : 0 ≤ (k : Int) / f.length ∧ (k : Int) / f.length < f.length := ⟨by exact_mod_cast Nat.zero_le _, by exact_mod_cast hk1.1⟩
     have hr1 : 0 ≤ (k : Int) % f.length ∧ (k : Int) % f.length < f.length := ⟨by exact_mod_cast Nat.zero_le _, by exact_mod_cast hk1.2⟩
     have ht1 : ((k : Int) / f.length).toNat = k / f.length := by rw [← Int.natCast_ediv]; exact Int.toNat_natCast _
     have hu1 : ((k : Int) % f.length).toNat = k % f.length := by rw [← Int.natCast_emod]; exact Int.toNat_natCast _
     simp [hki]
     refine ⟨by omega, ?_⟩
     rcases Nat.lt_or_ge k a with hka | hka
     · refine j0a (fun j e => e = fr [(1, some (.val (.mem .own none [tb f, tb s]))), (3, some (.val (I f.length))), (4, some (.val (I k))), (5, some (.val (I j)))]) (f.length * f.length) ?_ ?_ 0 _ (by omega) ?_
       · rintro j e hj rfl
         have hj1 := q2a hj
         have hji : (j : Int) < (f.length : Int) * f.length := by exact_mod_cast hj
         have hq2 : 0 ≤ (j : Int) / f.length ∧ (j : Int) / f.length < f.length := ⟨by exact_mod_cast Nat.zero_le _, by exact_mod_cast hj1.1⟩
         have hr2 : 0 ≤ (j : Int) % f.length ∧ (j : Int) % f.length < f.length := ⟨by exact_mod_cast Nat.zero_le _, by exact_mod_cast hj1.2⟩
         have ht2 : ((j : Int) / f.length).toNat = j / f.length := by rw [← Int.natCast_ediv]; exact Int.toNat_natCast _
         have hu2 : ((j : Int) % f.length).toNat = j % f.length := by rw [← Int.natCast_emod]; exact Int.toNat_natCast _
         have hnc : ¬ coll f s k j := fun hcc => hmin k hka ⟨j, hj, hcc⟩
         by_cases hkj : k = j
         · subst hkj
           clear hj hj1 hnc
           simp [hji, h0', j00]
           omega
         · have hkjI : (k : Int) ≠ j := by omega
           by_cases hv1 : v2 f (k / f.length) (k % f.length) = v2 f (j / f.length) (j % f.length)
           · by_cases hv2 : v2 s (k / f.length) (k % f.length) = v2 s (j / f.length) (j % f.length)
             · have hcc : coll f s k j := ⟨hkj, hv1, hv2⟩
               exact (hnc hcc).elim
             · simp [hkjI, hk1, hj1, hq1, hq2, hr1, hr2, ht1, ht2, hu1, hu2, hji, h0', fr', sr', h.len, j27, hv1, hv2]
               omega
           · simp [hkjI, hk1, hj1, hq1, hq2, hr1, hr2, ht1, ht2, hu1, hu2, hji, h0', fr', j27, j00, hv1]
             omega
       · rintro e rfl
         simp
         omega
       · simp
     · have hka2 : k = a := by omega
       subst hka2
       refine j0a (fun j e => j ≤ b ∧ e = fr [(1, some (.val (.mem .own none [tb f, tb s]))), (3, some (.val (I f.length))), (4, some (.val (I k))), (5, some (.val (I j)))]) (f.length * f.length) ?_ ?_ 0 _ (by omega) ?_
       · rintro j e hj ⟨hjb, rfl⟩
         have hj1 := q2a hj
         have hji : (j : Int) < (f.length : Int) * f.length := by exact_mod_cast hj
         have hq2 : 0 ≤ (j : Int) / f.length ∧ (j : Int) / f.length < f.length := ⟨by exact_mod_cast Nat.zero_le _, by exact_mod_cast hj1.1⟩
         have hr2 : 0 ≤ (j : Int) % f.length ∧ (j : Int) % f.length < f.length := ⟨by exact_mod_cast Nat.zero_le _, by exact_mod_cast hj1.2⟩
         have ht2 : ((j : Int) / f.length).toNat = j / f.length := by rw [← Int.natCast_ediv]; exact Int.toNat_natCast _
         have hu2 : ((j : Int) % f.length).toNat = j % f.length := by rw [← Int.natCast_emod]; exact Int.toNat_natCast _
         rcases Nat.lt_or_ge j b with hlt | hge
         · have hnc : ¬ coll f s k j := hmin2 j hlt
           by_cases hkj : k = j
           · subst hkj
             clear hj hj1 hnc
             simp [hji, h0', j00]
             omega
           · have hkjI : (k : Int) ≠ j := by omega
             by_cases hv1 : v2 f (k / f.length) (k % f.length) = v2 f (j / f.length) (j % f.length)
             · by_cases hv2 : v2 s (k / f.length) (k % f.length) = v2 s (j / f.length) (j % f.length)
               · have hcc : coll f s k j := ⟨hkj, hv1, hv2⟩
                 exact (hnc hcc).elim
               · simp [hkjI, hk1, hj1, hq1, hq2, hr1, hr2, ht1, ht2, hu1, hu2, hji, h0', fr', sr', h.len, j27, hv1, hv2]
                 omega
             · simp [hkjI, hk1, hj1, hq1, hq2, hr1, hr2, ht1, ht2, hu1, hu2, hji, h0', fr', j27, j00, hv1]
               omega
         · have hjb2 : j = b := by omega
           subst hjb2
           obtain ⟨hkj, hv1, hv2⟩ := hc
           have hkjI : (k : Int) ≠ j := by omega
           simp [hkjI, hk1, hj1, hq1, hq2, hr1, hr2, ht1, ht2, hu1, hu2, hji, h0', fr', sr', h.len, j27, hv1, hv2]
           try omega
       · rintro e ⟨h1, rfl⟩
         omega
       · simp
   · rintro e ⟨h1, rfl⟩
     omega
   · simp
 · have hi : Inj f s := fun a ha b hb hc => hex ⟨a, ha, b, hb, hc⟩
   refine ⟨[], by simp [hi], by simp, Call.intro hp rfl (by simp) ?_⟩
   show wp _ _ j1m.body (post [.t 2] _ _ _) _
   simp [j1m]
   refine j0a (fun k e => e = fr [(1, some (.val (.mem .own none [tb f, tb s]))), (3, some (.val (I f.length))), (4, some (.val (I k)))]) (f.length * f.length) ?_ ?_ 0 _ (by omega) ?_
   · rintro k e hk rfl
     have hk1 := q2a hk
     have hki : (k : Int) < (f.length : Int) * f.length := by exact_mod_cast hk
     have hq1 : 0 ≤ (k : Int) / f.length ∧ (k : Int) / f.length < f.length := ⟨by exact_mod_cast Nat.zero_le _, by exact_mod_cast hk1.1⟩
     have hr1 : 0 ≤ (k : Int) % f.length ∧ (k : Int) % f.length < f.length := ⟨by exact_mod_cast Nat.zero_le _, by exact_mod_cast hk1.2⟩
     have ht1 : ((k : Int) / f.length).toNat = k / f.length := by rw [← Int.natCast_ediv]; exact Int.toNat_natCast _
     have hu1 : ((k : Int) % f.length).toNat = k % f.length := by rw [← Int.natCast_emod]; exact Int.toNat_natCast _
     simp [hki]
     refine ⟨by omega, ?_⟩
     refine j0a (fun j e => e = fr [(1, some (.val (.mem .own none [tb f, tb s]))), (3, some (.val (I f.length))), (4, some (.val (I k))), (5, some (.val (I j)))]) (f.length * f.length) ?_ ?_ 0 _ (by omega) ?_
     · rintro j e hj rfl
       have hj1 := q2a hj
       have hji : (j : Int) < (f.length : Int) * f.length := by exact_mod_cast hj
       have hq2 : 0 ≤ (j : Int) / f.length ∧ (j : Int) / f.length < f.length := ⟨by exact_mod_cast Nat.zero_le _, by exact_mod_cast hj1.1⟩
       have hr2 : 0 ≤ (j : Int) % f.length ∧ (j : Int) % f.length < f.length := ⟨by exact_mod_cast Nat.zero_le _, by exact_mod_cast hj1.2⟩
       have ht2 : ((j : Int) / f.length).toNat = j / f.length := by rw [← Int.natCast_ediv]; exact Int.toNat_natCast _
       have hu2 : ((j : Int) % f.length).toNat = j % f.length := by rw [← Int.natCast_emod]; exact Int.toNat_natCast _
       have hnc : ¬ coll f s k j := hi k hk j hj
       by_cases hkj : k = j
       · subst hkj
         clear hj hj1 hnc
         simp [hji, h0', j00]
         omega
       · have hkjI : (k : Int) ≠ j := by omega
         by_cases hv1 : v2 f (k / f.length) (k % f.length) = v2 f (j / f.length) (j % f.length)
         · by_cases hv2 : v2 s (k / f.length) (k % f.length) = v2 s (j / f.length) (j % f.length)
           · have hcc : coll f s k j := ⟨hkj, hv1, hv2⟩
             exact (hnc hcc).elim
           · simp [hkjI, hk1, hj1, hq1, hq2, hr1, hr2, ht1, ht2, hu1, hu2, hji, h0', fr', sr', h.len, j27, hv1, hv2]
             omega
         · simp [hkjI, hk1, hj1, hq1, hq2, hr1, hr2, ht1, ht2, hu1, hu2, hji, h0', fr', j27, j00, hv1]
           omega
     · rintro e rfl
       simp
       omega
     · simp
   · rintro e rfl
     simp
     try omega
   · simp

def q7y (pg : Pg) : Prop := ∀ f s : List (List Int), PM f s → ∃ o : Option (List Int), (o = none ↔ Inj f s) ∧ Call pg 60 [sol f s] [sol f s] (ownI o)
set_option maxRecDepth 10000 in
theorem t_coll60 {pg : Pg} (hp : pg.fn 60 = some j1t) : q7y pg := by
 intro f s h
 have h0 := h.pos
 have h12 := h.small
 have h0' : f.length ≠ 0 := by omega
 have hsq : f.length * f.length ≤ 144 := Nat.mul_le_mul h12 h12
 have hsq' : ((f.length : Int) * f.length) ≤ 144 := by exact_mod_cast hsq
 have hsq0 : 0 ≤ ((f.length : Int) * f.length) := by exact_mod_cast Nat.zero_le _
 have fr' := fun x hx => h.tf.row (x := x) hx
 have sr' : ∀ x (hx : x < s.length), (s[x]).length = f.length := fun x hx => (h.ts.row hx).trans h.len
 have loop : ∀ (a b : Nat), a < f.length * f.length → b < f.length * f.length → coll f s a b → True := fun _ _ _ _ _ => trivial
 by_cases hex : ∃ a, a < f.length * f.length ∧ ∃ b, b < f.length * f.length ∧ coll f s a b
 · obtain ⟨a, ha, hb, hmin⟩ := least hex
   obtain ⟨b, hb, hc, hmin2⟩ := least hb
   have hni : ¬ Inj f s := fun hi => hi a ha b hb hc
   refine ⟨some [((a / f.length : Nat) : Int), ((a % f.length : Nat) : Int), ((b / f.length : Nat) : Int), ((b % f.length : Nat) : Int)], by simp [hni], Call.intro hp rfl (by simp) ?_⟩
   simp only [ownI]
   show wp _ _ j1t.body (post [.t 2] _ _ _) _
   simp [j1t]
   refine ⟨by omega, ?_⟩
   refine j0a (fun k e => k ≤ a ∧ e = fr [(1, some (.val (.mem .own none [tb f, tb s]))), (3, some (.val (I f.length))), (15, some (.val (I ((f.length : Int) * f.length)))), (16, some (.val (I k)))]) (f.length * f.length) ?_ ?_ 0 _ (by omega) ?_
   · rintro k e hk ⟨h1, rfl⟩
     have hk1 := q2a hk
     have hki : (k : Int) < (f.length : Int) * f.length := by exact_mod_cast hk
     have hq1 : 0 ≤ (k : Int) / f.length ∧ (k : Int) / f.length < f.length := ⟨by exact_mod_cast Nat.zero_le _, by exact_mod_cast hk1.1⟩
     have hr1 : 0 ≤ (k : Int) % f.length ∧ (k : Int) % f.length < f.length := ⟨by exact_mod_cast Nat.zero_le _, by exact_mod_cast hk1.2⟩
     have ht1 : ((k : Int) / f.length).toNat = k / f.length := by rw [← Int.natCast_ediv]; exact Int.toNat_natCast _
     have hu1 : ((k : Int) % f.length).toNat = k % f.length := by rw [← Int.natCast_emod]; exact Int.toNat_natCast _
     simp [hki, h0']
     refine ⟨by omega, by omega, ?_⟩
     rcases Nat.lt_or_ge k a with hka | hka
     · refine j0a (fun j e => e = fr [(1, some (.val (.mem .own none [tb f, tb s]))), (3, some (.val (I f.length))), (4, some (.val (I k))), (5, some (.val (I ((k / f.length : Nat) : Int)))), (6, some (.val (I ((k % f.length : Nat) : Int)))), (15, some (.val (I ((f.length : Int) * f.length)))), (16, some (.val (I k))), (27, some (.val (I ((f.length : Int) * f.length)))), (28, some (.val (I j)))]) (f.length * f.length) ?_ ?_ 0 _ (by omega) ?_
       · rintro j e hj rfl
         have hj1 := q2a hj
         have hji : (j : Int) < (f.length : Int) * f.length := by exact_mod_cast hj
         have hq2 : 0 ≤ (j : Int) / f.length ∧ (j : Int) / f.length < f.length := ⟨by exact_mod_cast Nat.zero_le _, by exact_mod_cast hj1.1⟩
         have hr2 : 0 ≤ (j : Int) % f.length ∧ (j : Int) % f.length < f.length := ⟨by exact_mod_cast Nat.zero_le _, by exact_mod_cast hj1.2⟩
         have ht2 : ((j : Int) / f.length).toNat = j / f.length := by rw [← Int.natCast_ediv]; exact Int.toNat_natCast _
         have hu2 : ((j : Int) % f.length).toNat = j % f.length := by rw [← Int.natCast_emod]; exact Int.toNat_natCast _
         have hnc : ¬ coll f s k j := fun hcc => hmin k hka ⟨j, hj, hcc⟩
         by_cases hkj : k = j
         · subst hkj
           clear hj hj1 hnc
           simp [hji, h0', j00]
           omega
         · have hkjI : (k : Int) ≠ j := by omega
           by_cases hv1 : v2 f (k / f.length) (k % f.length) = v2 f (j / f.length) (j % f.length)
           · by_cases hv2 : v2 s (k / f.length) (k % f.length) = v2 s (j / f.length) (j % f.length)
             · have hcc : coll f s k j := ⟨hkj, hv1, hv2⟩
               exact (hnc hcc).elim
             · simp [hkjI, hk1, hj1, hq1, hq2, hr1, hr2, ht1, ht2, hu1, hu2, hji, h0', fr', sr', h.len, j27, hv1, hv2]
               omega
           · simp [hkjI, hk1, hj1, hq1, hq2, hr1, hr2, ht1, ht2, hu1, hu2, hji, h0', fr', j27, j00, hv1]
             omega
       · rintro e rfl
         simp
         omega
       · simp
     · have hka2 : k = a := by omega
       subst hka2
       refine j0a (fun j e => j ≤ b ∧ e = fr [(1, some (.val (.mem .own none [tb f, tb s]))), (3, some (.val (I f.length))), (4, some (.val (I k))), (5, some (.val (I ((k / f.length : Nat) : Int)))), (6, some (.val (I ((k % f.length : Nat) : Int)))), (15, some (.val (I ((f.length : Int) * f.length)))), (16, some (.val (I k))), (27, some (.val (I ((f.length : Int) * f.length)))), (28, some (.val (I j)))]) (f.length * f.length) ?_ ?_ 0 _ (by omega) ?_
       · rintro j e hj ⟨hjb, rfl⟩
         have hj1 := q2a hj
         have hji : (j : Int) < (f.length : Int) * f.length := by exact_mod_cast hj
         have hq2 : 0 ≤ (j : Int) / f.length ∧ (j : Int) / f.length < f.length := ⟨by exact_mod_cast Nat.zero_le _, by exact_mod_cast hj1.1⟩
         have hr2 : 0 ≤ (j : Int) % f.length ∧ (j : Int) % f.length < f.length := ⟨by exact_mod_cast Nat.zero_le _, by exact_mod_cast hj1.2⟩
         have ht2 : ((j : Int) / f.length).toNat = j / f.length := by rw [← Int.natCast_ediv]; exact Int.toNat_natCast _
         have hu2 : ((j : Int) % f.length).toNat = j % f.length := by rw [← Int.natCast_emod]; exact Int.toNat_natCast _
         rcases Nat.lt_or_ge j b with hlt | hge
         · have hnc : ¬ coll f s k j := hmin2 j hlt
           by_cases hkj : k = j
           · subst hkj
             clear hj hj1 hnc
             simp [hji, h0', j00]
             omega
           · have hkjI : (k : Int) ≠ j := by omega
             by_cases hv1 : v2 f (k / f.length) (k % f.length) = v2 f (j / f.length) (j % f.length)
             · by_cases hv2 : v2 s (k / f.length) (k % f.length) = v2 s (j / f.length) (j % f.length)
               · have hcc : coll f s k j := ⟨hkj, hv1, hv2⟩
                 exact (hnc hcc).elim
               · simp [hkjI, hk1, hj1, hq1, hq2, hr1, hr2, ht1, ht2, hu1, hu2, hji, h0', fr', sr', h.len, j27, hv1, hv2]
                 omega
             · simp [hkjI, hk1, hj1, hq1, hq2, hr1, hr2, ht1, ht2, hu1, hu2, hji, h0', fr', j27, j00, hv1]
               omega
         · have hjb2 : j = b := by omega
           subst hjb2
           obtain ⟨hkj, hv1, hv2⟩ := hc
           have hkjI : (k : Int) ≠ j := by omega
           simp [hkjI, hk1, hj1, hq1, hq2, hr1, hr2, ht1, ht2, hu1, hu2, hji, h0', fr', sr', h.len, j27, hv1, hv2]
           try omega
       · rintro e ⟨h1, rfl⟩
         omega
       · simp
   · rintro e ⟨h1, rfl⟩
     omega
   · simp
 · have hi : Inj f s := fun a ha b hb hc => hex ⟨a, ha, b, hb, hc⟩
   refine ⟨none, by simp [hi], Call.intro hp rfl (by simp) ?_⟩
   simp only [ownI]
   show wp _ _ j1t.body (post [.t 2] _ _ _) _
   simp [j1t]
   refine ⟨by omega, ?_⟩
   refine j0a (fun k e => e = fr [(1, some (.val (.mem .own none [tb f, tb s]))), (3, some (.val (I f.length))), (15, some (.val (I ((f.length : Int) * f.length)))), (16, some (.val (I k)))]) (f.length * f.length) ?_ ?_ 0 _ (by omega) ?_
   · rintro k e hk rfl
     have hk1 := q2a hk
     have hki : (k : Int) < (f.length : Int) * f.length := by exact_mod_cast hk
     have hq1 : 0 ≤ (k : Int) / f.length ∧ (k : Int) / f.length < f.length := ⟨by exact_mod_cast Nat.zero_le _, by exact_mod_cast hk1.1⟩
     have hr1 : 0 ≤ (k : Int) % f.length ∧ (k : Int) % f.length < f.length := ⟨by exact_mod_cast Nat.zero_le _, by exact_mod_cast hk1.2⟩
     have ht1 : ((k : Int) / f.length).toNat = k / f.length := by rw [← Int.natCast_ediv]; exact Int.toNat_natCast _
     have hu1 : ((k : Int) % f.length).toNat = k % f.length := by rw [← Int.natCast_emod]; exact Int.toNat_natCast _
     simp [hki, h0']
     refine ⟨by omega, by omega, ?_⟩
     refine j0a (fun j e => e = fr [(1, some (.val (.mem .own none [tb f, tb s]))), (3, some (.val (I f.length))), (4, some (.val (I k))), (5, some (.val (I ((k / f.length : Nat) : Int)))), (6, some (.val (I ((k % f.length : Nat) : Int)))), (15, some (.val (I ((f.length : Int) * f.length)))), (16, some (.val (I k))), (27, some (.val (I ((f.length : Int) * f.length)))), (28, some (.val (I j)))]) (f.length * f.length) ?_ ?_ 0 _ (by omega) ?_
     · rintro j e hj rfl
       have hj1 := q2a hj
       have hji : (j : Int) < (f.length : Int) * f.length := by exact_mod_cast hj
       have hq2 : 0 ≤ (j : Int) / f.length ∧ (j : Int) / f.length < f.length := ⟨by exact_mod_cast Nat.zero_le _, by exact_mod_cast hj1.1⟩
       have hr2 : 0 ≤ (j : Int) % f.length ∧ (j : Int) % f.length < f.length := ⟨by exact_mod_cast Nat.zero_le _, by exact_mod_cast hj1.2⟩
       have ht2 : ((j : Int) / f.length).toNat = j / f.length := by rw [← Int.natCast_ediv]; exact Int.toNat_natCast _
       have hu2 : ((j : Int) % f.length).toNat = j % f.length := by rw [← Int.natCast_emod]; exact Int.toNat_natCast _
       have hnc : ¬ coll f s k j := hi k hk j hj
       by_cases hkj : k = j
       · subst hkj
         clear hj hj1 hnc
         simp [hji, h0', j00]
         omega
       · have hkjI : (k : Int) ≠ j := by omega
         by_cases hv1 : v2 f (k / f.length) (k % f.length) = v2 f (j / f.length) (j % f.length)
         · by_cases hv2 : v2 s (k / f.length) (k % f.length) = v2 s (j / f.length) (j % f.length)
           · have hcc : coll f s k j := ⟨hkj, hv1, hv2⟩
             exact (hnc hcc).elim
           · simp [hkjI, hk1, hj1, hq1, hq2, hr1, hr2, ht1, ht2, hu1, hu2, hji, h0', fr', sr', h.len, j27, hv1, hv2]
             omega
         · simp [hkjI, hk1, hj1, hq1, hq2, hr1, hr2, ht1, ht2, hu1, hu2, hji, h0', fr', j27, j00, hv1]
           omega
     · rintro e rfl
       simp
       omega
     · simp
   · rintro e rfl
     simp
     try omega
   · simp


end Go.Mch
namespace Go.Mch

def g2 (t : List (List Int)) (x y : Int) : Int := v2 t x.toNat y.toNat
theorem get_g2 {t : List (List Int)} {x y : Int} (hx : x.toNat < t.length) (hy : y.toNat < (t[x.toNat]).length) : (t[x.toNat])[y.toNat] = g2 t x y := j27 hx hy
def inN (n : Nat) (w : List Int) : Prop := ∀ x ∈ w, 0 ≤ x ∧ x < n
theorem PM.gF {f s : List (List Int)} (h : PM f s) (x y : Int) : 0 ≤ g2 f x y ∧ g2 f x y < f.length := ⟨h.tf.nonneg _ _, h.tf.lt h.pos _ _⟩
theorem PM.gS {f s : List (List Int)} (h : PM f s) (x y : Int) : 0 ≤ g2 s x y ∧ g2 s x y < f.length := ⟨h.ts.nonneg _ _, by have := h.ts.lt (by rw [h.len]; exact h.pos) x.toNat y.toNat; rw [h.len] at this; exact this⟩

def dW (f s : List (List Int)) (w : List Int) (i : Nat) : List Int :=
 (w.set i (g2 f (w.getD i 0) (w.getD (i + 1) 0))).set (i + 1) (g2 s (w.getD i 0) (w.getD (i + 1) 0))
@[simp] theorem dW_length (f s : List (List Int)) (w : List Int) (i : Nat) : (dW f s w i).length = w.length := by simp [dW]
theorem set_in {n : Nat} {w : List Int} (h : inN n w) {i : Nat} {v : Int} (hv : 0 ≤ v ∧ v < n) : inN n (w.set i v) := by
 intro x hx
 rcases List.mem_or_eq_of_mem_set hx with h1 | h1
 · exact h x h1
 · rw [h1]; exact hv
theorem dW_in {f s : List (List Int)} (h : PM f s) {w : List Int} (hw : inN f.length w) (i : Nat) : inN f.length (dW f s w i) := set_in (set_in hw (h.gF _ _)) (h.gS _ _)

def S_do (pg : Pg) (n : Nat) : Prop := ∀ (f s : List (List Int)) (w : List Int) (i : Nat), PM f s → i + 1 < w.length → w.length ≤ 1048576 → inN f.length w →
 Call pg n [sol f s, ix w, I i] [sol f s, ix w, I i] (.mem .own (some 1) ((dW f s w i).map I))
set_option maxRecDepth 10000 in
theorem do_of {pg : Pg} {n : Nat} (hp : pg.fn n = some j6b) (h31 : S_own pg) : S_do pg n := by
 intro f s w i h hi hl hw
 refine Call.intro hp rfl (by simp) ?_
 show wp _ _ j6b.body (post [.t 6] _ _ _) _
 have h1 := hw _ (List.getElem_mem (show i < w.length by omega))
 have h2 := hw _ (List.getElem_mem hi)
 have fr' := fun x hx => h.tf.row (x := x) hx
 have sr' : ∀ x (hx : x < s.length), (s[x]).length = f.length := fun x hx => (h.ts.row hx).trans h.len
 have hi0 : i < w.length := by omega
 have hiI : (i : Int) + 1 < w.length := by omega
 have e1 : ((i : Int) + 1).toNat = i + 1 := by omega
 have t1 : (w[i]).toNat < f.length := by omega
 have t2 : (w[i + 1]).toNat < f.length := by omega
 have hb : -9223372036854775808 ≤ (i : Int) + 1 ∧ (i : Int) + 1 ≤ 9223372036854775807 := by omega
 have hb0 : 0 ≤ (i : Int) + 1 := by omega
 simp [j6b]
 refine j0f (h31 _ hl) rfl rfl (fun _ => by simp) ?_
 simp [hi, hb, hb0, hi0, hiI, e1, h1, h2, t1, t2, fr', sr', h.len, get_g2]
 refine ⟨by omega, by omega, ?_⟩
 simp [dW, hi0, hi]

def ybAt (f s : List (List Int)) (x y z : Nat) : Prop := dW f s (dW f s (dW f s [(x : Int), y, z] 0) 1) 0 = dW f s (dW f s (dW f s [(x : Int), y, z] 1) 0) 1
def YB (f s : List (List Int)) : Prop := ∀ x y z : Nat, x < f.length → y < f.length → z < f.length → ybAt f s x y z
instance (f s : List (List Int)) (x y z : Nat) : Decidable (ybAt f s x y z) := by unfold ybAt; infer_instance

theorem first3 (P : Nat → Nat → Nat → Prop) (n : Nat) : (∀ x y z, x < n → y < n → z < n → ¬ P x y z) ∨
 ∃ a b c, a < n ∧ b < n ∧ c < n ∧ P a b c ∧ ∀ x y z, x < n → y < n → z < n → P x y z → a < x ∨ (a = x ∧ (b < y ∨ (b = y ∧ c ≤ z))) := by
 by_cases h : ∃ a, a < n ∧ ∃ b, b < n ∧ ∃ c, c < n ∧ P a b c
 · right
   obtain ⟨a, ha, hb, h1⟩ := least h
   obtain ⟨b, hb, hc, h2⟩ := least hb
   obtain ⟨c, hc, hp, h3⟩ := least hc
   refine ⟨a, b, c, ha, hb, hc, hp, fun x y z hx hy hz hq => ?_⟩
   rcases Nat.lt_trichotomy a x with g | g | g
   · exact .inl g
   · subst g
     right
     refine ⟨rfl, ?_⟩
     rcases Nat.lt_trichotomy b y with g | g | g
     · exact .inl g
     · subst g
       right
       refine ⟨rfl, ?_⟩
       rcases Nat.lt_or_ge z c with g | g
       · exact absurd hq (h3 z g)
       · exact g
     · exact absurd ⟨z, hz, hq⟩ (h2 y g)
   · exact absurd ⟨y, hy, z, hz, hq⟩ (h1 x g)
 · left
   intro x y z hx hy hz hp
   exact h ⟨x, hx, y, hy, z, hz, hp⟩

theorem fault (f s : List (List Int)) : ∃ (a b c : Nat) (l : List Int), (l.length = 0 ↔ YB f s) ∧ (a < f.length → l = [(a : Int), b, c] ∧ b < f.length ∧ c < f.length ∧ ¬ ybAt f s a b c) ∧ (¬ a < f.length → a = f.length ∧ l = []) ∧ l.length ≤ 3 ∧
 ∀ x y z, x < f.length → y < f.length → z < f.length → ¬ ybAt f s x y z → a < x ∨ (a = x ∧ (b < y ∨ (b = y ∧ c ≤ z))) := by
 rcases first3 (fun x y z => ¬ ybAt f s x y z) f.length with h | ⟨a, b, c, ha, hb, hc, hp, h⟩
 · refine ⟨f.length, 0, 0, [], ⟨fun _ x y z hx hy hz => ?_, fun _ => rfl⟩, fun h => absurd h (Nat.lt_irrefl _), fun _ => ⟨rfl, rfl⟩, by simp, fun x y z hx hy hz hn => absurd hn (h x y z hx hy hz)⟩
   exact Decidable.of_not_not (h x y z hx hy hz)
 · exact ⟨a, b, c, [(a : Int), b, c], ⟨fun h => by simp at h, fun h => absurd (h a b c ha hb hc) hp⟩, fun _ => ⟨rfl, hb, hc, hp⟩, fun h => absurd ha h, by simp, h⟩

def q5f (pg : Pg) : Prop := ∀ f s : List (List Int), PM f s → ∃ l : List Int, (l.length = 0 ↔ YB f s) ∧ l.length ≤ 3 ∧ Call pg 58 [sol f s] [sol f s] (.mem .own (some 1) (l.map I))

theorem w3_in {n x y z : Nat} (hx : x < n) (hy : y < n) (hz : z < n) : inN n [(x : Int), y, z] := by
 intro v hv
 simp at hv
 omega

set_option maxRecDepth 10000 in
theorem t_fault58 {pg : Pg} (hp : pg.fn 58 = some j4m) (h68 : S_do pg 68) (h67 : S_same pg) : q5f pg := by
 intro f s h
 obtain ⟨a, b, c, l, hl, hf1, hf2, hf3, hmin⟩ := fault f s
 have h0 := h.pos
 have h12 := h.small
 refine ⟨l, hl, hf3, Call.intro hp rfl (by simp) ?_⟩
 show wp _ _ j4m.body (post [.t 2] _ _ _) _
 simp [j4m]
 refine j0a (fun x e => x ≤ a ∧ e = fr [(1, some (.val (.mem .own none [tb f, tb s]))), (3, some (.val (I f.length))), (4, some (.val (I x)))]) f.length ?_ ?_ 0 _ (by omega) ?_
 · rintro x e hx ⟨hxa, rfl⟩
   simp [hx]
   refine j0a (fun y e => (x = a → y ≤ b) ∧ e = fr [(1, some (.val (.mem .own none [tb f, tb s]))), (3, some (.val (I f.length))), (4, some (.val (I x))), (5, some (.val (I y)))]) f.length ?_ ?_ 0 _ (by omega) ?_
   · rintro y e hy ⟨hyb, rfl⟩
     simp [hy]
     refine j0a (fun z e => (x = a → y = b → z ≤ c) ∧ e = fr [(1, some (.val (.mem .own none [tb f, tb s]))), (3, some (.val (I f.length))), (4, some (.val (I x))), (5, some (.val (I y))), (6, some (.val (I z)))]) f.length ?_ ?_ 0 _ (by omega) ?_
     · rintro z e hz ⟨hzc, rfl⟩
       have hw := w3_in hx hy hz
       have d1 := dW_in h hw 0
       have d2 := dW_in h d1 1
       have d3 := dW_in h hw 1
       have d4 := dW_in h d3 0
       simp [hz]
       refine j0f (h68 f s [(x : Int), y, z] 0 h (by simp) (by simp) hw) rfl rfl (fun _ => by simp) ?_
       simp
       refine j0f (h68 f s _ 1 h (by simp) (by simp) d1) rfl rfl (fun _ => by simp) ?_
       simp
       refine j0f (h68 f s _ 0 h (by simp) (by simp) d2) rfl rfl (fun _ => by simp) ?_
       simp
       refine j0f (h68 f s [(x : Int), y, z] 1 h (by simp) (by simp) hw) rfl rfl (fun _ => by simp) ?_
       simp
       refine j0f (h68 f s _ 0 h (by simp) (by simp) d3) rfl rfl (fun _ => by simp) ?_
       simp
       refine j0f (h68 f s _ 1 h (by simp) (by simp) d4) rfl rfl (fun _ => by simp) ?_
       simp
       refine j0f (h67 _ _ (by simp)) rfl rfl (fun _ => rfl) ?_
       by_cases hy2 : ybAt f s x y z
       · have hy3 := hy2
         unfold ybAt at hy3
         simp [hy3]
         have : ¬ (x = a ∧ y = b ∧ z = c) := fun ⟨e1, e2, e3⟩ => by
          subst e1 e2 e3
          exact (hf1 hx).2.2.2 hy2
         omega
       · have hy3 := hy2
         unfold ybAt at hy3
         have := hmin x y z hx hy hz hy2
         have e1 : x = a := by omega
         subst e1
         have e2 : y = b := by have := hyb rfl; omega
         subst e2
         have e3 : z = c := by have := hzc rfl rfl; omega
         subst e3
         simp [hy3, (hf1 hx).1]
     · rintro e ⟨hzc, rfl⟩
       simp
       have : ¬ (x = a ∧ y = b) := fun ⟨e1, e2⟩ => by
        have := hzc e1 e2
        have := (hf1 (by omega)).2.2.1
        omega
       omega
     · simp
   · rintro e ⟨hyb, rfl⟩
     simp
     have : ¬ x = a := fun e1 => by
      have := hyb e1
      have := (hf1 (by omega)).2.1
      omega
     omega
   · simp
 · rintro e ⟨h1, rfl⟩
   simp [(hf2 (by omega)).2]
 · simp

theorem yb_v2 (f s : List (List Int)) (x y z : Nat) : ybAt f s x y z ↔
 (v2 f (v2 f x y).toNat (v2 f (v2 s x y).toNat z).toNat = v2 f x (v2 f y z).toNat ∧
  v2 s (v2 f x y).toNat (v2 f (v2 s x y).toNat z).toNat = v2 f (v2 s x (v2 f y z).toNat).toNat (v2 s y z).toNat ∧
  v2 s (v2 s x y).toNat z = v2 s (v2 s x (v2 f y z).toNat).toNat (v2 s y z).toNat) := by
 simp [ybAt, dW, g2]

def q5e (pg : Pg) : Prop := ∀ f s : List (List Int), PM f s → ∃ o : Option (List Int), (o = none ↔ YB f s) ∧ Call pg 61 [sol f s] [sol f s] (ownI o)
set_option maxRecDepth 10000 in
theorem t_fault61 {pg : Pg} (hp : pg.fn 61 = some j2p) : q5e pg := by
 intro f s h
 obtain ⟨a, b, c, l, hl, hf1, hf2, hf3, hmin⟩ := fault f s
 have h0 := h.pos
 have h12 := h.small
 have fr' := fun x hx => h.tf.row (x := x) hx
 have sr' : ∀ x (hx : x < s.length), (s[x]).length = f.length := fun x hx => (h.ts.row hx).trans h.len
 have hF0 : ∀ i j, 0 ≤ v2 f i j := h.tf.nonneg
 have hF1 : ∀ i j, v2 f i j < f.length := h.tf.lt h0
 have hF2 : ∀ i j, (v2 f i j).toNat < f.length := h.tf.ltN h0
 have hS0 : ∀ i j, 0 ≤ v2 s i j := h.ts.nonneg
 have hS1 : ∀ i j, v2 s i j < f.length := fun i j => by have := h.ts.lt (by rw [h.len]; exact h0) i j; rw [h.len] at this; exact this
 have hS2 : ∀ i j, (v2 s i j).toNat < f.length := fun i j => by have := hS0 i j; have := hS1 i j; omega
 refine ⟨if a < f.length then some l else none, ?_, Call.intro hp rfl (by simp) ?_⟩
 · by_cases ha : a < f.length
   · have h1 := (hf1 ha).1
     rw [← hl, if_pos ha, h1]
     simp
   · have h1 := (hf2 ha).2
     rw [← hl, if_neg ha, h1]
     simp
 show wp _ _ j2p.body (post [.t 2] _ _ _) _
 simp [j2p]
 refine j0a (fun x e => x ≤ a ∧ e = fr [(1, some (.val (.mem .own none [tb f, tb s]))), (3, some (.val (I f.length))), (16, some (.val (I f.length))), (17, some (.val (I x)))]) f.length ?_ ?_ 0 _ (by omega) ?_
 · rintro x e hx ⟨hxa, rfl⟩
   simp [hx]
   refine j0a (fun y e => (x = a → y ≤ b) ∧ e = fr [(1, some (.val (.mem .own none [tb f, tb s]))), (3, some (.val (I f.length))), (4, some (.val (I x))), (16, some (.val (I f.length))), (17, some (.val (I x))), (20, some (.val (I f.length))), (21, some (.val (I y)))]) f.length ?_ ?_ 0 _ (by omega) ?_
   · rintro y e hy ⟨hyb, rfl⟩
     simp [hy]
     refine j0a (fun z e => (x = a → y = b → z ≤ c) ∧ e = fr [(1, some (.val (.mem .own none [tb f, tb s]))), (3, some (.val (I f.length))), (4, some (.val (I x))), (5, some (.val (I y))), (16, some (.val (I f.length))), (17, some (.val (I x))), (20, some (.val (I f.length))), (21, some (.val (I y))), (24, some (.val (I f.length))), (25, some (.val (I z)))]) f.length ?_ ?_ 0 _ (by omega) ?_
     · rintro z e hz ⟨hzc, rfl⟩
       have hyb2 := yb_v2 f s x y z
       simp [hx, hy, hz, fr', sr', h.len, j27, hF0, hF1, hF2, hS0, hS1, hS2]
       have bad : ¬ ybAt f s x y z → x = a ∧ y = b ∧ z = c := fun hn => by
        have := hmin x y z hx hy hz hn
        have e1 : x = a := by omega
        have e2 : y = b := by have := hyb e1; omega
        have e3 : z = c := by have := hzc e1 e2; omega
        exact ⟨e1, e2, e3⟩
       by_cases e1 : v2 f (v2 f x y).toNat (v2 f (v2 s x y).toNat z).toNat = v2 f x (v2 f y z).toNat
       · by_cases e2 : v2 s (v2 f x y).toNat (v2 f (v2 s x y).toNat z).toNat = v2 f (v2 s x (v2 f y z).toNat).toNat (v2 s y z).toNat
         · by_cases e3 : v2 s (v2 s x y).toNat z = v2 s (v2 s x (v2 f y z).toNat).toNat (v2 s y z).toNat
           · simp [e1, e2, e3]
             have : ¬ (x = a ∧ y = b ∧ z = c) := fun ⟨g1, g2, g3⟩ => by
              subst g1 g2 g3
              exact (hf1 hx).2.2.2 (hyb2.2 ⟨e1, e2, e3⟩)
             omega
           · obtain ⟨g1, g2, g3⟩ := bad fun hh => e3 (hyb2.1 hh).2.2
             subst g1 g2 g3
             simp [e1, e2, e3, hx, (hf1 hx).1, ownI]
         · obtain ⟨g1, g2, g3⟩ := bad fun hh => e2 (hyb2.1 hh).2.1
           subst g1 g2 g3
           simp [e1, e2, j00, hx, (hf1 hx).1, ownI]
       · obtain ⟨g1, g2, g3⟩ := bad fun hh => e1 (hyb2.1 hh).1
         subst g1 g2 g3
         simp [e1, j00, hx, (hf1 hx).1, ownI]
     · rintro e ⟨hzc, rfl⟩
       simp
       have : ¬ (x = a ∧ y = b) := fun ⟨e1, e2⟩ => by
        have := hzc e1 e2
        have := (hf1 (by omega)).2.2.1
        omega
       omega
     · simp
   · rintro e ⟨hyb, rfl⟩
     simp
     have : ¬ x = a := fun e1 => by
      have := hyb e1
      have := (hf1 (by omega)).2.1
      omega
     omega
   · simp
 · rintro e ⟨h1, rfl⟩
   have h2 : ¬ a < f.length := by omega
   simp [h2, ownI]
 · simp

def q21 (f s : List (List Int)) : Prop := j3s f s ∧ Inj f s ∧ YB f s

noncomputable def dec (p : Prop) : Bool := @decide p (Classical.propDecidable p)
theorem j1f {p : Prop} (h : p) : dec p = true := by simp [dec, h]
theorem j0v {p : Prop} (h : ¬ p) : dec p = false := by simp [dec, h]

def q2k (pg : Pg) (n : Nat) : Prop := ∀ f s : List (List Int), fits f → fits s → Call pg n [sol f s] [sol f s] (B (dec (q21 f s)))
theorem t_l02Is {pg : Pg} (hp : pg.fn 41 = some j6a) (h56 : j7v pg 56) (h57 : q7z pg) (h58 : q5f pg) : q2k pg 41 := by
 intro f s hf hs
 refine Call.intro hp rfl (by simp) ?_
 show wp _ _ j6a.body (post [.t 2] _ _ _) _
 simp [j6a]
 refine j0f (h56 f s hf hs) rfl rfl (fun _ => rfl) ?_
 by_cases h1 : j3s f s
 · have hpm := PM.of h1
   obtain ⟨l, hl, hl2, hc⟩ := h57 f s hpm
   simp [h1]
   refine j0f hc rfl rfl (fun _ => by simp) ?_
   by_cases h2 : Inj f s
   · have h3 := hl.2 h2
     obtain ⟨l2, hm, hm2, hc2⟩ := h58 f s hpm
     simp [h3]
     refine j0f hc2 rfl rfl (fun _ => by simp) ?_
     by_cases h4 : YB f s
     · have h5 := hm.2 h4
       simp [h5, j1f (show q21 f s from ⟨h1, h2, h4⟩)]
     · have h5 : ¬ l2.length = 0 := fun h => h4 (hm.1 h)
       have h6 : ¬ ((l2.length : Nat) : Int) = 0 := by omega
       simp [h5, j0v (show ¬ q21 f s from fun h => h4 h.2.2)]
   · have h3 : ¬ l.length = 0 := fun h => h2 (hl.1 h)
     have h6 : ¬ ((l.length : Nat) : Int) = 0 := by omega
     simp [h3, j00, j0v (show ¬ q21 f s from fun h => h2 h.2.1)]
 · simp [h1, j00, j0v (show ¬ q21 f s from fun h => h1 h.1)]

theorem t_IsSolution {pg : Pg} (hp : pg.fn 42 = some j3y) (h59 : j7v pg 59) (h60 : q7y pg) (h61 : q5e pg) : q2k pg 42 := by
 intro f s hf hs
 refine Call.intro hp rfl (by simp) ?_
 show wp _ _ j3y.body (post [.t 2] _ _ _) _
 simp [j3y]
 refine j0f (h59 f s hf hs) rfl rfl (fun _ => rfl) ?_
 by_cases h1 : j3s f s
 · have hpm := PM.of h1
   obtain ⟨l, hl, hc⟩ := h60 f s hpm
   simp [h1]
   refine j0f hc rfl rfl (fun _ => by cases l <;> simp [ownI]) ?_
   by_cases h2 : Inj f s
   · have h3 := hl.2 h2
     subst h3
     obtain ⟨l2, hm, hc2⟩ := h61 f s hpm
     simp [ownI]
     refine j0f hc2 rfl rfl (fun _ => by cases l2 <;> simp [ownI]) ?_
     by_cases h4 : YB f s
     · have h5 := hm.2 h4
       subst h5
       simp [ownI, j1f (show q21 f s from ⟨h1, h2, h4⟩)]
     · cases l2 with
       | none => exact absurd (hm.1 rfl) h4
       | some l2 => simp [ownI, j0v (show ¬ q21 f s from fun h => h4 h.2.2)]
   · cases l with
     | none => exact absurd (hl.1 rfl) h2
     | some l => simp [ownI, j00, j0v (show ¬ q21 f s from fun h => h2 h.2.1)]
 · simp [h1, j00, j0v (show ¬ q21 f s from fun h => h1 h.1)]
end Go.Mch
namespace Go.Mch

theorem j6t (a b : List (List Int)) : rows (a ++ b) = rows a ++ rows b := by simp [rows]

end Go.Mch
namespace Go.Mch

def eT : Option (List (List Int)) → T
 | none => nil
 | some X => tb X
def ryT (o : Option (List (List Int))) : Rw (Rw Int) := Rw.ofO (o.map fun X => X.map .of)
theorem q1w (o : Option (List (List Int))) : rawT (ryT o) = eT o := by
 cases o with
 | none => rfl
 | some X => exact rawT_tb X
theorem map_lst_of {α : Type} (X : List (List α)) : (X.map Rw.of).map lst = X := by simp [Function.comp_def]
theorem q6b (o : Option (List (List Int))) : (lst (ryT o)).map lst = lso o := by
 cases o with
 | none => rfl
 | some X => exact map_lst_of X
theorem j7y {o : Option (List (List Int))} (h : j5l (lso o)) : small (ryT o) := by
 cases o with
 | none => exact ⟨by simp [ryT, Rw.ofO, lst], by simp [ryT, Rw.ofO, lst]⟩
 | some X => exact ⟨by simpa [ryT, Rw.ofO] using h.1, by simpa [ryT, Rw.ofO] using h.2⟩
theorem S_eqT.o {pg : Pg} (h : S_eqT pg) (o o' : Option (List (List Int))) (hs : j5l (lso o)) : Call pg 21 [eT o, eT o'] [eT o, eT o'] (B (decide (lso o = lso o'))) := by
 have := h (ryT o) (ryT o') (j7y hs)
 simp only [q1w, q6b] at this
 exact this
theorem S_heldT.o {pg : Pg} (h : S_heldT pg) (o : Option (List (List Int))) (k : Int) (hs : j5l (lso o)) (h1 : -1 ≤ k) (h2 : k ≤ 2305843009213693952) : Call pg 24 [eT o, I k] [eT o, I k] (I (q15 (lso o) k)) := by
 have := h (ryT o) k (j7y hs) h1 h2
 simp only [q1w, q6b] at this
 exact this
theorem S_eqSol.o {pg : Pg} (h : S_eqSol pg) (X Y Z W : List (List Int)) (hX : j5l X) (hY : j5l Y) : Call pg 18 [.agg [tb X, tb Y], .agg [tb Z, tb W]] [.agg [tb X, tb Y], .agg [tb Z, tb W]] (B (decide (X = Z ∧ Y = W))) := by
 have := h (ryT (some X)) (ryT (some Y)) (ryT (some Z)) (ryT (some W)) (j7y hX) (j7y hY)
 simp only [q1w, q6b] at this
 exact this

theorem q3k {X : List (List Int)} (h : j5l X) (k : Int) : j5l (upT k X) := by
 refine ⟨by simpa [upT] using h.1, fun r hr => ?_⟩
 simp only [upT, List.mem_map, List.mem_range] at hr
 obtain ⟨j, hj, rfl⟩ := hr
 rw [up_length]
 have := h.2 X[j] (List.getElem_mem hj)
 simpa [List.getD_eq_getElem?_getD, hj] using this

end Go.Mch
namespace Go.Mch

def isTup (n : Int) (xs : List Int) : Prop := xs.length ≤ 12 ∧ inR 0 (n - 1) xs
instance (n : Int) (xs : List Int) : Decidable (isTup n xs) := by unfold isTup; infer_instance
def S_clone (pg : Pg) : Prop := ∀ xs : List Int, xs.length ≤ 1048576 → Call pg 36 [ix xs] [ix xs] (.mem .own (some 1) (xs.map I))
theorem t_clone {pg : Pg} (hp : pg.fn 36 = some j08) : S_clone pg := by
 intro xs hl
 refine Call.intro hp rfl (by simp) ?_
 show wp _ _ j08.body (post [.t 2] _ _ _) _
 simp [j08, roomy]
 omega

def tmOk (f : List (List Int)) (w : List Int) (p : Int) : Prop := isTup f.length w ∧ 0 ≤ p ∧ p ≤ (w.length : Int) - 2
instance (f : List (List Int)) (w : List Int) (p : Int) : Decidable (tmOk f w p) := by unfold tmOk; infer_instance
end Go.Mch
namespace Go.Mch

def eI : Option (List Int) → T
 | none => nil
 | some X => ix X
theorem rawI_ry (o : Option (List Int)) : rawI (Rw.ofO o) = eI o := by cases o <;> rfl
theorem S_eqI.o {pg : Pg} (h : S_eqI pg) (o o' : Option (List Int)) (hs : (lso o).length ≤ 1048576) : Call pg 9 [eI o, eI o'] [eI o, eI o'] (B (decide (lso o = lso o'))) := by
 have := h (Rw.ofO o) (Rw.ofO o') (by simpa using hs)
 simp only [rawI_ry, lst_ofO] at this
 exact this
theorem S_heldI.o {pg : Pg} (h : S_heldI pg) (o : Option (List Int)) (k : Int) (hs : (lso o).length ≤ 1048576) (h1 : -1 ≤ k) (h2 : k ≤ 4611686018427387904) : Call pg 13 [eI o, I k] [eI o, I k] (I (held (lso o) k)) := by
 have := h (Rw.ofO o) k (by simpa using hs) h1 h2
 simp only [rawI_ry, lst_ofO] at this
 exact this
end Go.Mch
namespace Go.Mch


theorem j3c {α : Type} [DecidableEq α] : ∀ (l p : List α), l.Nodup → (∀ x ∈ l, x ∈ p) → l.length ≤ p.length
 | [], _, _, _ => by simp
 | a :: l, p, hd, hs => by
  have ha : a ∈ p := hs a (by simp)
  have hn := List.nodup_cons.1 hd
  have := j3c l (p.erase a) hn.2 fun x hx => by
   have hne : x ≠ a := fun e => hn.1 (e ▸ hx)
   exact (List.mem_erase_of_ne hne).2 (hs x (by simp [hx]))
  have h2 := List.length_erase_of_mem ha
  have h3 : 0 < p.length := List.length_pos_of_mem ha
  simp only [List.length_cons]
  omega

theorem j8y {α : Type} [DecidableEq α] : ∀ (l p : List α), l.Nodup → (∀ x ∈ l, x ∈ p) → p.length = l.length → p.Nodup
 | [], p, _, _, h => by
  have : p = [] := List.eq_nil_of_length_eq_zero (by simpa using h)
  subst this
  exact List.nodup_nil
 | a :: l, p, hd, hs, h => by
  have ha : a ∈ p := hs a (by simp)
  have hn := List.nodup_cons.1 hd
  have h2 := List.length_erase_of_mem ha
  have h4 : (p.erase a).length = l.length := by simp only [List.length_cons] at h; omega
  have hsub : ∀ x ∈ l, x ∈ p.erase a := fun x hx => by
   have hne : x ≠ a := fun e => hn.1 (e ▸ hx)
   exact (List.mem_erase_of_ne hne).2 (hs x (by simp [hx]))
  have hp := j8y l (p.erase a) hn.2 hsub h4
  have hna : a ∉ p.erase a := fun hm => by
   have := j3c (a :: l) (p.erase a) hd fun x hx => by
    rcases List.mem_cons.1 hx with rfl | hx
    · exact hm
    · exact hsub x hx
   simp only [List.length_cons] at this
   omega
  exact (List.perm_cons_erase ha).nodup_iff.2 (List.nodup_cons.2 ⟨hna, hp⟩)

def nums (n : Nat) : List Int := (List.range n).map Int.ofNat
theorem q12 (n : Nat) : (nums n).Nodup := by
 refine List.Pairwise.map _ (fun a b h => ?_) (List.nodup_range (n := n))
 intro e
 exact h (Int.ofNat.inj e)
theorem j74 {p : List Int} (h1 : 1 ≤ p.length) (h2 : p.length ≤ 12) (hr : ∀ x ∈ p, 0 ≤ x ∧ x < p.length) : isPerm p ↔ j1z p := by
 constructor
 · intro h
   refine ⟨hr, j8y (nums p.length) p (q12 _) (fun x hx => ?_) (by simp [nums])⟩
   simp only [nums, List.mem_map, List.mem_range] at hx
   obtain ⟨k, hk, rfl⟩ := hx
   exact h.2.2 k hk
 · intro h
   refine ⟨h1, h2, fun x hx => ?_⟩
   by_cases hm : (x : Int) ∈ p
   · exact hm
   · have := j3c p ((nums p.length).erase x) h.2 fun y hy => by
      have hy2 := hr y hy
      have hne : y ≠ (x : Int) := fun e => hm (e ▸ hy)
      refine (List.mem_erase_of_ne hne).2 ?_
      simp only [nums, List.mem_map, List.mem_range]
      exact ⟨y.toNat, by omega, by show ((y.toNat : Nat) : Int) = y; omega⟩
     have hx2 : (x : Int) ∈ nums p.length := by
      simp only [nums, List.mem_map, List.mem_range]
      exact ⟨x, hx, rfl⟩
     have h3 := List.length_erase_of_mem hx2
     have h4 : (nums p.length).length = p.length := by simp [nums]
     omega
end Go.Mch
namespace Go.Mch

def sdAt (t : List (List Int)) (x y z : Nat) : Prop := v2 t x (v2 t y z).toNat = v2 t (v2 t x y).toNat (v2 t x z).toNat
instance (t : List (List Int)) (x y z : Nat) : Decidable (sdAt t x y z) := by unfold sdAt; infer_instance
end Go.Mch
namespace Go.Mch

theorem S_eqRack.o {pg : Pg} (h : S_eqRack pg) (X Z : List (List Int)) (hX : j5l X) : Call pg 10 [.agg [tb X], .agg [tb Z]] [.agg [tb X], .agg [tb Z]] (B (decide (X = Z))) := by
 have := h (ryT (some X)) (ryT (some Z)) (j7y hX)
 simp only [q1w, q6b] at this
 exact this

end Go.Mch
namespace Go.Mch

@[simp] theorem frzL_mapI (k : K) (xs : List Int) : T.frzL k (xs.map I) = xs.map I := by
 induction xs with
 | nil => rfl
 | cons x xs ih => simp [ih]
@[simp] theorem frzL_tbL (k : K) (t : List (List Int)) : T.frzL k (tbL t) = tbL t := by
 induction t with
 | nil => rfl
 | cons x xs ih => simp only [tbL, List.map_cons] at ih ⊢; simp [ih]
theorem j2s {α : Type} (f : Nat → α) (k : Nat) : (List.range (k + 1)).map f = (List.range k).map f ++ [f k] := by simp [List.range_succ]

def tabL (n : Nat) (g : Nat → Nat → Int) : List (List Int) := (List.range n).map fun x => (List.range n).map fun y => g x y
@[simp] theorem tabL_length (n : Nat) (g : Nat → Nat → Int) : (tabL n g).length = n := by simp [tabL]
theorem j9f {n : Nat} {g : Nat → Nat → Int} {r : List Int} (h : r ∈ tabL n g) : r.length = n := by
 simp only [tabL, List.mem_map] at h
 obtain ⟨x, _, rfl⟩ := h
 simp
theorem q1m {n : Nat} {g : Nat → Nat → Int} {x y : Nat} (hx : x < n) (hy : y < n) : v2 (tabL n g) x y = g x y := by
 simp [v2, tabL, hx, hy]
theorem tab_of {n : Nat} {g : Nat → Nat → Int} (h : ∀ x y, x < n → y < n → 0 ≤ g x y ∧ g x y < n) : Tab (tabL n g) := by
 intro r hr
 refine ⟨by rw [j9f hr]; simp, fun v hv => ?_⟩
 simp only [tabL, List.mem_map, List.mem_range] at hr
 obtain ⟨x, hx, rfl⟩ := hr
 simp only [List.mem_map, List.mem_range] at hv
 obtain ⟨y, hy, rfl⟩ := hv
 simpa using h x y hx hy
theorem q5r {n : Nat} {g g' : Nat → Nat → Int} (h : ∀ x y, x < n → y < n → g x y = g' x y) : tabL n g = tabL n g' := by
 unfold tabL
 apply List.map_congr_left
 intro x hx
 apply List.map_congr_left
 intro y hy
 exact h x y (by simpa using hx) (by simpa using hy)
def colL (t : List (List Int)) (y : Nat) : List Int := (List.range t.length).map fun x => v2 t x y
def j0z (t : List (List Int)) : List (List Int) := tabL t.length fun x y => v2 t y x
@[simp] theorem colL_length (t : List (List Int)) (y : Nat) : (colL t y).length = t.length := by simp [colL]
@[simp] theorem q74 (t : List (List Int)) : (j0z t).length = t.length := by simp [j0z]
theorem turnL_tab {t : List (List Int)} (h : Tab t) (h0 : 0 < t.length) : Tab (j0z t) := by
 apply tab_of
 intro x y hx hy
 exact ⟨h.nonneg _ _, h.lt h0 _ _⟩

def q7x (pg : Pg) : Prop := ∀ (t : List (List Int)) (y : Nat), t.length ≤ 1048576 → (∀ r ∈ t, y < r.length) → Call pg 375 [tb t, I y] [tb t, I y] (.mem .own (some 1) ((colL t y).map I))
theorem t_column {pg : Pg} (hp : pg.fn 375 = some j37) : q7x pg := by
 intro t y hl hr
 refine Call.intro hp rfl (by simp) ?_
 show wp _ _ j37.body (post [.t 4] _ _ _) _
 simp [j37]
 refine j0a (fun k e => e = fr [(0, some (.val (tb t))), (1, some (.val (I y))), (5, some (.val (.mem .own (some 1) (((List.range k).map fun x => v2 t x y).map I)))), (6, some (.val (I k)))]) t.length ?_ ?_ 0 _ (by omega) ?_
 · rintro k e hk rfl
   have hy := hr _ (List.getElem_mem hk)
   simp [hk, hy, j27, j2s, roomy]
   omega
 · rintro e rfl
   simp [colL]
 · simp

def q1i (pg : Pg) (n : Nat) : Prop := ∀ t : List (List Int), Tab t → t.length ≤ 12 → Call pg n [tb t] [tb t] (.mem .own (some 1) (rows (j0z t)))
theorem turnL_rows (t : List (List Int)) : j0z t = (List.range t.length).map fun y => colL t y := rfl
theorem t_l01Turn {pg : Pg} (hp : pg.fn 265 = some j46) (h375 : q7x pg) : q1i pg 265 := by
 intro t ht hl
 refine Call.intro hp rfl (by simp) ?_
 show wp _ _ j46.body (post [.t 2] _ _ _) _
 simp [j46]
 refine j0a (fun k e => e = fr [(0, some (.val (tb t))), (3, some (.val (.mem .own (some 1) (rows ((List.range k).map fun y => colL t y))))), (4, some (.val (I k)))]) t.length ?_ ?_ 0 _ (by omega) ?_
 · rintro k e hk rfl
   simp [hk]
   refine j0f (h375 t k (by omega) (fun r hr => by rw [(ht r hr).1]; exact hk)) rfl rfl (fun _ => by simp) ?_
   simp [j2s, j6t, roomy]
   simp [rows]
   omega
 · rintro e rfl
   simp [turnL_rows]
 · simp [rows]

def q5b (pg : Pg) : Prop := ∀ (n : Nat) (g : Nat → Nat → Int) (f : Nat) (caps : List T), n ≤ 1048576 → T.eryL .old caps = caps → T.j0m caps = true →
 (∀ x y : Nat, x < n → y < n → Call pg f (I x :: I y :: caps) (I x :: I y :: caps) (I (g x y))) → Call pg 376 [I n, .fn f caps] [I n, .fn f caps] (.mem .own (some 1) (rows (tabL n g)))

theorem set_mid {α : Type} {l : List α} {r : List α} {k : Nat} {z v : α} (h : l.length = k) : (l ++ z :: r).set k v = l ++ v :: r := by
 subst h; simp
theorem j7r {α : Type} {n k : Nat} (z : α) (h : k < n) : List.replicate (n - k) z = z :: List.replicate (n - (k + 1)) z := by
 rw [show n - k = (n - (k + 1)) + 1 from by omega, List.replicate_succ]

set_option maxRecDepth 10000 in
theorem t_tableBy {pg : Pg} (hp : pg.fn 376 = some j5d) : q5b pg := by
 intro n g f caps hn hc1 hc2 hc
 refine Call.intro hp rfl (by simp [hc2]) ?_
 show wp _ _ j5d.body (post [.t 4] _ _ _) _
 simp [j5d]
 refine ⟨by unfold roomy; omega, ?_⟩
 refine j0a (fun x e => e = fr [(0, some (.val (I n))), (1, some (.val (.fn f caps))), (5, some (.val (.mem .own (some 1) (rows ((List.range x).map fun i => (List.range n).map (g i)) ++ List.replicate (n - x) nil)))), (11, some (.val (I n))), (12, some (.val (I x)))]) n ?_ ?_ 0 _ (by omega) ?_
 · rintro x e hx rfl
   have hlen : (rows ((List.range x).map fun i => (List.range n).map (g i))).length = x := by simp
   rw [j7r nil hx]
   simp [hx, set_mid hlen]
   refine ⟨by unfold roomy; omega, by omega, ?_⟩
   refine j0a (fun y e => e = fr [(0, some (.val (I n))), (1, some (.val (.fn f caps))), (5, some (.val (.mem .own (some 1) (rows ((List.range x).map fun i => (List.range n).map (g i)) ++ .mem .own (some 1) (((List.range y).map (g x)).map I ++ List.replicate (n - y) (I 0)) :: List.replicate (n - (x + 1)) nil)))), (6, some (.val (I x))), (11, some (.val (I n))), (12, some (.val (I x))), (24, some (.val (I n))), (25, some (.val (I y)))]) n ?_ ?_ 0 _ (by omega) ?_
   · rintro y e hy rfl
     have hlen2 : (((List.range y).map (g x)).map I).length = y := by simp
     rw [j7r (I 0) hy]
     simp [hy]
     refine ⟨by omega, ?_⟩
     refine j0f (by simpa [hc1] using hc x y hx hy) rfl rfl (fun _ => by simp) ?_
     simp [set_mid hlen, j2s]
     omega
   · rintro e rfl
     simp [j2s, j6t]
     simp [rows]
     omega
   · simp
 · rintro e rfl
   simp [tabL, hc2]
 · simp [rows]

def S_turn1 (pg : Pg) : Prop := ∀ (t : List (List Int)) (x y : Nat) (hx : x < t.length) (hy : y < t.length), (t[y]).length = t.length → Call pg 377 [I x, I y, .mem .old none [tb t]] [I x, I y, .mem .old none [tb t]] (I (v2 t y x))
theorem t_turn1 {pg : Pg} (hp : pg.fn 377 = some j25) : S_turn1 pg := by
 intro t x y hx hy hr
 refine Call.intro hp rfl (by simp) ?_
 show wp _ _ j25.body (post [.t 5] _ _ _) _
 simp [j25, hx, hy, hr, j27]
theorem t_transposed {pg : Pg} (hp : pg.fn 267 = some j3v) (h376 : q5b pg) (h377 : S_turn1 pg) : q1i pg 267 := by
 intro t ht hl
 refine Call.intro hp rfl (by simp) ?_
 show wp _ _ j3v.body (post [.t 2] _ _ _) _
 simp [j3v]
 refine j0f (h376 t.length (fun x y => v2 t y x) 377 [.mem .old none [tb t]] (by omega) (by simp) (by simp) (fun x y hx hy => h377 t x y hx hy (ht.row hy))) rfl rfl (fun _ => by simp) ?_
 simp [j0z]

def j5w (f s : List (List Int)) : Prop := j4w f ∧ j4w (j0z s)
instance (f s : List (List Int)) : Decidable (j5w f s) := by unfold j5w; infer_instance
def j8e (pg : Pg) (n : Nat) : Prop := ∀ f s : List (List Int), PM f s → Call pg n [sol f s] [sol f s] (B (decide (j5w f s)))
theorem turnL_fits {t : List (List Int)} (h : t.length ≤ 12) : ∀ r ∈ j0z t, r.length ≤ 1048576 := fun r hr => by
 have := j9f hr
 omega

theorem t_isNondeg {pg : Pg} (hp : pg.fn 285 = some j1w) (h51 : q2i pg) (h267 : q1i pg 267) : j8e pg 285 := by
 intro f s h
 have h0 := h.pos
 have h12 := h.small
 have hl := h.len
 refine Call.intro hp rfl (by simp) ?_
 show wp _ _ j1w.body (post [.t 2] _ _ _) _
 simp [j1w]
 refine j0f (h51 f (by omega) (fun r hr => by have := (h.tf r hr).1; omega)) rfl rfl (fun _ => rfl) ?_
 by_cases h1 : j4w f
 · simp [h1]
   refine j0f (h267 s h.ts (by omega)) rfl rfl (fun _ => by simp) ?_
   simp
   refine j0f (h51 (j0z s) (by simp; omega) (turnL_fits (by omega))) rfl rfl (fun _ => rfl) ?_
   simp [j5w, h1]
 · simp [h1, j5w, j00]

theorem q65 {t : List (List Int)} (h : Tab t) (h0 : 0 < t.length) (h12 : t.length ≤ 12) : (∀ r ∈ t, isPerm r) ↔ j4w t := by
 constructor
 · intro g r hr
   have := h r hr
   exact (j74 (by omega) (by omega) (fun x hx => by have := this.2 x hx; omega)).1 (g r hr)
 · intro g r hr
   have := h r hr
   exact (j74 (by omega) (by omega) (fun x hx => by have := this.2 x hx; omega)).2 (g r hr)

def q1j (pg : Pg) : Prop := ∀ t : List (List Int), Tab t → 0 < t.length → t.length ≤ 12 → Call pg 410 [tb t] [tb t] (B (decide (j4w t)))
theorem t_l01Rows {pg : Pg} (hp : pg.fn 410 = some j48) (h47 : S_perm pg 47) : q1j pg := by
 intro t ht h0 h12
 refine Call.intro hp rfl (by simp) ?_
 show wp _ _ j48.body (post [.t 2] _ _ _) _
 have hsp := q65 ht h0 h12
 simp [j48]
 refine j0a (fun k e => (∀ i (h : i < t.length), i < k → isPerm t[i]) ∧ e = fr [(0, some (.val (tb t))), (3, some (.val (I k)))]) t.length ?_ ?_ 0 _ (by omega) ?_
 · rintro k e hk ⟨h1, rfl⟩
   simp [hk]
   refine j0f (h47 _ (by have := ht.row hk; omega)) rfl rfl (fun _ => rfl) ?_
   by_cases hm : isPerm t[k]
   · simp [hm]
     refine ⟨by omega, fun i hi hik => ?_⟩
     rcases Nat.lt_or_ge i k with h2 | h2
     · exact h1 i hi h2
     · have : i = k := by omega
       subst this; exact hm
   · have : ¬ j4w t := fun h => hm (hsp.2 h _ (List.getElem_mem hk))
     simp [hm, this]
 · rintro e ⟨h1, rfl⟩
   have : j4w t := hsp.1 fun x hx => by
    obtain ⟨i, hi, rfl⟩ := List.getElem_of_mem hx
    exact h1 i hi hi
   simp [this]
 · simp

theorem t_l02Good {pg : Pg} (hp : pg.fn 350 = some j43) (h410 : q1j pg) (h265 : q1i pg 265) : j8e pg 350 := by
 intro f s h
 have h0 := h.pos
 have h12 := h.small
 have hl := h.len
 refine Call.intro hp rfl (by simp) ?_
 show wp _ _ j43.body (post [.t 2] _ _ _) _
 simp [j43]
 refine j0f (h410 f h.tf h0 h12) rfl rfl (fun _ => rfl) ?_
 by_cases h1 : j4w f
 · simp [h1]
   refine j0f (h265 s h.ts (by omega)) rfl rfl (fun _ => by simp) ?_
   simp
   refine j0f (h410 (j0z s) (turnL_tab h.ts (by omega)) (by simp; omega) (by simp; omega)) rfl rfl (fun _ => rfl) ?_
   simp [j5w, h1]
 · simp [h1, j5w, j00]

def j8k (f s : List (List Int)) : Prop := q21 f s ∧ j5w f s
def q5m (pg : Pg) (n : Nat) : Prop := ∀ f s : List (List Int), fits f → fits s → Call pg n [sol f s] [sol f s] (B (dec (j8k f s)))
theorem t_l07Is {pg : Pg} (hp : pg.fn 264 = some j59) (h41 : q2k pg 41) (h350 : j8e pg 350) : q5m pg 264 := by
 intro f s hf hs
 refine Call.intro hp rfl (by simp) ?_
 show wp _ _ j59.body (post [.t 2] _ _ _) _
 simp [j59]
 refine j0f (h41 f s hf hs) rfl rfl (fun _ => rfl) ?_
 by_cases h1 : q21 f s
 · simp [j1f h1]
   refine j0f (h350 f s (PM.of h1.1)) rfl rfl (fun _ => rfl) ?_
   by_cases h2 : j5w f s
   · simp [h2, j1f (show j8k f s from ⟨h1, h2⟩)]
   · simp [h2, j0v (show ¬ j8k f s from fun h => h2 h.2)]
 · simp [j0v h1, j00, j0v (show ¬ j8k f s from fun h => h1 h.1)]
theorem t_isRegular {pg : Pg} (hp : pg.fn 266 = some j38) (h42 : q2k pg 42) (h285 : j8e pg 285) : q5m pg 266 := by
 intro f s hf hs
 refine Call.intro hp rfl (by simp) ?_
 show wp _ _ j38.body (post [.t 2] _ _ _) _
 simp [j38]
 refine j0f (h42 f s hf hs) rfl rfl (fun _ => rfl) ?_
 by_cases h1 : q21 f s
 · simp [j1f h1]
   refine j0f (h285 f s (PM.of h1.1)) rfl rfl (fun _ => rfl) ?_
   by_cases h2 : j5w f s
   · simp [h2, j1f (show j8k f s from ⟨h1, h2⟩)]
   · simp [h2, j0v (show ¬ j8k f s from fun h => h2 h.2)]
 · simp [j0v h1, j00, j0v (show ¬ j8k f s from fun h => h1 h.1)]

end Go.Mch
namespace Go.Mch

def j6e (p q : List Int) : List Int := p.map fun x => q.getD x.toNat 0
@[simp] theorem thenL_length (p q : List Int) : (j6e p q).length = p.length := by simp [j6e]
def S_then (pg : Pg) (n : Nat) : Prop := ∀ p q : List Int, p.length ≤ 1048576 → inN q.length p → Call pg n [ix p, ix q] [ix p, ix q] (.mem .own (some 1) ((j6e p q).map I))
theorem thenL_take {p q : List Int} {k : Nat} (hk : k < p.length) (h : (p[k]).toNat < q.length) : (j6e p q).take (k + 1) = (j6e p q).take k ++ [q[(p[k]).toNat]] := by
 rw [List.take_succ_eq_append_getElem (by simpa using hk)]
 simp [j6e, h]
theorem t_l01Then {pg : Pg} (hp : pg.fn 279 = some j47) : S_then pg 279 := by
 intro p q hl hi
 refine Call.intro hp rfl (by simp) ?_
 show wp _ _ j47.body (post [.t 4] _ _ _) _
 simp [j47]
 refine j0a (fun k e => e = fr [(0, some (.val (ix p))), (1, some (.val (ix q))), (5, some (.val (.mem .own (some 1) (((j6e p q).take k).map I)))), (6, some (.val (I k)))]) p.length ?_ ?_ 0 _ (by omega) ?_
 · rintro k e hk rfl
   have h1 := hi _ (List.getElem_mem hk)
   have h2 : (p[k]).toNat < q.length := by omega
   simp [hk, h1, h2, thenL_take hk h2, roomy]
   omega
 · rintro e rfl
   simp [take_len]
 · simp

def q0c (pg : Pg) (n : Nat) : Prop := ∀ t : List (List Int), fits t → Call pg n [tb t] [tb t] (.mem .own (some 1) (rows t))
theorem j9u {t : List (List Int)} {k : Nat} (hk : k < t.length) : rows (t.take (k + 1)) = rows (t.take k) ++ [.mem .own (some 1) ((t[k]).map I)] := by
 rw [List.take_succ_eq_append_getElem hk, j6t]; rfl
theorem t_l01Own2 {pg : Pg} (hp : pg.fn 280 = some j5a) (h31 : S_own pg) : q0c pg 280 := by
 intro t ht
 have hl := ht.1
 refine Call.intro hp rfl (by simp) ?_
 show wp _ _ j5a.body (post [.t 2] _ _ _) _
 simp [j5a]
 refine j0a (fun k e => e = fr [(0, some (.val (tb t))), (3, some (.val (.mem .own (some 1) (rows (t.take k))))), (4, some (.val (I k)))]) t.length ?_ ?_ 0 _ (by omega) ?_
 · rintro k e hk rfl
   simp [hk]
   refine j0f (h31 _ (ht.2 _ (List.getElem_mem hk))) rfl rfl (fun _ => by simp) ?_
   simp [j9u hk, roomy]
   omega
 · rintro e rfl
   simp [take_len]
 · simp [rows]
theorem t_cloneTable {pg : Pg} (hp : pg.fn 275 = some j3x) (h36 : S_clone pg) : q0c pg 275 := by
 intro t ht
 have hl := ht.1
 refine Call.intro hp rfl (by simp) ?_
 show wp _ _ j3x.body (post [.t 2] _ _ _) _
 simp [j3x]
 refine ⟨by unfold roomy; omega, ?_⟩
 refine j0a (fun k e => e = fr [(3, some (.val (.mem .own (some 1) (rows (t.take k) ++ List.replicate (t.length - k) nil)))), (9, some (.val (tb t))), (10, some (.val (I t.length))), (11, some (.val (I k)))]) t.length ?_ ?_ 0 _ (by omega) ?_
 · rintro k e hk rfl
   have hlen : (rows (t.take k)).length = k := by simp; omega
   rw [j7r nil hk]
   simp [hk]
   refine j0f (h36 _ (ht.2 _ (List.getElem_mem hk))) rfl rfl (fun _ => by simp) ?_
   simp [j9u hk, set_mid hlen]
   omega
 · rintro e rfl
   simp [take_len]
 · simp [rows]


abbrev RT := List (List Int) → List (List Int) → List (List Int)
abbrev RI := List (List Int) → List (List Int) → Int
def S_solT (pg : Pg) (n : Nat) (R : RT) (C : RI) : Prop := ∀ f s : List (List Int), fits f → fits s → ∃ o, lso o = R f s ∧ Call pg n [sol f s] [sol f s] (.tup [ownT o, I (C f s)])
def S_solB (pg : Pg) (n : Nat) (R : List (List Int) → List (List Int) → Bool) (C : RI) : Prop := ∀ f s : List (List Int), fits f → fits s → Call pg n [sol f s] [sol f s] (.tup [B (R f s), I (C f s)])
noncomputable def q0p {α : Type} (z : α) (X : List (List Int) → List (List Int) → α) (f s : List (List Int)) : α := if dec (j8k f s) then X f s else z
theorem j1e {α : Type} {z : α} {X : List (List Int) → List (List Int) → α} {f s : List (List Int)} (h : j8k f s) : q0p z X f s = X f s := by simp [q0p, j1f h]
theorem j2y {α : Type} {z : α} {X : List (List Int) → List (List Int) → α} {f s : List (List Int)} (h : ¬ j8k f s) : q0p z X f s = z := by simp [q0p, j0v h]

def q7r (pg : Pg) (n : Nat) : Prop := S_solT pg n (q0p [] fun f _ => f) (q0p 1 fun _ _ => 0)
theorem t_lam_impl {pg : Pg} (hp : pg.fn 135 = some j18) (h266 : q5m pg 266) (h275 : q0c pg 275) : q7r pg 135 := by
 intro f s hf hs
 by_cases h : j8k f s
 · refine ⟨some f, by simp [j1e h], Call.intro hp rfl (by simp) ?_⟩
   show wp _ _ j18.body (post [.t 2, .t 3] _ _ _) _
   simp [j18]
   refine j0f (h266 f s hf hs) rfl rfl (fun _ => rfl) ?_
   simp [j1f h, j1e h]
   refine j0f (h275 f hf) rfl rfl (fun _ => by simp) ?_
   simp [ownT]
 · refine ⟨none, by simp [j2y h], Call.intro hp rfl (by simp) ?_⟩
   show wp _ _ j18.body (post [.t 2, .t 3] _ _ _) _
   simp [j18]
   refine j0f (h266 f s hf hs) rfl rfl (fun _ => rfl) ?_
   simp [j0v h, j2y h, ownT]

def S_rho (pg : Pg) (n : Nat) : Prop := S_solT pg n (q0p [] fun _ s => j0z s) (q0p 1 fun _ _ => 0)
theorem t_rho_impl {pg : Pg} (hp : pg.fn 127 = some j3p) (h266 : q5m pg 266) (h267 : q1i pg 267) : S_rho pg 127 := by
 intro f s hf hs
 by_cases h : j8k f s
 · have hpm := PM.of h.1.1
   have h12 := hpm.small
   have hl := hpm.len
   refine ⟨some (j0z s), by simp [j1e h], Call.intro hp rfl (by simp) ?_⟩
   show wp _ _ j3p.body (post [.t 2, .t 3] _ _ _) _
   simp [j3p]
   refine j0f (h266 f s hf hs) rfl rfl (fun _ => rfl) ?_
   simp [j1f h, j1e h]
   refine j0f (h267 s hpm.ts (by omega)) rfl rfl (fun _ => by simp) ?_
   simp [ownT]
 · refine ⟨none, by simp [j2y h], Call.intro hp rfl (by simp) ?_⟩
   show wp _ _ j3p.body (post [.t 2, .t 3] _ _ _) _
   simp [j3p]
   refine j0f (h266 f s hf hs) rfl rfl (fun _ => rfl) ?_
   simp [j0v h, j2y h, ownT]


def abel (f : List (List Int)) : Prop := ∀ x y : Nat, x < f.length → y < f.length → j6e (f.getD x []) (f.getD y []) = j6e (f.getD y []) (f.getD x [])
instance (f : List (List Int)) : Decidable (abel f) := by
 have : abel f ↔ ∀ x ∈ List.range f.length, ∀ y ∈ List.range f.length, j6e (f.getD x []) (f.getD y []) = j6e (f.getD y []) (f.getD x []) := by
  simp only [abel, List.mem_range]
  exact ⟨fun h x hx y hy => h x y hx hy, fun h x y hx hy => h x hx y hy⟩
 exact decidable_of_iff _ this.symm
theorem Tab.inN {t : List (List Int)} (h : Tab t) {x : Nat} (hx : x < t.length) : inN t.length t[x] := fun v hv => (h _ (List.getElem_mem hx)).2 v hv

end Go.Mch
namespace Go.Mch

def act (p : List Int) (x : Int) : Int := p.getD x.toNat 0
def Cl (ms : List (List Int)) (S : Int → Prop) : Prop := ∀ x, S x → ∀ p ∈ ms, S (act p x)
def Rch (ms : List (List Int)) (i x : Int) : Prop := ∀ S : Int → Prop, S i → Cl ms S → S x
theorem q27 (ms : List (List Int)) (i : Int) : Rch ms i i := fun _ h _ => h
theorem q26 {ms : List (List Int)} {i x : Int} (h : Rch ms i x) {p : List Int} (hp : p ∈ ms) : Rch ms i (act p x) := fun S h1 h2 => h2 x (h S h1 h2) p hp
theorem rch_list {ms : List (List Int)} {i : Int} {l : List Int} (hi : i ∈ l) (hr : ∀ x ∈ l, Rch ms i x) (hc : ∀ x ∈ l, ∀ p ∈ ms, act p x ∈ l) (x : Int) : x ∈ l ↔ Rch ms i x :=
 ⟨hr x, fun h => h (· ∈ l) hi hc⟩

def Prms (n : Nat) (ms : List (List Int)) : Prop := ∀ p ∈ ms, p.length = n ∧ j1z p
theorem j4f {n : Nat} {ms : List (List Int)} (h : Prms n ms) {p : List Int} (hp : p ∈ ms) {x : Int} (hx : 0 ≤ x ∧ x < n) : 0 ≤ act p x ∧ act p x < n := by
 obtain ⟨h1, h2⟩ := h p hp
 have hl : x.toNat < p.length := by omega
 have := h2.1 _ (List.getElem_mem hl)
 simp only [act, List.getD_eq_getElem?_getD, List.getElem?_eq_getElem hl, Option.getD_some]
 omega
theorem act_inj {n : Nat} {ms : List (List Int)} (h : Prms n ms) {p : List Int} (hp : p ∈ ms) {x y : Int} (hx : 0 ≤ x ∧ x < n) (hy : 0 ≤ y ∧ y < n) (he : act p x = act p y) : x = y := by
 obtain ⟨h1, h2⟩ := h p hp
 have hl : x.toNat < p.length := by omega
 have hl2 : y.toNat < p.length := by omega
 simp only [act, List.getD_eq_getElem?_getD, List.getElem?_eq_getElem hl, List.getElem?_eq_getElem hl2, Option.getD_some] at he
 have := (List.getElem_inj h2.2).1 he
 omega
theorem q36 {n : Nat} {ms : List (List Int)} (h : Prms n ms) {i x : Int} (hi : 0 ≤ i ∧ i < n) (hx : Rch ms i x) : 0 ≤ x ∧ x < n :=
 hx (fun x => 0 ≤ x ∧ x < n) hi fun _ hy _ hp => j4f h hp hy
theorem q7b {n : Nat} {x : Int} : x ∈ nums n ↔ 0 ≤ x ∧ x < n := by
 simp only [nums, List.mem_map, List.mem_range]
 constructor
 · rintro ⟨k, hk, rfl⟩
   simp only [Int.ofNat_eq_natCast]
   omega
 · rintro ⟨h1, h2⟩
   exact ⟨x.toNat, by omega, by simp only [Int.ofNat_eq_natCast]; omega⟩
theorem q2t {n : Nat} {ms : List (List Int)} (h : Prms n ms) {S : Int → Prop} (hS : Cl ms S) {x : Int} (hx : 0 ≤ x ∧ x < n) (hn : ¬ S x) {p : List Int} (hp : p ∈ ms) : ¬ S (act p x) := by
 intro hy
 have hL : ∀ y, y ∈ (nums n).filter (fun y => dec (S y)) ↔ (0 ≤ y ∧ y < n) ∧ S y := fun y => by
  rw [List.mem_filter, q7b]
  refine ⟨fun hh => ⟨hh.1, ?_⟩, fun hh => ⟨hh.1, j1f hh.2⟩⟩
  by_cases hs : S y
  · exact hs
  · have := hh.2; rw [j0v hs] at this; cases this
 have hdL : ((nums n).filter (fun y => dec (S y))).Nodup := (q12 n).sublist List.filter_sublist
 generalize (nums n).filter (fun y => dec (S y)) = L at hL hdL
 have hM : (L.map (act p)).Nodup := by
  rw [List.Nodup, List.pairwise_map]
  refine hdL.imp_of_mem ?_
  intro a b ha hb hab he
  exact hab (act_inj h hp ((hL a).1 ha).1 ((hL b).1 hb).1 he)
 have hyM : act p x ∉ L.map (act p) := by
  intro hm
  obtain ⟨z, hz, he⟩ := List.mem_map.1 hm
  have := act_inj h hp ((hL z).1 hz).1 hx he
  subst this
  exact hn ((hL z).1 hz).2
 have := j3c (act p x :: L.map (act p)) L (List.nodup_cons.2 ⟨hyM, hM⟩) fun y hm => by
  rcases List.mem_cons.1 hm with rfl | hm
  · exact (hL _).2 ⟨j4f h hp hx, hy⟩
  · obtain ⟨z, hz, rfl⟩ := List.mem_map.1 hm
    exact (hL _).2 ⟨j4f h hp ((hL z).1 hz).1, hS z ((hL z).1 hz).2 p hp⟩
 simp at this
 omega
theorem j5o {n : Nat} {l : List Int} (h : l.Nodup) (hr : ∀ x ∈ l, 0 ≤ x ∧ x < n) : l.length ≤ n := by
 have := j3c l (nums n) h fun x hx => q7b.2 (hr x hx)
 simpa [nums] using this


noncomputable def markO (ms : List (List Int)) (i : Int) (lab : List Int) (c : Int) : List Int := (List.range lab.length).map fun x : Nat => if dec (Rch ms i x) then c else lab.getD x 0
@[simp] theorem markO_length (ms : List (List Int)) (i : Int) (lab : List Int) (c : Int) : (markO ms i lab c).length = lab.length := by simp [markO]
theorem j7n {ms : List (List Int)} {i : Int} {lab : List Int} {c : Int} {x : Nat} (hx : x < lab.length) : (markO ms i lab c).getD x 0 = if dec (Rch ms i x) then c else lab.getD x 0 := by
 simp [markO, hx]
noncomputable def orbS (ms : List (List Int)) (n : Nat) : Nat → List Int × Int
 | 0 => (List.replicate n (-1), 0)
 | k + 1 => if 0 ≤ (orbS ms n k).1.getD k 0 then orbS ms n k else (markO ms k (orbS ms n k).1 (orbS ms n k).2, (orbS ms n k).2 + 1)
noncomputable def orbL (ms : List (List Int)) (n : Nat) : List Int := (orbS ms n n).1
@[simp] theorem q39 (ms : List (List Int)) (n k : Nat) : (orbS ms n k).1.length = n := by
 induction k with
 | zero => simp [orbS]
 | succ k ih => unfold orbS; split <;> simp [ih]
@[simp] theorem orbL_length (ms : List (List Int)) (n : Nat) : (orbL ms n).length = n := by simp [orbL]

theorem j9j (ms : List (List Int)) (n k : Nat) : 0 ≤ (orbS ms n k).2 ∧ (orbS ms n k).2 ≤ k := by
 induction k with
 | zero => simp [orbS]
 | succ k ih => unfold orbS; split <;> simp <;> omega
theorem orbS_rng (ms : List (List Int)) (n k : Nat) : ∀ x, x < n → -1 ≤ (orbS ms n k).1.getD x 0 ∧ (orbS ms n k).1.getD x 0 < (orbS ms n k).2 := by
 induction k with
 | zero => intro x hx; simp [orbS, hx]
 | succ k ih =>
  intro x hx
  have h1 := ih x hx
  have h2 := j9j ms n k
  unfold orbS
  split
  · exact h1
  · rw [j7n (by simpa using hx)]
    simp only
    split <;> omega
theorem orbS_done (ms : List (List Int)) (n k : Nat) (hk : k ≤ n) : ∀ x, x < k → 0 ≤ (orbS ms n k).1.getD x 0 := by
 induction k with
 | zero => intro x hx; omega
 | succ k ih =>
  intro x hx
  have ih := ih (by omega)
  have h2 := j9j ms n k
  unfold orbS
  split
  · rename_i h3
    rcases Nat.lt_or_ge x k with h | h
    · exact ih x h
    · have : x = k := by omega
      subst this; exact h3
  · rw [j7n (by simp; omega)]
    split
    · exact h2.1
    · rename_i hr
      rcases Nat.lt_or_ge x k with h | h
      · exact ih x h
      · have : x = k := by omega
        subst this
        rw [j1f (q27 ms _)] at hr
        simp at hr
theorem orbS_closed {ms : List (List Int)} {n : Nat} (h : Prms n ms) (k : Nat) (hk : k ≤ n) : Cl ms (fun x => (0 ≤ x ∧ x < n) ∧ 0 ≤ (orbS ms n k).1.getD x.toNat 0) := by
 induction k with
 | zero =>
  rintro x ⟨hx, h0⟩ p hp
  have : x.toNat < n := by omega
  simp [orbS, this] at h0
 | succ k ih =>
  have ih := ih (by omega)
  have h2 := j9j ms n k
  rintro x ⟨hx, h0⟩ p hp
  have hr := j4f h hp hx
  refine ⟨hr, ?_⟩
  unfold orbS at h0 ⊢
  split at h0
  · rename_i h3
    rw [if_pos h3]
    exact (ih x ⟨hx, h0⟩ p hp).2
  · rename_i h3
    rw [if_neg h3]
    have e1 : ((x.toNat : Nat) : Int) = x := by omega
    have e2 : (((act p x).toNat : Nat) : Int) = act p x := by omega
    simp only at h0 ⊢
    rw [j7n (by simp; omega), e1] at h0
    rw [j7n (by simp; omega), e2]
    by_cases hR : Rch ms k x
    · rw [j1f (q26 hR hp)]
      simp only [if_true]; exact h2.1
    · rw [j0v hR] at h0
      simp only [Bool.false_eq_true, if_false] at h0
      split
      · exact h2.1
      · exact (ih x ⟨hx, h0⟩ p hp).2
end Go.Mch
namespace Go.Mch

theorem bx {α β : Type} {o : Option α} {f : α → Prop} {g : β → α → Prop} (hf : ∀ a, f a → ∃ r, g r a) (h : j0c o f) : ∃ r, j0c o (g r) := by
 obtain ⟨a, h1, h2⟩ := h
 obtain ⟨r, h3⟩ := hf a h2
 exact ⟨r, a, h1, h3⟩
theorem ax {β : Type} {p : Prop} {K : β → Prop} (h : p ∧ ∃ r, K r) : ∃ r, p ∧ K r := by
 obtain ⟨h1, r, h2⟩ := h
 exact ⟨r, h1, h2⟩

theorem stepQ_ex {β : Type} {G : Rl} {m : K} {d : Option Nat} {q : Q} {k : β → Env → Prop} {e : Env} (h : j0l G m d q (fun e => ∃ r, k r e) e) : ∃ r, j0l G m d q (k r) e := by
 cases q <;> simp only [j0l] at h ⊢
 case mv => exact bx (fun _ h => h) h
 case mvw => exact bx (fun _ h => ax h) h
 case stsw => exact bx (fun _ h => bx (fun _ h => bx (fun _ h => ax ⟨h.1, bx (fun _ h => h) h.2⟩) h) h) h
 case sts x y =>
  refine bx (fun a ha => bx (fun v hv => ?_) ha) h
  split at hv
  · split at hv
    · exact ax hv
    · exact hv.elim
  · exact hv.elim
 case asg x =>
  refine bx (fun v hv => ?_) h
  cases v
  case val t => exact hv
  all_goals exact bx (fun _ h => h) hv
 case pick => exact bx (fun _ h => bx (fun _ h => h) h) h
 case bin => exact bx (fun _ h => bx (fun _ h => bx (fun _ h => h) h) h) h
 case beq => exact bx (fun _ h => bx (fun _ h => h) h) h
 case isnil => exact bx (fun _ h => h) h
 case fncl => exact bx (fun _ h => bx (fun _ h => h) h) h
 case slen => exact bx (fun _ h => h) h
 case un => exact bx (fun _ h => bx (fun _ h => h) h) h
 case conv => exact bx (fun _ h => h) h
 case len => exact bx (fun _ h => h) h
 case idx => exact bx (fun _ h => bx (fun _ h => bx (fun _ h => h) h) h) h
 case fld => exact bx (fun _ h => bx (fun _ h => h) h) h
 case fldv => exact bx (fun _ h => bx (fun _ h => h) h) h
 case ld => exact bx (fun _ h => bx (fun _ h => h) h) h
 case st =>
  refine bx (fun a ha => bx (fun v hv => bx (fun y hy => ?_) hv) ha) h
  split at hy
  · split at hy
    · exact ax hy
    · exact hy.elim
  · exact hy.elim
 case nilck =>
  refine bx (fun a ha => ?_) h
  split at ha
  · exact ha
  · exact ha
  · exact ha.elim
 case alloc => exact h
 case box => exact bx (fun _ h => bx (fun _ h => ax h) h) h
 case build => exact bx (fun _ h => bx (fun _ h => h) h) h
 case mks => exact bx (fun _ h => ax h) h
 case bsl => exact bx (fun _ h => bx (fun _ h => ax h) h) h
 case app =>
  refine bx (fun a ha => bx (fun b hb => bx (fun z hz => bx (fun u hu => ?_) hz) hb) ha) h
  have h2 := hu.2
  split at h2
  · by_cases h0 : u.1 = []
    · obtain ⟨r, h3⟩ := h2.1 h0
      exact ⟨r, hu.1, fun _ => h3, fun h4 => (h4 h0).elim⟩
    · obtain ⟨r, h3⟩ := h2.2 h0
      exact ⟨r, hu.1, fun h4 => (h0 h4).elim, fun _ => h3⟩
  · obtain ⟨r, h3⟩ := h2
    exact ⟨r, hu.1, h3⟩
 case sl => exact bx (fun _ h => bx (fun _ h => bx (fun _ h => bx (fun _ h => h) h) h) h) h
 case ext => exact bx (fun _ h => bx (fun _ h => h) h) h
 case fnc => exact bx (fun _ h => h) h
 case call f args =>
  refine bx (fun fv hv => ?_) h
  split at hv
  · refine bx (fun ts ht => ?_) hv
    obtain ⟨ts', r, h1, h2, h3, h4⟩ := ht
    obtain ⟨y, h5⟩ := bx (fun _ h => h) h4
    exact ⟨y, ts', r, h1, h2, h3, h5⟩
  · exact hv.elim
 case freeze => exact bx (fun _ h => h) h
 case settle => exact bx (fun _ h => h) h
 case mm => exact bx (fun _ h => bx (fun _ h => bx (fun _ h => h) h) h) h
 case cap0 => exact bx (fun _ h => bx (fun _ h => h) h) h
 case bstr => exact bx (fun _ h => bx (fun _ h => h) h) h
 case bsls => exact bx (fun _ h => bx (fun _ h => ax h) h) h
 case bslv => exact bx (fun _ h => bx (fun _ h => h) h) h
 case tk1 => exact bx (fun _ h => bx (fun _ h => ax h) h) h
 case exts => exact bx (fun _ h => bx (fun _ h => h) h) h
 case mvs => exact bx (fun _ h => bx (fun _ h => h) h) h
 case bslw => exact bx (fun _ h => bx (fun _ h => h) h) h
 case calls => exact bx (fun _ h => bx (fun _ h => bx (fun _ h => bx (fun _ h => bx (fun _ h => bx (fun _ h => bx (fun _ h => by
  obtain ⟨h0, ts', r, h1, x, h2⟩ := h
  exact ⟨x, h0, ts', r, h1, h2⟩) h) h) h) h) h) h) h
 case bsl1 n =>
  refine bx (fun v hv => ?_) h
  split at hv
  · exact ax hv
  · exact hv.elim
 case apz =>
  refine bx (fun v hv => bx (fun _ hv => ?_) hv) h
  split at hv
  · exact ax hv
  · exact hv.elim
 case arr => exact bx (fun _ h => bx (fun _ h => bx (fun _ h => h) h) h) h
 case mkset => exact h
 case look => exact bx (fun _ h => bx (fun _ h => bx (fun _ h => h) h) h) h
 case upd => exact bx (fun _ h => bx (fun _ h => bx (fun _ h => h) h) h) h
 case bslk x n =>
  refine bx (fun v hv => bx (fun u hu => ?_) hv) h
  split at hu
  · exact ax hu
  · exact hu.elim
 case appk x y n =>
  refine bx (fun v hv => bx (fun v hv => bx (fun v hv => bx (fun v hv => bx (fun u hu => ?_) hv) hv) hv) hv) h
  split at hu
  · exact ax hu
  · exact hu.elim
 case boxk s =>
  refine bx (fun v hv => ?_) h
  split at hv
  · exact ax hv
  · exact hv.elim
 case callm f args ks =>
  refine bx (fun fv hv => ?_) h
  cases fv <;> try exact hv.elim
  rename_i t
  cases t <;> try exact hv.elim
  refine bx (fun vs hv => ax ⟨hv.1, bx (fun y hy => ?_) hv.2⟩) hv
  obtain ⟨h0, ts', r, h1, h2, h3⟩ := hy
  obtain ⟨z, h4⟩ := bx (fun _ h => bx (fun _ h => h) h) h3
  exact ⟨z, h0, ts', r, h1, h2, h4⟩
 refine bx (fun a ha => bx (fun n hn => ?_) ha) h
 split at hn
 · exact bx (fun _ h => h) hn
 · exact hn.elim

theorem stepO_ex {β : Type} {G : Rl} {m : K} {o : O} {k : β → Env → Prop} {e : Env} (h : j1d G m o (fun e => ∃ r, k r e) e) : ∃ r, j1d G m o (k r) e := by
 unfold j1d at *
 split
 · rename_i hg; simp only [hg] at h; exact stepQ_ex h
 · rename_i s b hg
   simp only [hg] at h
   split at h
   · split at h
     · rename_i h1; simp only [if_pos h1]; exact stepQ_ex h
     · rename_i h1; simp only [if_neg h1]; exact h
   · exact h
   · exact h.elim

theorem wpL_ex {β : Type} {G : Rl} {m : K} : ∀ (l : List O) {k : β → Env → Prop} {e : Env}, wpL G m l (fun e => ∃ r, k r e) e → ∃ r, wpL G m l (k r) e
 | [], _, _, h => h
 | _ :: l, k, _, h => stepO_ex (k := fun r => wpL G m l (k r)) (q5t (fun _ _ _ _ h => h) (fun _ h => wpL_ex l h) h)

theorem after_ex {β : Type} {n : β → Env → Prop} {R : β → X → Env → Prop} : ∀ x e, X.after (fun e => ∃ r, n r e) (fun x e => ∃ r, R r x e) x e → ∃ r, X.after (n r) (R r) x e
 | .nrm, _, h => h
 | .ext _, _, h => h
 | .ret, _, h => h

theorem wp_ex {β : Type} {G : Rl} {m : K} (c : C) : ∀ {R : β → X → Env → Prop} {e : Env}, wp G m c (fun x e => ∃ r, R r x e) e → ∃ r, wp G m c (R r) e := by
 induction c with
 | skip => exact fun h => h
 | region dr ops ks => exact fun h => wpL_ex ops h
 | seq a b iha ihb =>
  intro R e h
  exact iha (wp_mono (fun _ _ _ _ h => h) a (fun x e hx => after_ex x e (j53 (fun _ h => ihb h) (fun _ _ h => h) x e hx)) h)
 | cond c a b iha ihb =>
  intro R e h
  refine bx (fun t ht => ?_) h
  cases t
  · exact ihb ht
  · exact iha ht
 | block id b ih =>
  intro R e h
  refine ih (wp_mono (fun _ _ _ _ h => h) b (fun x e hx => ?_) h)
  cases x
  · exact hx
  · simp only [X.out] at hx ⊢
    split at hx
    · rename_i h1; simp only [if_pos h1]; exact hx
    · rename_i h1; simp only [if_neg h1]; exact hx
  · exact hx
 | loop b ih =>
  intro R e h
  refine h (fun e => ∃ r, wp G m (.loop b) (R r) e) fun e he => ?_
  obtain ⟨r, hr⟩ := ih (R := fun r => X.after (wp G m (.loop b) (R r)) (R r)) (wp_mono (fun _ _ _ _ h => h) b (fun x e hx => after_ex x e hx) he)
  exact ⟨r, j2b hr⟩
 | exit id => exact fun h => h
 | ret => exact fun h => h
 | stuck => exact fun h => h.elim

theorem Call.find {α : Type} {pg : Pg} {f : Nat} {args : List T} {fn : F} {r : α → T} {Q : α → Prop} (hf : pg.fn f = some fn) (hn : fn.np = args.length) (hl : T.j0m args = true)
 (h : wp (Call pg) .fresh fn.body (fun x e => ∃ l, Q l ∧ post fn.rs args args (r l) x e) (init args)) : ∃ l, Q l ∧ Call pg f args args (r l) := by
 obtain ⟨⟨l, hq⟩, hl2⟩ := wp_ex (β := { l // Q l }) (R := fun l x e => post fn.rs args args (r l.1) x e) fn.body (wp_mono (fun _ _ _ _ h => h) _ (fun _ _ ⟨l, hq, hp⟩ => ⟨⟨l, hq⟩, hp⟩) h)
 exact ⟨l, hq, Call.intro hf hn hl hl2⟩
end Go.Mch
namespace Go.Mch

@[simp] theorem dec_True : dec True = true := j1f trivial
@[simp] theorem dec_False : dec False = false := j0v id

end Go.Mch
namespace Go.Mch

def q5d (pg : Pg) (n : Nat) : Prop := ∀ (xs : List Int) (v : Int), xs.length ≤ 1048576 → Call pg n [ix xs, I v] [ix xs, I v] (I (ixOf xs v))
theorem q6t {pg : Pg} (hp : pg.fn 384 = some j0s) : q5d pg 384 := by
 intro xs v hl
 refine Call.intro hp rfl (by simp) ?_
 show wp _ _ j0s.body (post [.t 4] _ _ _) _
 simp [j0s]
 refine j0a (fun k e => (∀ i (h : i < xs.length), i < k → xs[i] ≠ v) ∧ e = fr [(0, some (.val (ix xs))), (1, some (.val (I v))), (7, some (.val (I xs.length))), (8, some (.val (I k)))]) xs.length ?_ ?_ 0 _ (by omega) ?_
 · rintro k e hk ⟨h1, rfl⟩
   by_cases hm : xs[k] = v
   · have := q4o hk (fun i hi => h1 i (by omega) hi) hm
     simp [hk, hm, this]
   · have hm2 : ¬ v = xs[k] := fun h => hm h.symm
     simp [hk, hm2]
     refine ⟨by omega, fun i hi hik => ?_⟩
     rcases Nat.lt_or_ge i k with h2 | h2
     · exact h1 i hi h2
     · have : i = k := by omega
       subst this; exact hm
 · rintro e ⟨h1, rfl⟩
   have := ixOf_none (xs := xs) (n := v) (fun i hi => h1 i hi hi)
   simp [this]
 · simp
end Go.Mch
namespace Go.Mch

def j3q (xs : List Int) : List Int := xs.foldl (fun s x => if x ∈ s then s else s ++ [x]) []
theorem j5i {xs : List Int} {k : Nat} (hk : k < xs.length) : j3q (xs.take (k + 1)) = if xs[k] ∈ j3q (xs.take k) then j3q (xs.take k) else j3q (xs.take k) ++ [xs[k]] := by
 rw [List.take_succ_eq_append_getElem hk]
 simp only [j3q, List.foldl_append, List.foldl_cons, List.foldl_nil]
 rfl
theorem eryI_snoc (s : List Int) (x : Int) : T.eryL .old (s.map I ++ [I x]) = (s ++ [x]).map I := by
 rw [show s.map I ++ [I x] = (s ++ [x]).map I from by simp, eryL_mapI]
theorem j8n (xs : List Int) : (j3q xs).length ≤ xs.length := by
 have : ∀ (l s : List Int), (l.foldl (fun s x => if x ∈ s then s else s ++ [x]) s).length ≤ s.length + l.length := by
  intro l
  induction l with
  | nil => intro s; simp
  | cons x l ih =>
   intro s
   simp only [List.foldl_cons, List.length_cons]
   refine Nat.le_trans (ih _) ?_
   split <;> simp <;> omega
 simpa [j3q] using this xs []
theorem ixOf_new {s : List Int} {x : Int} (h : x ∉ s) : ixOf (s ++ [x]) x = s.length :=
 q4o (by simp) (fun i hi he => h (by rw [← he, List.getElem_append_left hi]; exact List.getElem_mem hi)) (by simp)
def j6v (xs : List Int) : List Int := (List.range xs.length).map fun k => ixOf (j3q (xs.take (k + 1))) (xs.getD k 0)
@[simp] theorem q2s (xs : List Int) : (j6v xs).length = xs.length := by simp [j6v]

def q2h (pg : Pg) (n : Nat) : Prop := ∀ xs : List Int, xs.length ≤ 1048576 → Call pg n [ix xs] [ix xs] (.mem .own (some 1) ((j6v xs).map I))
theorem t_renumber {pg : Pg} (hp : pg.fn 385 = some j3d) (h62 : S_has pg) (h69 : q2l pg) : q2h pg 385 := by
 intro xs hl
 refine Call.intro hp rfl (by simp) ?_
 show wp _ _ j3d.body (post [.t 2] _ _ _) _
 simp [j3d]
 refine j0a (fun k e => e = fr [(0, some (.val (ix xs))), (3, some (.val (.mem .own (some 1) ((j3q (xs.take k)).map I)))), (4, some (.val (.mem .own (some 1) (((List.range k).map fun k => ixOf (j3q (xs.take (k + 1))) (xs.getD k 0)).map I)))), (5, some (.val (I k)))]) xs.length ?_ ?_ 0 _ (by omega) ?_
 · rintro k e hk rfl
   have hu := j8n (xs.take k)
   have hu2 := j8n (xs.take (k + 1))
   simp only [List.length_take] at hu hu2
   simp [hk]
   refine j0f (h62 _ _ (by omega)) rfl rfl (fun _ => rfl) ?_
   have hs := j5i hk
   by_cases hm : xs[k] ∈ j3q (xs.take k)
   · rw [if_pos hm] at hs
     simp [hm, hk]
     refine j0f (h69 _ _ (by omega)) rfl rfl (fun _ => rfl) ?_
     simp [j2s, hs, hk, roomy]
     omega
   · rw [if_neg hm] at hs
     simp [hm, hk, roomy]
     refine ⟨by omega, ?_⟩
     have := h69 (j3q (xs.take k) ++ [xs[k]]) xs[k] (by rw [← hs]; omega)
     rw [eryI_snoc]
     refine j0f this rfl rfl (fun _ => rfl) ?_
     simp [j2s, hs, hk, roomy]
     omega
 · rintro e rfl
   simp [j6v]
 · simp [j3q]

def q7t (pg : Pg) : Prop := ∀ v : Int, Call pg 384 [nil, I v] [nil, I v] (I (-1))
theorem q5g {pg : Pg} (hp : pg.fn 384 = some j0s) : q7t pg := by
 intro v
 refine Call.intro hp rfl (by simp) ?_
 show wp _ _ j0s.body (post [.t 4] _ _ _) _
 simp [j0s]
 refine j2b ?_
 simp
set_option maxRecDepth 10000 in
theorem t_numbered {pg : Pg} (hp : pg.fn 386 = some j4s) (h384 : q5d pg 384) (h0 : q7t pg) : q2h pg 386 := by
 intro xs hl
 refine Call.intro hp rfl (by simp) ?_
 show wp _ _ j4s.body (post [.t 2] _ _ _) _
 simp [j4s]
 refine ⟨by unfold roomy; omega, ?_⟩
 refine j0a (fun k e => e = fr [(3, some (.val (if k = 0 then nil else .mem .own (some 1) ((j3q (xs.take k)).map I)))), (4, some (.val (.mem .own (some 1) (((List.range k).map fun k => ixOf (j3q (xs.take (k + 1))) (xs.getD k 0)).map I ++ List.replicate (xs.length - k) (I 0))))), (11, some (.val (ix xs))), (12, some (.val (I xs.length))), (13, some (.val (I k)))]) xs.length ?_ ?_ 0 _ (by omega) ?_
 · rintro k e hk rfl
   have hu := j8n (xs.take k)
   simp only [List.length_take] at hu
   have hlen : (((List.range k).map fun k => ixOf (j3q (xs.take (k + 1))) (xs.getD k 0)).map I).length = k := by simp
   rw [j7r (I 0) hk]
   have hs := j5i hk
   by_cases hk0 : k = 0
   · subst hk0
     have hs : j3q (xs.take 1) = [xs[0]] := by simpa [j3q] using hs
     have hi : ixOf [xs[0]] xs[0] = 0 := by simp [ixOf]
     simp [hk]
     refine j0f (h0 _) rfl rfl (fun _ => rfl) ?_
     simp [roomy, hs, hi]
   · simp [hk, hk0]
     refine j0f (h384 _ _ (by omega)) rfl rfl (fun _ => rfl) ?_
     have hm := j5p (j3q (xs.take k)) xs[k]
     by_cases hm2 : xs[k] ∈ j3q (xs.take k)
     · rw [if_pos hm2] at hs
       have h1 : ¬ ixOf (j3q (xs.take k)) xs[k] < 0 := by have := hm.2 hm2; omega
       simp [h1, hk, j2s, hs]
       omega
     · rw [if_neg hm2] at hs
       have h1 : ixOf (j3q (xs.take k)) xs[k] < 0 := by
        have := mt hm.1 hm2; omega
       have h2 := ixOf_new hm2
       simp [h1, hk, j2s, hs, h2, roomy]
       omega
 · rintro e rfl
   simp [j6v]
 · simp
end Go.Mch
namespace Go.Mch

def S_both (pg : Pg) : Prop := ∀ f s : List (List Int), PM f s → Call pg 273 [sol f s] [sol f s] (.mem .own (some 1) (rows (f ++ j0z s)))
theorem PM.fitsF {f s : List (List Int)} (h : PM f s) : fits f := ⟨by have := h.small; omega, fun r hr => by have := (h.tf r hr).1; have := h.small; omega⟩
theorem t_l07Both {pg : Pg} (hp : pg.fn 273 = some j42) (h280 : q0c pg 280) (h265 : q1i pg 265) : S_both pg := by
 intro f s h
 have h12 := h.small
 have hls := h.len
 refine Call.intro hp rfl (by simp) ?_
 show wp _ _ j42.body (post [.t 2] _ _ _) _
 simp [j42]
 refine j0f (h280 f h.fitsF) rfl rfl (fun _ => by simp) ?_
 simp
 refine j0f (h265 s h.ts (by omega)) rfl rfl (fun _ => by simp) ?_
 have e1 : ∀ x ∈ rows (j0z s), x.j01 = true := fun x hx => by
  simp only [rows, List.mem_map] at hx
  obtain ⟨_, _, rfl⟩ := hx
  rfl
 simp [j6t, roomy]
 exact ⟨by omega, e1⟩

theorem slV_nil0 : slV 1 (.val (.sc (.slice none 0 0))) none (some 0) = some (.val (.sc (.slice none 0 0))) := by simp [slV]
theorem tbL_cell (a : List (List Int)) : ∀ x ∈ tbL a, x.j01 = true := fun x hx => by
 simp only [tbL, List.mem_map] at hx
 obtain ⟨_, _, rfl⟩ := hx
 rfl
theorem tbL_append (a b : List (List Int)) : tbL (a ++ b) = tbL a ++ tbL b := by simp [tbL]

def S_grow (pg : Pg) : Prop := ∀ n : Nat, 0 < n → n ≤ 1048576 → Call pg 429 [nil, I n] [nil, I n] (.mem .own (some 1) [])
theorem t_grow {pg : Pg} (hp : pg.fn 429 = some j0y) : S_grow pg := by
 intro n h0 hn
 refine Call.intro hp rfl (by simp) ?_
 show wp _ _ j0y.body (post [.t 4] _ _ _) _
 have h1 : ¬ (n : Int) < 0 := by omega
 simp [j0y, h1, slV_nil0, h0]
 exact ⟨by omega, by unfold roomy; omega, by simp [win]⟩

def q7w (pg : Pg) : Prop := ∀ a b : List (List Int), 0 < a.length → a.length ≤ 100 → b.length ≤ 100 → Call pg 381 [.mem .old (some 1) [tb a, tb b]] [.mem .old (some 1) [tb a, tb b]] (.mem .own (some 1) (tbL (a ++ b)))
theorem t_concat {pg : Pg} (hp : pg.fn 381 = some j0w) (h429 : S_grow pg) : q7w pg := by
 intro a b h0 ha hb
 refine Call.intro hp rfl (by simp) ?_
 show wp _ _ j0w.body (post [.t 2] _ _ _) _
 simp [j0w]
 have h1 : ¬ ((a.length : Int) < 0) := by omega
 have h2 : ¬ ((a.length : Int) + b.length < 0) := by omega
 refine j2b ?_
 simp [h1]
 refine ⟨by omega, ?_⟩
 refine j2b ?_
 simp [h2]
 refine ⟨by omega, ?_⟩
 refine j2b ?_
 simp
 refine j0f (by simpa using h429 (a.length + b.length) (by omega) (by omega)) rfl rfl (fun _ => by simp) ?_
 simp
 refine j2b ?_
 simp
 refine ⟨by omega, ⟨by unfold roomy; omega, tbL_cell a⟩, ?_⟩
 refine j2b ?_
 simp
 refine ⟨by omega, ⟨by unfold roomy; omega, tbL_cell b⟩, ?_⟩
 refine j2b ?_
 simp [tbL_append]

theorem frzL_rows (k : K) (t : List (List Int)) : T.frzL k (rows t) = t.map fun xs => .mem k (some 1) (xs.map I) := by
 have hI : ∀ xs : List Int, T.frzL k (xs.map I) = xs.map I := fun xs => by
  induction xs with
  | nil => rfl
  | cons x xs ih => simp [ih]
 induction t with
 | nil => rfl
 | cons r t ih =>
  show T.frz k _ :: T.frzL k (rows t) = _
  rw [ih]
  simp [hI]
theorem frz_rows_old (t : List (List Int)) : T.j0m (T.frzL .fresh (rows t)) = true ∧ T.eryL .old (T.frzL .fresh (rows t)) = tbL t := by
 rw [frzL_rows]
 induction t with
 | nil => exact ⟨rfl, rfl⟩
 | cons r t ih => exact ⟨by simp [ih.1], by simp [ih.2, tbL]⟩
def q7p (pg : Pg) : Prop := ∀ f s : List (List Int), PM f s → Call pg 271 [sol f s] [sol f s] (.mem .own (some 1) (tbL (f ++ j0z s)))
theorem t_whole {pg : Pg} (hp : pg.fn 271 = some j3j) (h267 : q1i pg 267) (h381 : q7w pg) : q7p pg := by
 intro f s h
 have h0 := h.pos
 have h12 := h.small
 have hls := h.len
 refine Call.intro hp rfl (by simp) ?_
 show wp _ _ j3j.body (post [.t 2] _ _ _) _
 simp [j3j]
 refine j0f (h267 s h.ts (by omega)) rfl rfl (fun _ => by simp) ?_
 obtain ⟨e1, e2⟩ := frz_rows_old (j0z s)
 simp [e1, e2]
 refine j0f (h381 f (j0z s) h0 (by omega) (by simp; omega)) rfl rfl (fun hh => by simp at hh) ?_
 simp


def S_orbit (pg : Pg) : Prop := ∀ (ms : List (List Int)) (n i : Nat), Prms n ms → ms.length ≤ 1048576 → n ≤ 1048576 → i < n → ∃ l : List Int, ((∀ x, x ∈ l ↔ Rch ms i x) ∧ l.Nodup) ∧ Call pg 430 [tb ms, I i] [tb ms, I i] (.mem .own (some 1) (l.map I))
set_option maxRecDepth 10000 in
theorem t_l01Orbit {pg : Pg} (hp : pg.fn 430 = some j4p) (h62 : S_has pg) : S_orbit pg := by
 intro ms n i hm hml hn hi
 refine Call.find hp rfl (by simp) ?_
 show wp _ _ j4p.body (fun x e => ∃ l : List Int, _ ∧ post [.t 4] _ _ _ x e) _
 simp [j4p]
 refine j3z (α := List Int × Nat) (fun y => n - y.2) (fun y e => (i : Int) ∈ y.1 ∧ y.1.Nodup ∧ (∀ x ∈ y.1, Rch ms i x) ∧ y.2 ≤ y.1.length ∧ (∀ a (ha : a < y.1.length), a < y.2 → ∀ p ∈ ms, act p y.1[a] ∈ y.1) ∧
  e = fr [(0, some (.val (tb ms))), (5, some (.val (.mem .own (some 1) (y.1.map I)))), (6, some (.val (I y.2)))]) ?_ ([(i : Int)], 0) _ ⟨by simp, by simp, by simp [q27], by simp, by simp, by simp⟩
 rintro ⟨l, j⟩ e ⟨g1, g2, g3, g4, g5, rfl⟩
 simp only at g1 g2 g3 g4 g5
 have hrng : ∀ x ∈ l, 0 ≤ x ∧ x < n := fun x hx => q36 hm (by omega) (g3 x hx)
 have hlen := j5o g2 hrng
 by_cases hj : j < l.length
 · simp [hj]
   refine j0a (fun q e => ∃ r : List Int, (l ++ r).Nodup ∧ (∀ x ∈ r, Rch ms i x) ∧ (∀ p ∈ ms.take q, act p l[j] ∈ l ++ r) ∧ e = fr [(0, some (.val (tb ms))), (5, some (.val (.mem .own (some 1) ((l ++ r).map I)))), (6, some (.val (I j))), (7, some (.val (I q)))]) ms.length ?_ ?_ 0 _ (by omega) ⟨[], by simpa using g2, by simp, by simp, by simp⟩
   · rintro q e hq ⟨r, k1, k2, k3, rfl⟩
     have hx := hrng _ (List.getElem_mem hj)
     have hpm : ms[q] ∈ ms := List.getElem_mem hq
     have hpl := (hm _ hpm).1
     have hxl : (l[j]).toNat < (ms[q]).length := by omega
     have hact : act ms[q] l[j] = (ms[q])[(l[j]).toNat] := by simp [act, hxl]
     have hlr := j5o k1 (fun x hx => by
      rcases List.mem_append.1 hx with h | h
      · exact hrng x h
      · exact q36 hm (by omega) (k2 x h))
     have hgj : ∀ h : j < (l ++ r).length, (l ++ r)[j] = l[j] := fun h => List.getElem_append_left hj
     have hjl : j < (l ++ r).length := by simp; omega
     have hrr : Rch ms i (act ms[q] l[j]) := q26 (g3 _ (List.getElem_mem hj)) hpm
     have hadd : act ms[q] l[j] ∉ l ++ r → (l ++ (r ++ [act ms[q] l[j]])).Nodup := fun hh => by
      rw [← List.append_assoc, List.nodup_append]
      exact ⟨k1, by simp, fun a ha b hb => by simp only [List.mem_singleton] at hb; subst hb; exact fun e => hh (e ▸ ha)⟩
     have hnext : ∀ r', (∀ x ∈ l ++ r, x ∈ l ++ r') → act ms[q] l[j] ∈ l ++ r' → ∀ p ∈ ms.take (q + 1), act p l[j] ∈ l ++ r' := fun r' h1 h2 p hp => by
      rw [List.take_succ_eq_append_getElem hq] at hp
      rcases List.mem_append.1 hp with h | h
      · exact h1 _ (k3 p h)
      · simp only [List.mem_singleton] at h; subst h; exact h2
     have hh := h62 (l ++ r) (act ms[q] l[j]) (by omega)
     have hinr : ∀ x, x ∈ r ++ [act ms[q] l[j]] → Rch ms i x := fun x hx => by
      rcases List.mem_append.1 hx with h | h
      · exact k2 x h
      · simp only [List.mem_singleton] at h; subst h; exact hrr
     have hx2 : l[j] < ((ms[q]).length : Int) := by omega
     by_cases hm2 : act ms[q] l[j] ∈ l ++ r
     · have hfin : ∃ r' : List Int, (l ++ r').Nodup ∧ (∀ x ∈ r', Rch ms i x) ∧ (∀ p ∈ ms.take (q + 1), act p l[j] ∈ l ++ r') ∧ l ++ r = l ++ r' := ⟨r, k1, k2, hnext r (fun _ h => h) hm2, rfl⟩
       clear hnext hadd hinr
       generalize l ++ r = L at *
       simp [hq, hjl, hgj, hx, hx2, hxl, ← hact]
       refine j0f hh rfl rfl (fun _ => rfl) ?_
       simp [hm2]
       refine ⟨by omega, ?_⟩
       obtain ⟨r', f1, f2, f3, f4⟩ := hfin
       exact ⟨r', f1, f2, fun p hp => List.mem_append.1 (f3 p hp), by rw [f4]; simp⟩
     · have hfin : ∃ r' : List Int, (l ++ r').Nodup ∧ (∀ x ∈ r', Rch ms i x) ∧ (∀ p ∈ ms.take (q + 1), act p l[j] ∈ l ++ r') ∧ (l ++ r) ++ [act ms[q] l[j]] = l ++ r' :=
        ⟨r ++ [act ms[q] l[j]], hadd hm2, hinr, hnext _ (fun x hx => by rw [← List.append_assoc]; exact List.mem_append_left _ hx) (by rw [← List.append_assoc]; simp), by simp⟩
       clear hnext hadd hinr
       generalize l ++ r = L at *
       simp [hq, hjl, hgj, hx, hx2, hxl, ← hact]
       refine j0f hh rfl rfl (fun _ => rfl) ?_
       simp [hm2, hq, hjl, hgj, hx, hx2, hxl, ← hact, roomy]
       refine ⟨by omega, by omega, ?_⟩
       obtain ⟨r', f1, f2, f3, f4⟩ := hfin
       exact ⟨r', f1, f2, fun p hp => List.mem_append.1 (f3 p hp), by rw [← List.map_append, ← f4]; simp⟩
   · rintro e ⟨r, k1, k2, k3, rfl⟩
     rw [List.take_length] at k3
     have g5' : ∀ (a : Nat) (ha : a < (l ++ r).length), a < j + 1 → ∀ p ∈ ms, act p (l ++ r)[a] ∈ l ++ r := fun a ha ha2 p hp => by
      have hal : a < l.length := by omega
      rw [List.getElem_append_left hal]
      by_cases haj : a = j
      · subst haj; exact k3 p hp
      · exact List.mem_append_left _ (g5 a hal (by omega) p hp)
     have g3' : ∀ x ∈ l ++ r, Rch ms i x := fun x hx => by
      rcases List.mem_append.1 hx with h | h
      · exact g3 x h
      · exact k2 x h
     have g1' : (i : Int) ∈ l ++ r := List.mem_append_left _ g1
     have hlr : j + 1 ≤ (l ++ r).length := by simp; omega
     generalize l ++ r = L at *
     simp
     exact ⟨by omega, L, j + 1, by omega, g1', k1, g3', hlr, g5', by simp⟩
 · simp [hj]
   exact ⟨l, ⟨rch_list g1 g3 fun x hx p hp => by
    obtain ⟨a, ha, rfl⟩ := List.getElem_of_mem hx
    exact g5 a ha (by omega) p hp, g2⟩, rfl⟩
end Go.Mch
namespace Go.Mch

def greatest (xs : List Int) : Int := xs.foldl (fun a x => if a ≤ x then x + 1 else a) 0
theorem j6n {xs : List Int} {k : Nat} (hk : k < xs.length) : greatest (xs.take (k + 1)) = if greatest (xs.take k) ≤ xs[k] then xs[k] + 1 else greatest (xs.take k) := by
 rw [List.take_succ_eq_append_getElem hk]
 simp only [greatest, List.foldl_append, List.foldl_cons, List.foldl_nil]
 rfl
def j9q (pg : Pg) : Prop := ∀ xs : List Int, xs.length ≤ 1048576 → (∀ x ∈ xs, 0 ≤ x ∧ x ≤ 1048576) → Call pg 288 [ix xs] [ix xs] (I (greatest xs))
theorem t_greatest {pg : Pg} (hp : pg.fn 288 = some j3h) : j9q pg := by
 intro xs hl hx
 refine Call.intro hp rfl (by simp) ?_
 show wp _ _ j3h.body (post [.t 2] _ _ _) _
 simp [j3h]
 refine j0a (fun k e => e = fr [(0, some (.val (ix xs))), (3, some (.val (I (greatest (xs.take k))))), (4, some (.val (I k)))]) xs.length ?_ ?_ 0 _ (by omega) ?_
 · rintro k e hk rfl
   have h1 := hx _ (List.getElem_mem hk)
   have hs := j6n hk
   by_cases hg : greatest (xs.take k) ≤ xs[k]
   · rw [if_pos hg] at hs
     simp [hk, hg, hs]
     omega
   · rw [if_neg hg] at hs
     simp [hk, hg, hs]
     omega
 · rintro e rfl
   simp
 · simp [greatest]
def maxL : List Int → Int
 | [] => 0
 | x :: xs => xs.foldl (mmI true) x
theorem maxL_succ {xs : List Int} {k : Nat} (hk : k < xs.length) (h0 : 0 < k) : maxL (xs.take (k + 1)) = mmI true (maxL (xs.take k)) xs[k] := by
 cases xs with
 | nil => simp at hk
 | cons x xs =>
  cases k with
  | zero => omega
  | succ k =>
   have := List.take_succ_eq_append_getElem (show k < xs.length by simpa using hk)
   simp only [List.take_succ_cons, maxL, this, List.foldl_append, List.foldl_cons, List.foldl_nil, List.getElem_cons_succ]
def S_maxL (pg : Pg) : Prop := ∀ xs : List Int, xs.length ≤ 1048576 → 0 < xs.length → Call pg 290 [ix xs] [ix xs] (I (maxL xs))
theorem t_max {pg : Pg} (hp : pg.fn 290 = some j1c) : S_maxL pg := by
 intro xs hl h0
 refine Call.intro hp rfl (by simp) ?_
 show wp _ _ j1c.body (post [.t 2] _ _ _) _
 have h1 : ¬ (xs.length : Int) < 1 := by omega
 have h0' : (0 : Int) < xs.length := by omega
 simp [j1c, h1, h0]
 refine j0a (fun k e => 0 < k ∧ e = fr [(0, some (.val (ix xs))), (3, some (.val (I (maxL (xs.take k))))), (4, some (.val (I k)))]) xs.length ?_ ?_ 1 _ (by omega) ?_
 · rintro k e hk ⟨hk0, rfl⟩
   have hs := maxL_succ hk hk0
   simp [hk, hs]
   omega
 · rintro e ⟨hk0, rfl⟩
   simp
 · cases xs with
   | nil => simp at h0
   | cons x xs => simp [maxL]
theorem j5j : ∀ xs : List Int, 0 < xs.length → (∀ x ∈ xs, 0 ≤ x) → greatest xs = maxL xs + 1 := by
 intro xs h0 hx
 have key : ∀ k, 0 < k → k ≤ xs.length → greatest (xs.take k) = maxL (xs.take k) + 1 := by
  intro k
  induction k with
  | zero => intro h; omega
  | succ k ih =>
   intro _ hk
   rcases Nat.eq_zero_or_pos k with h | h
   · subst h
     cases xs with
     | nil => simp at h0
     | cons x xs =>
      have := hx x (by simp)
      simp [greatest, maxL, this]
   · rw [j6n (by omega), maxL_succ (by omega) h, ih h (by omega)]
     unfold mmI
     simp only [if_true]
     split <;> split <;> omega
 have := key xs.length h0 (Nat.le_refl _)
 simpa using this

def eqv (a b : List (List Int)) (i j : Nat) : Prop := a.getD i [] = a.getD j [] ∧ b.getD i [] = b.getD j []
instance (a b : List (List Int)) (i j : Nat) : Decidable (eqv a b i j) := by unfold eqv; infer_instance
def lab (a b : List (List Int)) (i : Nat) : Nat := ((List.range i).find? fun j => decide (eqv a b i j)).getD i
def classes (f s : List (List Int)) : List Int := j6v ((List.range f.length).map fun i => (lab f (j0z s) i : Int))
@[simp] theorem classes_length (f s : List (List Int)) : (classes f s).length = f.length := by simp [classes]
def idL (n : Nat) : List Int := (List.range n).map fun i : Nat => (i : Int)
@[simp] theorem idL_length (n : Nat) : (idL n).length = n := by simp [idL]
theorem idL_succ (n : Nat) : idL (n + 1) = idL n ++ [(n : Int)] := by simp [idL, List.range_succ]
def q2m (pg : Pg) : Prop := ∀ n : Nat, n ≤ 1048576 → Call pg 335 [I n] [I n] (.mem .own (some 1) ((idL n).map I))
theorem t_identity {pg : Pg} (hp : pg.fn 335 = some j4t) : q2m pg := by
 intro n hn
 refine Call.intro hp rfl (by simp) ?_
 show wp _ _ j4t.body (post [.t 2] _ _ _) _
 simp [j4t]
 refine ⟨by unfold roomy; omega, ?_⟩
 refine j0a (fun k e => e = fr [(3, some (.val (.mem .own (some 1) ((idL k).map I ++ List.replicate (n - k) (I 0))))), (8, some (.val (I n))), (9, some (.val (I k)))]) n ?_ ?_ 0 _ (by omega) ?_
 · rintro k e hk rfl
   have hlen : ((idL k).map I).length = k := by simp
   rw [j7r (I 0) hk]
   simp [hk, set_mid hlen, idL_succ]
   omega
 · rintro e rfl
   simp
 · simp [idL]

theorem renum_rng {xs : List Int} {x : Int} (h : x ∈ j6v xs) : 0 ≤ x ∧ x < xs.length := by
 simp only [j6v, List.mem_map, List.mem_range] at h
 obtain ⟨k, hk, rfl⟩ := h
 have h1 := j79 (j3q (xs.take (k + 1))) (xs.getD k 0)
 have h2 := j8n (xs.take (k + 1))
 have h3 : xs.getD k 0 ∈ j3q (xs.take (k + 1)) := by
  rw [j5i hk, List.getD_eq_getElem?_getD, List.getElem?_eq_getElem hk, Option.getD_some]
  split
  · assumption
  · simp
 have h4 := (j5p _ _).2 h3
 simp only [List.length_take] at h2
 omega

end Go.Mch
namespace Go.Mch

def q7q (pg : Pg) : Prop := ∀ (ms : List (List Int)) (n : Nat), Prms n ms → ms.length ≤ 1048576 → n ≤ 1048576 → Call pg 387 [I n, tb ms] [I n, tb ms] (.mem .own (some 1) ((orbL ms n).map I))
def putL (lab : List Int) (l : List Int) (c : Int) : List Int := (List.range lab.length).map fun x : Nat => if (x : Int) ∈ l then c else lab.getD x 0
@[simp] theorem putL_length (lab l : List Int) (c : Int) : (putL lab l c).length = lab.length := by simp [putL]
theorem putL_nil (lab : List Int) (c : Int) : putL lab [] c = lab := by
 apply List.ext_getElem
 · simp
 · intro i h1 h2
   simp [putL, h2]
theorem putL_get {lab l : List Int} {c : Int} {x : Nat} (h : x < lab.length) : (putL lab l c).getD x 0 = if (x : Int) ∈ l then c else lab.getD x 0 := by
 simp [putL, h]
theorem q37 (lab l : List Int) (c y : Int) (hy : 0 ≤ y) : (putL lab l c).set y.toNat c = putL lab (l ++ [y]) c := by
 apply List.ext_getElem
 · simp
 · intro i h1 h2
   simp only [List.getElem_set, putL, List.getElem_map, List.getElem_range, List.mem_append, List.mem_singleton]
   by_cases hi : y.toNat = i
   · have : (i : Int) = y := by omega
     simp [hi, this]
   · have : ¬ (i : Int) = y := by omega
     simp [hi, this]
theorem putL_mark {ms : List (List Int)} {i : Int} {l lab : List Int} {c : Int} (h : ∀ x, x ∈ l ↔ Rch ms i x) : putL lab l c = markO ms i lab c := by
 apply List.map_congr_left
 intro x _
 by_cases hx : (x : Int) ∈ l
 · simp [hx, j1f ((h x).1 hx)]
 · simp [hx, j0v (fun hh => hx ((h x).2 hh))]

set_option maxRecDepth 10000 in
theorem t_l01Orbits {pg : Pg} (hp : pg.fn 387 = some j36) (h430 : S_orbit pg) : q7q pg := by
 intro ms n hm hml hn
 refine Call.intro hp rfl (by simp) ?_
 show wp _ _ j36.body (post [.t 4] _ _ _) _
 simp [j36]
 refine j0a (fun k e => e = fr [(0, some (.val (I n))), (1, some (.val (tb ms))), (5, some (.val (.mem .own (some 1) (List.replicate k (I (-1)))))), (6, some (.val (I k)))]) n ?_ ?_ 0 _ (by omega) ?_
 · rintro k e hk rfl
   simp [hk, roomy, List.replicate_succ']
   omega
 · rintro e rfl
   simp
   refine j0a (fun k e => e = fr [(0, some (.val (I n))), (1, some (.val (tb ms))), (5, some (.val (.mem .own (some 1) ((orbS ms n k).1.map I)))), (7, some (.val (I (orbS ms n k).2))), (8, some (.val (I k)))]) n ?_ ?_ 0 _ (by omega) ?_
   · rintro k e hk rfl
     have hl := q39 ms n k
     have hc := j9j ms n k
     have hkl : k < (orbS ms n k).1.length := by omega
     have hg : (orbS ms n k).1.getD k 0 = (orbS ms n k).1[k] := by rw [List.getD_eq_getElem?_getD, List.getElem?_eq_getElem hkl]; rfl
     by_cases h0 : 0 ≤ (orbS ms n k).1[k]
     · have hs : orbS ms n (k + 1) = orbS ms n k := by rw [orbS, hg, if_pos h0]
       simp [hk, h0, hs]
       omega
     · obtain ⟨l, ⟨q1, q2⟩, q3⟩ := h430 ms n k hm hml hn hk
       have hs : orbS ms n (k + 1) = (putL (orbS ms n k).1 l (orbS ms n k).2, (orbS ms n k).2 + 1) := by rw [orbS, hg, if_neg h0, putL_mark q1]
       have hrng : ∀ x ∈ l, 0 ≤ x ∧ x < n := fun x hx => q36 hm (by omega) ((q1 x).1 hx)
       have hll := j5o q2 hrng
       rw [hs]
       generalize orbS ms n k = S at *
       simp [hk, hkl, h0]
       refine j0f q3 rfl rfl (fun _ => by simp) ?_
       simp
       refine j0a (fun c e => e = fr [(0, some (.val (I n))), (1, some (.val (tb ms))), (5, some (.val (.mem .own (some 1) ((putL S.1 (l.take c) S.2).map I)))), (7, some (.val (I S.2))), (8, some (.val (I k))), (9, some (.val (.mem .own (some 1) (l.map I)))), (10, some (.val (I c)))]) l.length ?_ ?_ 0 _ (by omega) ?_
       · rintro c e hc2 rfl
         have hx := hrng _ (List.getElem_mem hc2)
         have hxn : (l[c]).toNat < n := by omega
         have hp := q37 S.1 (l.take c) S.2 l[c] hx.1
         rw [← List.take_succ_eq_append_getElem hc2] at hp
         rw [← hp]
         simp [hc2, hx, hl, hxn]
         omega
       · rintro e rfl
         simp
         omega
       · simp [putL_nil]
   · rintro e rfl
     simp [orbL]
   · simp [orbS]
 · simp

theorem orbS_open {ms : List (List Int)} {n : Nat} (h : Prms n ms) {k : Nat} (hk : k < n) (h0 : ¬ 0 ≤ (orbS ms n k).1.getD k 0) {x : Int} (hx : Rch ms k x) : ¬ 0 ≤ (orbS ms n k).1.getD x.toNat 0 := by
 have := hx (fun x => (0 ≤ x ∧ x < n) ∧ ¬ ((0 ≤ x ∧ x < n) ∧ 0 ≤ (orbS ms n k).1.getD x.toNat 0)) ⟨by omega, fun hh => h0 (by simpa using hh.2)⟩ fun y hy p hp =>
  ⟨j4f h hp hy.1, q2t h (orbS_closed h k (by omega)) hy.1 hy.2 hp⟩
 exact fun hh => this.2 ⟨this.1, hh⟩
def q7s (pg : Pg) : Prop := ∀ (ms : List (List Int)) (n : Nat), Prms n ms → ms.length ≤ 1048576 → n ≤ 1048576 → Call pg 388 [I n, tb ms] [I n, tb ms] (.mem .own (some 1) ((orbL ms n).map I))
set_option maxRecDepth 10000 in
theorem q6u {pg : Pg} (hp : pg.fn 388 = some j3k) : q7s pg := by
 intro ms n hm hml hn
 refine Call.intro hp rfl (by simp) ?_
 show wp _ _ j3k.body (post [.t 4] _ _ _) _
 simp [j3k]
 refine ⟨by unfold roomy; omega, ?_⟩
 refine j0a (fun k e => e = fr [(1, some (.val (tb ms))), (5, some (.val (.mem .own (some 1) (List.replicate k (I (-1)) ++ List.replicate (n - k) (I 0))))), (16, some (.val (I n))), (17, some (.val (I k)))]) n ?_ ?_ 0 _ (by omega) ?_
 · rintro k e hk rfl
   have hlen : (List.replicate k (I (-1))).length = k := by simp
   rw [j7r (I 0) hk]
   simp [hk, set_mid hlen, List.replicate_succ']
   omega
 · rintro e rfl
   simp
   refine j0a (fun k e => e = fr [(1, some (.val (tb ms))), (5, some (.val (.mem .own (some 1) ((orbS ms n k).1.map I)))), (7, some (.val (I (orbS ms n k).2))), (25, some (.val (I n))), (26, some (.val (I k)))]) n ?_ ?_ 0 _ (by omega) ?_
   · rintro k e hk rfl
     have hl := q39 ms n k
     have hc := j9j ms n k
     have hkl : k < (orbS ms n k).1.length := by omega
     have hg : (orbS ms n k).1.getD k 0 = (orbS ms n k).1[k] := by rw [List.getD_eq_getElem?_getD, List.getElem?_eq_getElem hkl]; rfl
     by_cases h0 : 0 ≤ (orbS ms n k).1[k]
     · have hs : orbS ms n (k + 1) = orbS ms n k := by rw [orbS, hg, if_pos h0]
       simp [hk, h0, hs]
       omega
     · have hopen := fun {x : Int} (hx : Rch ms k x) => orbS_open hm hk (by rw [hg]; exact h0) hx
       have hs : orbS ms n (k + 1) = (markO ms k (orbS ms n k).1 (orbS ms n k).2, (orbS ms n k).2 + 1) := by rw [orbS, hg, if_neg h0]
       rw [hs]
       generalize orbS ms n k = S at *
       have hput : S.1.set k S.2 = putL S.1 [(k : Int)] S.2 := by
        have := q37 S.1 [] S.2 k (by omega)
        rw [putL_nil] at this
        exact this
       simp [hk, hkl, h0]
       refine ⟨by omega, ?_⟩
       refine j3z (α := List Int × Nat) (fun y => n - y.2) (fun y e => (k : Int) ∈ y.1 ∧ y.1.Nodup ∧ (∀ x ∈ y.1, Rch ms k x) ∧ y.2 ≤ y.1.length ∧ (∀ a (ha : a < y.1.length), a < y.2 → ∀ p ∈ ms, act p y.1[a] ∈ y.1) ∧
        e = fr [(1, some (.val (tb ms))), (5, some (.val (.mem .own (some 1) ((putL S.1 y.1 S.2).map I)))), (7, some (.val (I S.2))), (9, some (.val (.mem .own (some 1) ((y.1.drop y.2).map I)))), (25, some (.val (I n))), (26, some (.val (I k)))]) ?_ ([(k : Int)], 0) _ ⟨by simp, by simp, by simp [q27], by simp, by simp, ?_⟩
       case refine_2 => simp [← hput]
       rintro ⟨V, d⟩ e ⟨g1, g2, g3, g4, g5, rfl⟩
       simp only at g1 g2 g3 g4 g5
       have hrng : ∀ x ∈ V, 0 ≤ x ∧ x < n := fun x hx => q36 hm (by omega) (g3 x hx)
       have hlen := j5o g2 hrng
       by_cases hd : d < V.length
       · have hx := hrng _ (List.getElem_mem hd)
         have hdn : ∀ r : List Int, (V ++ r).drop (d + 1) = V.drop (d + 1) ++ r := fun r => List.drop_append_of_le_length (by omega)
         rw [List.drop_eq_getElem_cons hd]
         generalize V.drop (d + 1) = Q at *
         simp
         refine j0a (fun q e => ∃ r : List Int, (V ++ r).Nodup ∧ (∀ x ∈ V ++ r, Rch ms k x) ∧ (∀ p ∈ ms.take q, act p V[d] ∈ V ++ r) ∧
          e = fr [(1, some (.val (tb ms))), (5, some (.val (.mem .own (some 1) ((putL S.1 (V ++ r) S.2).map I)))), (7, some (.val (I S.2))), (9, some (.val (.mem .own (some 1) (I V[d] :: (Q ++ r).map I)))), (25, some (.val (I n))), (26, some (.val (I k))), (45, some (.val (tb ms))), (46, some (.val (I ms.length))), (47, some (.val (I q)))]) ms.length ?_ ?_ 0 _ (by omega) ⟨[], by simpa using g2, by simpa using g3, by simp, by simp⟩
         · rintro q e hq ⟨r, k1, k2, k3, rfl⟩
           have hpm : ms[q] ∈ ms := List.getElem_mem hq
           have hpl := (hm _ hpm).1
           have hxl : (V[d]).toNat < (ms[q]).length := by omega
           have hact : act ms[q] V[d] = (ms[q])[(V[d]).toNat] := by simp [act, hxl]
           have hrr : Rch ms k (act ms[q] V[d]) := q26 (g3 _ (List.getElem_mem hd)) hpm
           have hyr := j4f hm hpm hx
           have hyo := hopen hrr
           have hx2 : V[d] < ((ms[q]).length : Int) := by omega
           have hnext : ∀ r', (∀ x ∈ V ++ r, x ∈ V ++ r') → act ms[q] V[d] ∈ V ++ r' → ∀ p ∈ ms.take (q + 1), act p V[d] ∈ V ++ r' := fun r' h1 h2 p hp => by
            rw [List.take_succ_eq_append_getElem hq] at hp
            rcases List.mem_append.1 hp with h | h
            · exact h1 _ (k3 p h)
            · simp only [List.mem_singleton] at h; subst h; exact h2
           have hpg := putL_get (lab := S.1) (l := V ++ r) (c := S.2) (x := (act ms[q] V[d]).toNat) (by omega)
           rw [show (((act ms[q] V[d]).toNat : Nat) : Int) = act ms[q] V[d] from by omega] at hpg
           have hyl : (act ms[q] V[d]).toNat < S.1.length := by omega
           have hyl2 : act ms[q] V[d] < S.1.length := by omega
           have hpe : ∀ h : (act ms[q] V[d]).toNat < (putL S.1 (V ++ r) S.2).length, (putL S.1 (V ++ r) S.2)[(act ms[q] V[d]).toNat] = (putL S.1 (V ++ r) S.2).getD (act ms[q] V[d]).toNat 0 := fun h => by
            rw [List.getD_eq_getElem?_getD, List.getElem?_eq_getElem h]; rfl
           rw [hpg] at hpe
           have hsnoc := q37 S.1 (V ++ r) S.2 (act ms[q] V[d]) hyr.1
           by_cases hm2 : act ms[q] V[d] ∈ V ++ r
           · have hfin : ∃ r' : List Int, (V ++ r').Nodup ∧ (∀ x ∈ V ++ r', Rch ms k x) ∧ (∀ p ∈ ms.take (q + 1), act p V[d] ∈ V ++ r') ∧ V ++ r = V ++ r' ∧ Q ++ r = Q ++ r' := ⟨r, k1, k2, hnext r (fun _ h => h) hm2, rfl, rfl⟩
             rw [if_pos hm2] at hpe
             have hc0 : ¬ S.2 < 0 := by omega
             clear hnext hpg hsnoc
             generalize V ++ r = L at *
             generalize Q ++ r = Q' at *
             simp [hq, hx, hx2, hxl, ← hact, hyr, hyl, hyl2, hpe, hc0]
             refine ⟨by omega, ?_⟩
             obtain ⟨r', f1, f2, f3, f4, f5⟩ := hfin
             exact ⟨r', f1, fun x hx => f2 x (List.mem_append.2 hx), fun p hp => List.mem_append.1 (f3 p hp), by rw [f4, f5]; simp⟩
           · have hfin : ∃ r' : List Int, (V ++ r').Nodup ∧ (∀ x ∈ V ++ r', Rch ms k x) ∧ (∀ p ∈ ms.take (q + 1), act p V[d] ∈ V ++ r') ∧ (V ++ r) ++ [act ms[q] V[d]] = V ++ r' ∧ (Q ++ r) ++ [act ms[q] V[d]] = Q ++ r' := by
              refine ⟨r ++ [act ms[q] V[d]], ?_, ?_, hnext _ (fun x hx => by rw [← List.append_assoc]; exact List.mem_append_left _ hx) (by rw [← List.append_assoc]; simp), by simp, by simp⟩
              · rw [← List.append_assoc, List.nodup_append]
                exact ⟨k1, by simp, fun a ha b hb => by simp only [List.mem_singleton] at hb; subst hb; exact fun e => hm2 (e ▸ ha)⟩
              · intro x hx
                rw [← List.append_assoc] at hx
                rcases List.mem_append.1 hx with h | h
                · exact k2 x h
                · simp only [List.mem_singleton] at h; subst h; exact hrr
             rw [if_neg hm2] at hpe
             have hc0 : S.1.getD (act ms[q] V[d]).toNat 0 < 0 := by omega
             have hlr := j5o k1 fun x hx => q36 hm (by omega) (k2 x hx)
             have hQl : (Q ++ r).length ≤ (V ++ r).length := by
              have := congrArg List.length (hdn r)
              rw [List.length_drop] at this
              omega
             clear hnext hpg
             generalize V ++ r = L at *
             generalize Q ++ r = Q' at *
             generalize S.1.getD (act ms[q] V[d]).toNat 0 = z at *
             simp [hq, hx, hx2, hxl, ← hact, hyr, hyl, hyl2, hpe, hc0, roomy]
             refine ⟨by omega, by omega, by omega, ?_⟩
             obtain ⟨r', f1, f2, f3, f4, f5⟩ := hfin
             refine ⟨r', f1, fun x hx => f2 x (List.mem_append.2 hx), fun p hp => List.mem_append.1 (f3 p hp), ?_⟩
             rw [← f4, ← hsnoc, ← List.map_append, ← f5]
             simp
         · rintro e ⟨r, k1, k2, k3, rfl⟩
           rw [List.take_length] at k3
           have g5' : ∀ (a : Nat) (ha : a < (V ++ r).length), a < d + 1 → ∀ p ∈ ms, act p (V ++ r)[a] ∈ V ++ r := fun a ha ha2 p hp => by
            have hal : a < V.length := by omega
            rw [List.getElem_append_left hal]
            by_cases had : a = d
            · subst had; exact k3 p hp
            · exact List.mem_append_left _ (g5 a hal (by omega) p hp)
           have g1' : (k : Int) ∈ V ++ r := List.mem_append_left _ g1
           have hlr : d + 1 ≤ (V ++ r).length := by simp; omega
           have hdn' := hdn r
           clear hdn
           generalize V ++ r = L at *
           generalize Q ++ r = Q' at *
           simp
           refine ⟨by omega, by omega, L, d + 1, by omega, g1', k1, k2, hlr, g5', ?_⟩
           rw [← List.map_drop, hdn']
           simp [win]
       · have hcl := rch_list g1 g3 fun x hx p hp => by
          obtain ⟨a, ha, rfl⟩ := List.getElem_of_mem hx
          exact g5 a ha (by omega) p hp
         have hd2 : V.length - d = 0 := by omega
         have hpm := putL_mark (lab := S.1) (c := S.2) hcl
         simp [hd2, hpm]
         omega
   · rintro e rfl
     simp [orbL]
   · simp [orbS]
 · simp
end Go.Mch
namespace Go.Mch

noncomputable def solO (f s : List (List Int)) : List Int := orbL (f ++ j0z s) f.length
@[simp] theorem solO_length (f s : List (List Int)) : (solO f s).length = f.length := by simp [solO]
theorem j73 {f s : List (List Int)} (h : PM f s) (hn : j5w f s) : Prms f.length (f ++ j0z s) := fun p hp => by
 rcases List.mem_append.1 hp with h1 | h1
 · exact ⟨by have := (h.tf p h1).1; omega, hn.1 p h1⟩
 · exact ⟨by rw [j9f h1, h.len], hn.2 p h1⟩
theorem q68 {ms : List (List Int)} {n : Nat} {x : Int} (hx : x ∈ orbL ms n) : 0 ≤ x ∧ x < n := by
 obtain ⟨i, hi, rfl⟩ := List.getElem_of_mem hx
 simp only [orbL_length] at hi
 have h1 := orbS_done ms n n (Nat.le_refl _) i hi
 have h2 := orbS_rng ms n n i hi
 have h3 := j9j ms n n
 have : (orbS ms n n).1.getD i 0 = (orbL ms n)[i] := by
  rw [List.getD_eq_getElem?_getD, List.getElem?_eq_getElem (by simpa using hi)]; rfl
 omega
theorem q0h {f s : List (List Int)} {x : Int} (hx : x ∈ solO f s) : 0 ≤ x ∧ x < f.length := q68 hx

def q5c (pg : Pg) (n : Nat) : Prop := ∀ f s : List (List Int), PM f s → j5w f s → Call pg n [sol f s] [sol f s] (.mem .own (some 1) ((solO f s).map I))
theorem t_l07Orbits {pg : Pg} (hp : pg.fn 299 = some j32) (h273 : S_both pg) (h387 : q7q pg) : q5c pg 299 := by
 intro f s h hn
 have h12 := h.small
 have hl := h.len
 refine Call.intro hp rfl (by simp) ?_
 show wp _ _ j32.body (post [.t 2] _ _ _) _
 simp [j32]
 refine j0f (h273 f s h) rfl rfl (fun _ => by simp) ?_
 simp
 refine j0f (h387 (f ++ j0z s) f.length (j73 h hn) (by simp; omega) (by omega)) rfl rfl (fun _ => by simp) ?_
 simp [solO]
theorem q2y {pg : Pg} (hp : pg.fn 301 = some j2i) (h271 : q7p pg) (h388 : q7s pg) : q5c pg 301 := by
 intro f s h hn
 have h12 := h.small
 have hl := h.len
 refine Call.intro hp rfl (by simp) ?_
 show wp _ _ j2i.body (post [.t 2] _ _ _) _
 simp [j2i]
 refine j0f (h271 f s h) rfl rfl (fun hh => by simp at hh) ?_
 simp
 refine j0f (h388 (f ++ j0z s) f.length (j73 h hn) (by simp; omega) (by omega)) rfl rfl (fun _ => by simp) ?_
 simp [solO]


def q1k (pg : Pg) : Prop := ∀ f s : List (List Int), PM f s → j5w f s → Call pg 300 [sol f s] [sol f s] (B (decide (maxL (solO f s) = 0)))
theorem t_isIndec {pg : Pg} (hp : pg.fn 300 = some j1s) (h301 : q5c pg 301) (h290 : S_maxL pg) : q1k pg := by
 intro f s h hn
 have h0 := h.pos
 have h12 := h.small
 refine Call.intro hp rfl (by simp) ?_
 show wp _ _ j1s.body (post [.t 2] _ _ _) _
 simp [j1s]
 refine j0f (h301 f s h hn) rfl rfl (fun _ => by simp) ?_
 simp
 refine j0f (h290 (solO f s) (by simp; omega) (by simpa using h0)) rfl rfl (fun _ => rfl) ?_
 simp
end Go.Mch
namespace Go.Mch

structure Nd (n : Nat) (σ τ : Nat → Nat → Nat) : Prop where
 rs : ∀ x y, x < n → y < n → σ x y < n
 rt : ∀ x y, x < n → y < n → τ x y < n
 is : ∀ x y y', x < n → y < n → y' < n → σ x y = σ x y' → y = y'
 it : ∀ x y y', x < n → y < n → y' < n → τ x y = τ x y' → y = y'
 ss : ∀ x w, x < n → w < n → ∃ y, y < n ∧ σ x y = w
 st : ∀ x w, x < n → w < n → ∃ y, y < n ∧ τ x y = w
 e1 : ∀ x y z, x < n → y < n → z < n → σ (σ x y) (σ (τ y x) z) = σ x (σ y z)
 e2 : ∀ x y z, x < n → y < n → z < n → τ (σ (τ y x) z) (σ x y) = σ (τ (σ y z) x) (τ z y)
 e3 : ∀ x y z, x < n → y < n → z < n → τ z (τ y x) = τ (τ z y) (τ (σ y z) x)

def Alk (n : Nat) (σ τ : Nat → Nat → Nat) (x x' : Nat) : Prop := ∀ y, y < n → σ x y = σ x' y ∧ τ x y = τ x' y
theorem Nd.c1 {n : Nat} {σ τ : Nat → Nat → Nat} (h : Nd n σ τ) {x y y' : Nat} (hx : x < n) (hy : y < n) (hy' : y' < n) (ha : Alk n σ τ y y') : Alk n σ τ (σ x y) (σ x y') := by
 intro w hw
 have ht := (ha x hx).2
 constructor
 · obtain ⟨z, hz, rfl⟩ := h.ss (τ y x) w (h.rt _ _ hy hx) hw
   have a1 := h.e1 x y z hx hy hz
   have a2 := h.e1 x y' z hx hy' hz
   rw [← ht] at a2
   rw [a1, a2, (ha z hz).1]
 · have a1 := h.e3 w x y hw hx hy
   have a2 := h.e3 w x y' hw hx hy'
   rw [← (ha _ (h.rt x w hx hw)).2, a1, ← ht] at a2
   exact h.it _ _ _ (h.rt _ _ hy hx) (h.rt _ _ (h.rs _ _ hx hy) hw) (h.rt _ _ (h.rs _ _ hx hy') hw) a2
theorem Nd.c2 {n : Nat} {σ τ : Nat → Nat → Nat} (h : Nd n σ τ) {x x' y : Nat} (hx : x < n) (hx' : x' < n) (hy : y < n) (ha : Alk n σ τ x x') : Alk n σ τ (τ y x) (τ y x') := by
 intro w hw
 have hs := (ha y hy).1
 constructor
 · have a1 := h.e1 x y w hx hy hw
   have a2 := h.e1 x' y w hx' hy hw
   rw [← (ha _ (h.rs y w hy hw)).1, ← a1, ← hs] at a2
   exact (h.is _ _ _ (h.rs _ _ hx hy) (h.rs _ _ (h.rt _ _ hy hx') hw) (h.rs _ _ (h.rt _ _ hy hx) hw) a2).symm
 · obtain ⟨u, hu, rfl⟩ := h.st (σ x y) w (h.rs _ _ hx hy) hw
   have a1 := h.e3 u x y hu hx hy
   have a2 := h.e3 u x' y hu hx' hy
   rw [← (ha u hu).2, a1, ← hs] at a2
   exact a2

structure Quo (n m : Nat) (σ τ : Nat → Nat → Nat) (c d : Nat → Nat) : Prop where
 cm : ∀ x, x < n → c x < m
 dn : ∀ i, i < m → d i < n
 cd : ∀ i, i < m → c (d i) = i
 ca : ∀ x x', x < n → x' < n → (c x = c x' ↔ Alk n σ τ x x')
theorem Quo.al {n m : Nat} {σ τ : Nat → Nat → Nat} {c d : Nat → Nat} (q : Quo n m σ τ c d) {x : Nat} (hx : x < n) : Alk n σ τ (d (c x)) x :=
 (q.ca _ _ (q.dn _ (q.cm x hx)) hx).1 (q.cd _ (q.cm x hx))
theorem Quo.fs {n m : Nat} {σ τ : Nat → Nat → Nat} {c d : Nat → Nat} (h : Nd n σ τ) (q : Quo n m σ τ c d) {x y : Nat} (hx : x < n) (hy : y < n) : c (σ (d (c x)) (d (c y))) = c (σ x y) := by
 have h1 := q.dn _ (q.cm x hx)
 have h2 := q.dn _ (q.cm y hy)
 rw [(q.al hx _ h2).1]
 exact (q.ca _ _ (h.rs _ _ hx h2) (h.rs _ _ hx hy)).2 (h.c1 hx h2 hy (q.al hy))
theorem Quo.ft {n m : Nat} {σ τ : Nat → Nat → Nat} {c d : Nat → Nat} (h : Nd n σ τ) (q : Quo n m σ τ c d) {x y : Nat} (hx : x < n) (hy : y < n) : c (τ (d (c y)) (d (c x))) = c (τ y x) := by
 have h1 := q.dn _ (q.cm x hx)
 have h2 := q.dn _ (q.cm y hy)
 rw [(q.al hy _ h1).2]
 exact (q.ca _ _ (h.rt _ _ hy h1) (h.rt _ _ hy hx)).2 (h.c2 h1 hx hy (q.al hx))

theorem q4r {m : Nat} {g : Nat → Nat} (hs : ∀ w, w < m → ∃ j, j < m ∧ g j = w) : ∀ j j', j < m → j' < m → g j = g j' → j = j' := by
 have hnd : ((List.range m).map g).Nodup := j8y (List.range m) ((List.range m).map g) List.nodup_range (fun x hx => by
  obtain ⟨j, hj, rfl⟩ := hs x (by simpa using hx)
  exact List.mem_map.2 ⟨j, by simpa using hj, rfl⟩) (by simp)
 intro j j' hj hj' he
 have := (List.getElem_inj (xs := (List.range m).map g) (i := j) (j := j') (h₀ := by simpa using hj) (h₁ := by simpa using hj') hnd).1 (by simpa using he)
 exact this

theorem Quo.nd {n m : Nat} {σ τ : Nat → Nat → Nat} {c d : Nat → Nat} (h : Nd n σ τ) (q : Quo n m σ τ c d) : Nd m (fun i j => c (σ (d i) (d j))) (fun i j => c (τ (d i) (d j))) := by
 have rs : ∀ x y, x < m → y < m → c (σ (d x) (d y)) < m := fun x y hx hy => q.cm _ (h.rs _ _ (q.dn _ hx) (q.dn _ hy))
 have rt : ∀ x y, x < m → y < m → c (τ (d x) (d y)) < m := fun x y hx hy => q.cm _ (h.rt _ _ (q.dn _ hx) (q.dn _ hy))
 have ss : ∀ x w, x < m → w < m → ∃ y, y < m ∧ c (σ (d x) (d y)) = w := fun x w hx hw => by
  obtain ⟨y, hy, he⟩ := h.ss (d x) (d w) (q.dn _ hx) (q.dn _ hw)
  refine ⟨c y, q.cm _ hy, ?_⟩
  have := q.fs h (q.dn _ hx) hy
  rw [q.cd _ hx] at this
  rw [this, he, q.cd _ hw]
 have st : ∀ x w, x < m → w < m → ∃ y, y < m ∧ c (τ (d x) (d y)) = w := fun x w hx hw => by
  obtain ⟨y, hy, he⟩ := h.st (d x) (d w) (q.dn _ hx) (q.dn _ hw)
  refine ⟨c y, q.cm _ hy, ?_⟩
  have := q.ft h hy (q.dn _ hx)
  rw [q.cd _ hx] at this
  rw [this, he, q.cd _ hw]
 -- the class of a map of elements is the quotient's map of the classes
 have ks : ∀ u v, u < n → v < n → c (σ (d (c u)) (d (c v))) = c (σ u v) := fun u v hu hv => q.fs h hu hv
 have kt : ∀ u v, u < n → v < n → c (τ (d (c u)) (d (c v))) = c (τ u v) := fun u v hu hv => q.ft h hv hu
 constructor
 · exact rs
 · exact rt
 · exact fun x y y' hx hy hy' he => q4r (fun w hw => ss x w hx hw) y y' hy hy' he
 · exact fun x y y' hx hy hy' he => q4r (fun w hw => st x w hx hw) y y' hy hy' he
 · exact ss
 · exact st
 · intro x y z hx hy hz
   have dx := q.dn _ hx
   have dy := q.dn _ hy
   have dz := q.dn _ hz
   have a1 := h.e1 _ _ _ dx dy dz
   have l1 := ks _ _ (h.rt _ _ dy dx) dz
   rw [q.cd _ hz] at l1
   have l2 := ks _ _ (h.rs _ _ dx dy) (h.rs _ _ (h.rt _ _ dy dx) dz)
   have l3 := ks _ _ dx (h.rs _ _ dy dz)
   rw [q.cd _ hx] at l3
   rw [l1, l2, l3, a1]
 · intro x y z hx hy hz
   have dx := q.dn _ hx
   have dy := q.dn _ hy
   have dz := q.dn _ hz
   have a1 := h.e2 _ _ _ dx dy dz
   have l1 := ks _ _ (h.rt _ _ dy dx) dz
   rw [q.cd _ hz] at l1
   have l2 := kt _ _ (h.rs _ _ (h.rt _ _ dy dx) dz) (h.rs _ _ dx dy)
   have l3 := kt _ _ (h.rs _ _ dy dz) dx
   rw [q.cd _ hx] at l3
   have l4 := ks _ _ (h.rt _ _ (h.rs _ _ dy dz) dx) (h.rt _ _ dz dy)
   rw [l1, l2, l3, l4, a1]
 · intro x y z hx hy hz
   have dx := q.dn _ hx
   have dy := q.dn _ hy
   have dz := q.dn _ hz
   have a1 := h.e3 _ _ _ dx dy dz
   have l1 := kt _ _ dz (h.rt _ _ dy dx)
   rw [q.cd _ hz] at l1
   have l2 := kt _ _ (h.rs _ _ dy dz) dx
   rw [q.cd _ hx] at l2
   have l3 := kt _ _ (h.rt _ _ dz dy) (h.rt _ _ (h.rs _ _ dy dz) dx)
   rw [l1, l2, l3, a1]
end Go.Mch
namespace Go.Mch

def plK (xs : List Int) (P : Int → Bool) (k : Nat) : List Int := ((List.range k).filter fun i => P (xs.getD i 0)).map fun i : Nat => (i : Int)
def pl (xs : List Int) (P : Int → Bool) : List Int := plK xs P xs.length
theorem plK_succ {xs : List Int} {P : Int → Bool} {k : Nat} (hk : k < xs.length) : plK xs P (k + 1) = if P xs[k] then plK xs P k ++ [(k : Int)] else plK xs P k := by
 have hg : xs.getD k 0 = xs[k] := by rw [List.getD_eq_getElem?_getD, List.getElem?_eq_getElem hk]; rfl
 simp only [plK, List.range_succ, List.filter_append, List.filter_cons, List.filter_nil, hg]
 by_cases h : P xs[k] = true
 · simp [h]
 · simp [h]
theorem plK_len (xs : List Int) (P : Int → Bool) (k : Nat) : (plK xs P k).length ≤ k := by
 have := List.length_filter_le (fun i => P (xs.getD i 0)) (List.range k)
 simpa [plK] using this
end Go.Mch
namespace Go.Mch

def σN (f : List (List Int)) (x y : Nat) : Nat := (v2 f x y).toNat
def τN (s : List (List Int)) (y x : Nat) : Nat := (v2 s x y).toNat
theorem PM.v2f {f s : List (List Int)} (h : PM f s) (x y : Nat) : ((σN f x y : Nat) : Int) = v2 f x y ∧ σN f x y < f.length := by
 have h1 := h.tf.nonneg x y
 have h2 := h.tf.lt h.pos x y
 unfold σN
 omega
theorem PM.v2s {f s : List (List Int)} (h : PM f s) (x y : Nat) : ((τN s y x : Nat) : Int) = v2 s x y ∧ τN s y x < f.length := by
 have h1 := h.ts.nonneg x y
 have h2 := h.ts.lt (by rw [h.len]; exact h.pos) x y
 rw [h.len] at h2
 unfold τN
 omega
theorem surj_of_inj {n : Nat} {g : Nat → Nat} (hr : ∀ y, y < n → g y < n) (hi : ∀ y y', y < n → y' < n → g y = g y' → y = y') : ∀ w, w < n → ∃ y, y < n ∧ g y = w := by
 intro w hw
 apply Classical.byContradiction
 intro hno
 have hnd : (w :: (List.range n).map g).Nodup := by
  rw [List.nodup_cons]
  constructor
  · intro hm
    obtain ⟨y, hy, he⟩ := List.mem_map.1 hm
    exact hno ⟨y, by simpa using hy, he⟩
  · rw [List.Nodup, List.pairwise_map]
    refine (List.nodup_range (n := n)).imp_of_mem ?_
    intro a b ha hb hab he
    exact hab (hi a b (by simpa using ha) (by simpa using hb) he)
 have := j3c (w :: (List.range n).map g) (List.range n) hnd fun x hx => by
  rcases List.mem_cons.1 hx with rfl | hx
  · simpa using hw
  · obtain ⟨y, hy, rfl⟩ := List.mem_map.1 hx
    simpa using hr y (by simpa using hy)
 simp at this
 omega

theorem q72 (xs : List Int) : ∀ k j, k + j ≤ xs.length → ∃ r, j3q (xs.take (k + j)) = j3q (xs.take k) ++ r := by
 intro k j
 induction j with
 | zero => intro _; exact ⟨[], by simp⟩
 | succ j ih =>
  intro h
  obtain ⟨r, hr⟩ := ih (by omega)
  rw [show k + (j + 1) = k + j + 1 from rfl, j5i (show k + j < xs.length by omega)]
  split
  · exact ⟨r, hr⟩
  · exact ⟨r ++ [xs[k + j]], by rw [hr]; simp⟩
theorem ixOf_pre {a b : List Int} {x : Int} (h : x ∈ a) : ixOf (a ++ b) x = ixOf a x := by
 induction a with
 | nil => simp at h
 | cons y a ih =>
  simp only [List.cons_append, ixOf]
  by_cases hy : y = x
  · simp [hy]
  · rw [if_neg hy, if_neg hy, ih (by simpa [Ne.symm hy, eq_comm, hy] using h)]
theorem q73 {xs : List Int} {k : Nat} (hk : k < xs.length) : xs[k] ∈ j3q (xs.take (k + 1)) := by
 rw [j5i hk]
 split
 · assumption
 · simp
theorem uniqs_nodup (xs : List Int) : ∀ k, k ≤ xs.length → (j3q (xs.take k)).Nodup := by
 intro k
 induction k with
 | zero => intro _; simp [j3q]
 | succ k ih =>
  intro hk
  rw [j5i (by omega)]
  split
  · exact ih (by omega)
  · rename_i hn
    rw [List.nodup_append]
    exact ⟨ih (by omega), by simp, fun a ha b hb => by simp only [List.mem_singleton] at hb; subst hb; exact fun e => hn (e ▸ ha)⟩
theorem uniqs_sub (xs : List Int) : ∀ k, k ≤ xs.length → ∀ x ∈ j3q (xs.take k), x ∈ xs := by
 intro k
 induction k with
 | zero => intro _ x hx; simp [j3q] at hx
 | succ k ih =>
  intro hk x hx
  rw [j5i (show k < xs.length by omega)] at hx
  split at hx
  · exact ih (by omega) x hx
  · rcases List.mem_append.1 hx with h | h
    · exact ih (by omega) x h
    · simp only [List.mem_singleton] at h; subst h; exact List.getElem_mem _
theorem q35 {xs : List Int} {k : Nat} (hk : k < xs.length) : (j6v xs).getD k 0 = ixOf (j3q xs) xs[k] := by
 have hg : xs.getD k 0 = xs[k] := by rw [List.getD_eq_getElem?_getD, List.getElem?_eq_getElem hk]; rfl
 have h1 : (j6v xs).getD k 0 = ixOf (j3q (xs.take (k + 1))) xs[k] := by
  rw [List.getD_eq_getElem?_getD, List.getElem?_eq_getElem (by simpa using hk)]
  simp only [j6v, List.getElem_map, List.getElem_range, Option.getD_some, hg]
 obtain ⟨r, hr⟩ := q72 xs (k + 1) (xs.length - (k + 1)) (by omega)
 rw [show k + 1 + (xs.length - (k + 1)) = xs.length from by omega, List.take_length] at hr
 rw [h1, hr, ixOf_pre (q73 hk)]
theorem q3l {xs : List Int} {k : Nat} (hk : k < xs.length) : xs[k] ∈ j3q xs := by
 obtain ⟨r, hr⟩ := q72 xs (k + 1) (xs.length - (k + 1)) (by omega)
 rw [show k + 1 + (xs.length - (k + 1)) = xs.length from by omega, List.take_length] at hr
 rw [hr]
 exact List.mem_append_left _ (q73 hk)
theorem q3c : ∀ {l : List Int} {x : Int} (_ : x ∈ l), ∃ hi : (ixOf l x).toNat < l.length, l[(ixOf l x).toNat] = x
 | y :: l, x, h => by
  by_cases hy : y = x
  · subst hy; exact ⟨by simp [ixOf], by simp [ixOf]⟩
  · have hx : x ∈ l := by
     rcases List.mem_cons.1 h with h | h
     · exact absurd h.symm hy
     · exact h
    obtain ⟨hi, he⟩ := q3c hx
    have h0 := (j5p l x).2 hx
    have hval : ixOf (y :: l) x = ixOf l x + 1 := by
     simp only [ixOf]; rw [if_neg hy, if_neg (by omega)]
    have ht : (ixOf (y :: l) x).toNat = (ixOf l x).toNat + 1 := by rw [hval]; omega
    refine ⟨by rw [ht]; simp; exact hi, ?_⟩
    simp only [ht, List.getElem_cons_succ]
    exact he
theorem ixOf_nodup {l : List Int} (hd : l.Nodup) {i : Nat} (hi : i < l.length) : ixOf l l[i] = i := by
 obtain ⟨h1, h2⟩ := q3c (List.getElem_mem hi)
 have := (List.getElem_inj hd).1 h2
 have h3 := (j5p l l[i]).2 (List.getElem_mem hi)
 omega
theorem ixOf_inj {l : List Int} {x y : Int} (hx : x ∈ l) (hy : y ∈ l) (h : ixOf l x = ixOf l y) : x = y := by
 obtain ⟨h1, h2⟩ := q3c hx
 obtain ⟨h3, h4⟩ := q3c hy
 rw [← h2, ← h4]
 congr 1
 rw [h]


end Go.Mch
namespace Go.Mch

theorem q5l (xs : List Int) : ∀ k, k ≤ xs.length → greatest ((j6v xs).take k) = (j3q (xs.take k)).length := by
 intro k
 induction k with
 | zero => intro _; rfl
 | succ k ih =>
  intro hk
  have hkl : k < (j6v xs).length := by simp; omega
  have hg : (j6v xs)[k] = ixOf (j3q (xs.take (k + 1))) xs[k] := by
   have e : xs.getD k 0 = xs[k] := by rw [List.getD_eq_getElem?_getD, List.getElem?_eq_getElem (by omega)]; rfl
   simp only [j6v, List.getElem_map, List.getElem_range, e]
  have ih := ih (by omega)
  rw [j6n hkl, ih, hg, j5i (show k < xs.length by omega)]
  have hb := j79 (j3q (xs.take k)) xs[k]
  by_cases hm : xs[k] ∈ j3q (xs.take k)
  · rw [if_pos hm, if_neg (by omega)]
  · rw [if_neg hm, ixOf_new hm, if_pos (Int.le_refl _)]
    simp

end Go.Mch
namespace Go.Mch


def q6r (pg : Pg) : Prop := ∀ (o : Option (List (List Int))) (k : Int), j5l (lso o) → 0 ≤ k → k ≤ 2305843009213693952 → q15 (lso o) k ≤ 4611686018427387904 → Call pg 149 [.agg [eT o], I k] [.agg [eT o], I k] (I (if q15 (lso o) k < 0 then -1 else q15 (lso o) k))
end Go.Mch
namespace Go.Mch

@[simp] theorem isPrefixOf_cons2 (a b : Nat) (as bs : List Nat) : (a :: as).isPrefixOf (b :: bs) = (a == b && as.isPrefixOf bs) := rfl

theorem q6r.at {pg : Pg} (h : q6r pg) (Y : List (List Int)) (m : Int) (hY : j5l Y) (h1 : 0 ≤ m) (h2 : m ≤ 1152921504606846976) : Call pg 149 [.agg [tb (upT m Y)], I m] [.agg [tb (upT m Y)], I m] (I (kAt m Y Y.length)) := by
 have hk := kAt_le (k := m) hY Y.length (Nat.le_refl _)
 have hl := hY.1
 have := h (some (upT m Y)) m (q3k hY m) h1 (by omega) (by simp [q0x _ _ h1]; omega)
 simp only [j76, q0x _ _ h1] at this
 rw [if_neg (by omega)] at this
 exact this
def S_heldSol (pg : Pg) : Prop := ∀ (o o' : Option (List (List Int))) (k m : Int), j5l (lso o) → j5l (lso o') → 0 ≤ k → k ≤ 1152921504606846976 → 0 ≤ q15 (lso o) k → q15 (lso o) k ≤ 1152921504606846976 → q15 (lso o') (q15 (lso o) k) = m → 0 ≤ m → Call pg 172 [.agg [eT o, eT o'], I k] [.agg [eT o, eT o'], I k] (I m)
theorem S_heldSol.at {pg : Pg} (h : S_heldSol pg) (X Y : List (List Int)) (m : Int) (hX : j5l X) (hY : j5l Y) (h1 : 0 ≤ m) (h2 : m ≤ 1048576) : Call pg 172 [.agg [tb (upT m X), tb (upT (kAt m X X.length) Y)], I m] [.agg [tb (upT m X), tb (upT (kAt m X X.length) Y)], I m] (I (kAt (kAt m X X.length) Y Y.length)) := by
 have hk := kAt_le (k := m) hX X.length (Nat.le_refl _)
 have hk2 := kAt_le (k := kAt m X X.length) hY Y.length (Nat.le_refl _)
 have hl := hX.1
 have e1 := q0x X m h1
 have e2 := q0x Y (kAt m X X.length) (by omega)
 exact h (some (upT m X)) (some (upT _ Y)) m _ (q3k hX m) (q3k hY _) h1 (by omega) (by simp [e1]; omega) (by simp [e1]; omega) (by simp [e1, e2]) (by omega)
end Go.Mch
namespace Go.Mch

def cmpI (a b : Int) : Int := if a < b then -1 else if b < a then 1 else 0
def cmpW {α : Type} (c : α → α → Int) : List α → List α → Int
 | [], [] => 0
 | [], _ :: _ => -1
 | _ :: _, [] => 1
 | a :: as, b :: bs => if c a b ≠ 0 then c a b else cmpW c as bs
theorem q1c (a b : Int) : cmpI a b = 0 ↔ a = b := by
 unfold cmpI
 constructor
 · intro h
   split at h
   · omega
   · split at h <;> omega
 · rintro rfl; simp
theorem cmpW_zero {α : Type} {c : α → α → Int} (hc : ∀ a b, c a b = 0 ↔ a = b) : ∀ as bs : List α, cmpW c as bs = 0 ↔ as = bs
 | [], [] => by simp [cmpW]
 | [], _ :: _ => by simp [cmpW]
 | _ :: _, [] => by simp [cmpW]
 | a :: as, b :: bs => by
  have ih := cmpW_zero hc as bs
  unfold cmpW
  by_cases h : c a b = 0
  · have := (hc a b).1 h
    subst this
    simp [h, ih]
  · have : a ≠ b := fun he => h ((hc a b).2 he)
    simp [h, this]
abbrev cmpL : List Int → List Int → Int := cmpW cmpI
theorem q43 (a b : List Int) : cmpL a b = 0 ↔ a = b := cmpW_zero q1c a b
end Go.Mch
namespace Go.Mch

def atV (k : Env → Prop) (e : Env) (d : Option Nat) (n : Int) : V → Prop
 | .val (.sc (.string s)) => j0c (if 0 ≤ n then s[n.toNat]? else none) fun b => k (e.setD d (.val (.sc (.int .u8 b.toNat))))
 | _ => False
section
variable (G : Rl) (m : K) (d : Option Nat) (k : Env → Prop) (e : Env)
@[simp] theorem q_at (x i : Opd) : j0l G m d (.at x i) k e = j0c (e.opd x) fun a => j0c ((e.opd i).bind asI) fun n => atV k e d n a := by
 unfold j0l atV
 rfl
@[simp ↓, simp] theorem asgV_same (r : Nat) : asgV e d k (.same r) = j0c (e.take (.same r)) fun y => k (y.2.setD d (.val y.1)) := rfl
@[simp ↓, simp] theorem atV_str (n : Int) (s : ByteArray) : atV k e d n (.val (.sc (.string s))) = j0c (if 0 ≤ n then s[n.toNat]? else none) fun b => k (e.setD d (.val (.sc (.int .u8 b.toNat)))) := rfl
end

theorem cmpI_neg (a b : Int) : cmpI b a = - cmpI a b := by
 unfold cmpI
 split
 · rw [if_neg (by omega)]
 · split <;> rfl
theorem cmpL_neg : ∀ a b : List Int, cmpL b a = - cmpL a b
 | [], [] => rfl
 | [], _ :: _ => rfl
 | _ :: _, [] => rfl
 | a :: as, b :: bs => by
  have ih := cmpL_neg as bs
  have h := cmpI_neg a b
  simp only [cmpW]
  by_cases hz : cmpI a b = 0
  · have hz2 : cmpI b a = 0 := by omega
    simp only [hz, hz2, ne_eq, not_true_eq_false, if_false]
    exact ih
  · have hz2 : cmpI b a ≠ 0 := by omega
    simp only [ne_eq, hz, hz2, not_false_eq_true, if_true]
    exact h
theorem cmpI_lt {a b : Int} : cmpI a b < 0 ↔ a < b := by
 unfold cmpI
 by_cases h : a < b
 · simp [h]
 · by_cases h2 : b < a
   · simp [h, h2]
   · simp [h, h2]
theorem q2b : ∀ a b c : List Int, cmpL a b < 0 → cmpL b c < 0 → cmpL a c < 0
 | [], [], _, h, _ => by simp [cmpW] at h
 | [], _ :: _, [], _, h => by simp [cmpW] at h
 | [], _ :: _, _ :: _, _, _ => by simp [cmpW]
 | _ :: _, [], _, h, _ => by simp [cmpW] at h
 | _ :: _, _ :: _, [], _, h => by simp [cmpW] at h
 | a :: as, b :: bs, c :: cs, h1, h2 => by
  have ih := q2b as bs cs
  simp only [cmpW] at h1 h2 ⊢
  have z1 := q1c a b
  have z2 := q1c b c
  have l1 := @cmpI_lt a b
  have l2 := @cmpI_lt b c
  have l3 := @cmpI_lt a c
  have z3 := q1c a c
  by_cases e1 : cmpI a b = 0
  · have := z1.1 e1
    subst this
    by_cases e2 : cmpI a c = 0
    · simp [e1, e2] at h1 h2 ⊢
      exact ih h1 h2
    · simp only [ne_eq, e2, not_false_eq_true, if_true] at h2 ⊢
      exact h2
  · by_cases e2 : cmpI b c = 0
    · have := z2.1 e2
      subst this
      simp only [ne_eq, e1, not_false_eq_true, if_true] at h1 ⊢
      exact h1
    · simp only [ne_eq, e1, e2, not_false_eq_true, if_true] at h1 h2
      have : cmpI a c < 0 := l3.2 (by have := l1.1 h1; have := l2.1 h2; omega)
      rw [if_pos (by omega)]
      exact this
def Srt (X : List (List Int)) : Prop := X.Pairwise fun a b => cmpL a b < 0
theorem Srt.lt {X : List (List Int)} (h : Srt X) {i j : Nat} (hj : j < X.length) (hij : i < j) : cmpL (X[i]'(by omega)) X[j] < 0 :=
 List.pairwise_iff_getElem.1 h i j (by omega) hj hij
end Go.Mch
namespace Go.Mch

def gt (X : List (List Int)) (k : Nat) : List Int := X.getD k []
theorem gt_at {X : List (List Int)} {k : Nat} (h : k < X.length) : X[k] = gt X k := by simp [gt, h]
def tau (i j k : Nat) : Nat := if k = j then i else if k = i then j else k
theorem tau_inj {i j k k' : Nat} (h : tau i j k = tau i j k') : k = k' := by
 unfold tau at h
 split at h <;> split at h <;> (try split at h) <;> (try split at h) <;> omega
theorem tau_tau (i j k : Nat) : tau i j (tau i j k) = k := by
 unfold tau
 split <;> (try split) <;> (try split) <;> (try split) <;> omega
theorem tau_in {i j k a b : Nat} (hi : a ≤ i ∧ i < b) (hj : a ≤ j ∧ j < b) (hk : a ≤ k ∧ k < b) : a ≤ tau i j k ∧ tau i j k < b := by
 unfold tau
 split <;> (try split) <;> omega
def swL (X : List (List Int)) (i j : Nat) : List (List Int) := (X.set i (gt X j)).set j (gt X i)
@[simp] theorem swL_length (X : List (List Int)) (i j : Nat) : (swL X i j).length = X.length := by simp [swL]
theorem q4t {X : List (List Int)} {i j : Nat} (hi : i < X.length) (hj : j < X.length) (k : Nat) : gt (swL X i j) k = gt X (tau i j k) := by
 unfold tau
 simp only [gt, swL, List.getD_eq_getElem?_getD, List.getElem?_set, List.length_set]
 by_cases h1 : j = k
 · subst h1; simp [hj]
 · have h1' : ¬ k = j := fun h => h1 h.symm
   by_cases h2 : i = k
   · subst h2; simp [h1, h1', hi]
   · have h2' : ¬ k = i := fun h => h2 h.symm
     simp [h1, h2, h1', h2']
def Dj (X : List (List Int)) : Prop := ∀ k k', k < X.length → k' < X.length → gt X k = gt X k' → k = k'
def bef (x y : List Int) : Prop := cmpL x y < 0
instance (x y : List Int) : Decidable (bef x y) := by unfold bef; infer_instance
theorem q45 {x y z : List Int} (h1 : bef x y) (h2 : bef y z) : bef x z := q2b _ _ _ h1 h2
theorem bef_irr (x : List Int) : ¬ bef x x := by
 have := (q43 x x).2 rfl
 unfold bef
 omega
theorem bef_not {x y : List Int} (h : bef x y) : ¬ bef y x := fun h2 => bef_irr x (q45 h h2)
theorem bef_or {x y : List Int} (hne : x ≠ y) (h : ¬ bef x y) : bef y x := by
 have h1 := cmpL_neg x y
 have h2 : cmpL x y ≠ 0 := fun hz => hne ((q43 x y).1 hz)
 unfold bef at h ⊢
 omega
theorem Dj.or {X : List (List Int)} (h : Dj X) {i j : Nat} (hi : i < X.length) (hj : j < X.length) (hij : i ≠ j) (hn : ¬ bef (gt X i) (gt X j)) : bef (gt X j) (gt X i) :=
 bef_or (fun he => hij (h i j hi hj he)) hn
theorem Dj.swap {X : List (List Int)} (h : Dj X) {i j : Nat} (hi : i < X.length) (hj : j < X.length) : Dj (swL X i j) := by
 intro k k' hk hk' he
 rw [swL_length] at hk hk'
 rw [q4t hi hj, q4t hi hj] at he
 have h1 := tau_in (i := i) (j := j) (a := 0) (b := X.length) (k := k) (by omega) (by omega) (by omega)
 have h2 := tau_in (i := i) (j := j) (a := 0) (b := X.length) (k := k') (by omega) (by omega) (by omega)
 exact tau_inj (h _ _ h1.2 h2.2 he)
structure PI (X Y : List (List Int)) (a b : Nat) : Prop where
 len : Y.length = X.length
 out : ∀ k, k < a ∨ b ≤ k → gt Y k = gt X k
 fwd : ∀ k, a ≤ k → k < b → ∃ k', a ≤ k' ∧ k' < b ∧ gt Y k = gt X k'
 bwd : ∀ k, a ≤ k → k < b → ∃ k', a ≤ k' ∧ k' < b ∧ gt X k = gt Y k'
 dj : Dj Y
theorem PI.refl {X : List (List Int)} (h : Dj X) (a b : Nat) : PI X X a b := ⟨rfl, fun _ _ => rfl, fun k h1 h2 => ⟨k, h1, h2, rfl⟩, fun k h1 h2 => ⟨k, h1, h2, rfl⟩, h⟩
theorem PI.trans {X Y Z : List (List Int)} {a b : Nat} (h : PI X Y a b) (g : PI Y Z a b) : PI X Z a b :=
 ⟨g.len.trans h.len, fun k hk => (g.out k hk).trans (h.out k hk), fun k h1 h2 => by
  obtain ⟨k', p1, p2, p3⟩ := g.fwd k h1 h2
  obtain ⟨k'', q1, q2, q3⟩ := h.fwd k' p1 p2
  exact ⟨k'', q1, q2, p3.trans q3⟩, fun k h1 h2 => by
  obtain ⟨k', p1, p2, p3⟩ := h.bwd k h1 h2
  obtain ⟨k'', q1, q2, q3⟩ := g.bwd k' p1 p2
  exact ⟨k'', q1, q2, p3.trans q3⟩, g.dj⟩
theorem PI.swap {X Y : List (List Int)} {a b i j : Nat} (h : PI X Y a b) (hb : b ≤ X.length) (hi : a ≤ i ∧ i < b) (hj : a ≤ j ∧ j < b) : PI X (swL Y i j) a b := by
 have hl := h.len
 have hg := q4t (X := Y) (i := i) (j := j) (by omega) (by omega)
 refine ⟨by simp [hl], fun k hk => ?_, fun k h1 h2 => ?_, fun k h1 h2 => ?_, h.dj.swap (by omega) (by omega)⟩
 · rw [hg]
   have : tau i j k = k := by unfold tau; split <;> (try split) <;> omega
   rw [this]
   exact h.out k hk
 · rw [hg]
   have := tau_in hi hj ⟨h1, h2⟩
   exact h.fwd _ this.1 this.2
 · obtain ⟨k', p1, p2, p3⟩ := h.bwd k h1 h2
   have := tau_in hi hj ⟨p1, p2⟩
   exact ⟨tau i j k', this.1, this.2, by rw [hg, tau_tau]; exact p3⟩
def SI (X : List (List Int)) (a b : Nat) : Prop := ∀ p q, a ≤ p → p < q → q < b → bef (gt X p) (gt X q)
theorem SI.one (X : List (List Int)) {a b : Nat} (h : b ≤ a + 1) : SI X a b := fun p q h1 h2 h3 => by omega
def SJ (X : List (List Int)) (a j i : Nat) : Prop := ∀ p q, a ≤ p → p < q → q < i → q ≠ j → bef (gt X p) (gt X q)
theorem SJ.done {X : List (List Int)} {a j i : Nat} (h : SJ X a j i) (hj : j = a ∨ bef (gt X (j - 1)) (gt X j)) : SI X a i := fun p q h1 h2 h3 => by
 by_cases hq : q = j
 · subst hq
   rcases hj with hj | hj
   · omega
   · by_cases hp : p = q - 1
     · subst hp; exact hj
     · exact q45 (h p (q - 1) h1 (by omega) (by omega) (by omega)) hj
 · exact h p q h1 h2 h3 hq
theorem SJ.step {X : List (List Int)} {a j i : Nat} (h : SJ X a (j + 1) i) (haj : a ≤ j) (hji : j + 1 < i) (hi : i ≤ X.length) (hb : bef (gt X (j + 1)) (gt X j)) : SJ (swL X (j + 1) j) a j i := by
 have hg := q4t (X := X) (i := j + 1) (j := j) (by omega) (by omega)
 intro p q h1 h2 h3 h4
 rw [hg, hg]
 unfold tau
 by_cases hq : q = j + 1
 · subst hq
   rw [if_neg h4, if_pos rfl]
   by_cases hp : p = j
   · rw [if_pos hp]; exact hb
   · rw [if_neg hp, if_neg (by omega)]
     exact h p j h1 (by omega) (by omega) (by omega)
 · rw [if_neg h4, if_neg hq]
   by_cases hp : p = j
   · rw [if_pos hp]; exact h (j + 1) q (by omega) (by omega) h3 hq
   · rw [if_neg hp]
     by_cases hp2 : p = j + 1
     · rw [if_pos hp2]; exact h j q (by omega) (by omega) h3 hq
     · rw [if_neg hp2]; exact h p q h1 h2 h3 hq
theorem SI.srt {X : List (List Int)} (h : SI X 0 X.length) : Srt X := by
 refine List.pairwise_iff_getElem.2 fun i j hi hj hij => ?_
 have := h i j (by omega) hij hj
 rw [← gt_at hi, ← gt_at hj] at this
 exact this
theorem PI.mem {X Y : List (List Int)} (h : PI X Y 0 X.length) (x : List Int) : x ∈ Y ↔ x ∈ X := by
 have hl := h.len
 constructor
 · intro hm
   obtain ⟨k, hk, rfl⟩ := List.getElem_of_mem hm
   obtain ⟨k', _, p2, p3⟩ := h.fwd k (by omega) (by omega)
   rw [gt_at hk, p3, ← gt_at p2]
   exact List.getElem_mem p2
 · intro hm
   obtain ⟨k, hk, rfl⟩ := List.getElem_of_mem hm
   obtain ⟨k', _, p2, p3⟩ := h.bwd k (by omega) hk
   have hk' : k' < Y.length := by omega
   rw [gt_at hk, p3, ← gt_at hk']
   exact List.getElem_mem hk'
end Go.Mch
namespace Go.Mch

def Sm (X : List (List Int)) : Prop := X.length ≤ 1000000 ∧ ∀ k, (gt X k).length ≤ 1048576
theorem Sm.pi {X Y : List (List Int)} {a b : Nat} (h : Sm X) (p : PI X Y a b) : Sm Y := ⟨by rw [p.len]; exact h.1, fun k => by
 by_cases hk : a ≤ k ∧ k < b
 · obtain ⟨k', _, _, q⟩ := p.fwd k hk.1 hk.2
   rw [q]; exact h.2 k'
 · rw [p.out k (by omega)]; exact h.2 k⟩
def j5n {α : Type} (Q : α → Prop) (rs : List RV) (args : List T) (args' : α → List T) (r : α → T) : X → Env → Prop := fun x e => ∃ l, Q l ∧ post rs args (args' l) (r l) x e
theorem Call.q18 {α : Type} {pg : Pg} {f : Nat} {args : List T} {fn : F} {args' : α → List T} {r : α → T} {Q : α → Prop} (hf : pg.fn f = some fn) (hn : fn.np = args.length) (hl : fn.lets args = true) (hk : kindOf args = .old)
 (h : wp (Call pg) .old fn.body (j5n Q fn.rs args args' r) (init args)) : ∃ l, Q l ∧ Call pg f args (args' l) (r l) := by
 obtain ⟨⟨l, hq⟩, hl2⟩ := wp_ex (β := { l // Q l }) (R := fun l x e => post fn.rs args (args' l.1) (r l.1) x e) fn.body (wp_mono (fun _ _ _ _ h => h) _ (fun _ _ ⟨l, hq, hp⟩ => ⟨⟨l, hq⟩, hp⟩) h)
 exact ⟨l, hq, Call.q4p hf hn hl (by rw [hk]; exact hl2)⟩
def ExY (P : List (List Int) → Prop) : Prop := ∃ Q, P Q
theorem ExY.mk {P : List (List Int) → Prop} (Q : List (List Int)) (h : P Q) : ExY P := ⟨Q, h⟩
theorem SI.less {X : List (List Int)} {a i b : Nat} (h : SI X a i) (hb : b ≤ i) : SI X a b := fun p q h1 h2 h3 => h p q h1 h2 (by omega)

end Go.Mch
namespace Go.Mch

def chd (c p : Nat) : Prop := c = 2 * p + 1 ∨ c = 2 * p + 2
def Hp (X : List (List Int)) (f lo hi : Nat) : Prop := ∀ p c, lo ≤ p → chd c p → c < hi → ¬ bef (gt X (f + p)) (gt X (f + c))
def HpR (X : List (List Int)) (f lo hi r : Nat) : Prop := (∀ p c, lo ≤ p → p ≠ r → chd c p → c < hi → ¬ bef (gt X (f + p)) (gt X (f + c))) ∧ ∀ q c, lo ≤ q → chd r q → chd c r → c < hi → ¬ bef (gt X (f + q)) (gt X (f + c))
theorem Hp.start {X : List (List Int)} {f lo hi : Nat} (h : Hp X f (lo + 1) hi) : HpR X f lo hi lo :=
 ⟨fun p c h1 h2 h3 h4 => h p c (by omega) h3 h4, fun q c h1 h2 h3 h4 => by unfold chd at h2; omega⟩
theorem HpR.out {X : List (List Int)} {f lo hi r : Nat} (h : HpR X f lo hi r) (hr : hi ≤ 2 * r + 1) : Hp X f lo hi := fun p c h1 h2 h3 => by
 by_cases hp : p = r
 · subst hp; unfold chd at h2; omega
 · exact h.1 p c h1 hp h2 h3
def Big (X : List (List Int)) (f hi r d : Nat) : Prop := chd d r ∧ d < hi ∧ ∀ c, chd c r → c < hi → ¬ bef (gt X (f + d)) (gt X (f + c))
theorem HpR.step {X : List (List Int)} {f lo hi r d : Nat} (h : HpR X f lo hi r) (hr : lo ≤ r) (hl : f + hi ≤ X.length) (hb : Big X f hi r d) (hn : bef (gt X (f + r)) (gt X (f + d))) : HpR (swL X (f + r) (f + d)) f lo hi d := by
 obtain ⟨b1, b2, b3⟩ := hb
 have hrd : r < d := by unfold chd at b1; omega
 have hg := q4t (X := X) (i := f + r) (j := f + d) (by omega) (by omega)
 have hgr : gt (swL X (f + r) (f + d)) (f + r) = gt X (f + d) := by rw [hg]; unfold tau; rw [if_neg (by omega), if_pos rfl]
 have hgd : gt (swL X (f + r) (f + d)) (f + d) = gt X (f + r) := by rw [hg]; unfold tau; rw [if_pos rfl]
 have hgo : ∀ k, k ≠ r → k ≠ d → gt (swL X (f + r) (f + d)) (f + k) = gt X (f + k) := fun k h1 h2 => by rw [hg]; unfold tau; rw [if_neg (by omega), if_neg (by omega)]
 refine ⟨fun p c h1 h2 h3 h4 => ?_, fun q c h1 h2 h3 h4 => ?_⟩
 · by_cases hp : p = r
   · subst hp
     rw [hgr]
     by_cases hc : c = d
     · subst hc; rw [hgd]; exact bef_not hn
     · have hcr : c ≠ p := by unfold chd at h3; omega
       rw [hgo c hcr hc]
       exact b3 c h3 h4
   · rw [hgo p hp h2]
     by_cases hc : c = r
     · subst hc
       rw [hgr]
       exact h.2 p d h1 h3 b1 b2
     · have hcd : c ≠ d := fun he => by subst he; unfold chd at h3 b1; omega
       rw [hgo c hc hcd]
       exact h.1 p c h1 hp h3 h4
 · have hq : q = r := by unfold chd at h2 b1; omega
   subst hq
   have hcq : c ≠ q := by unfold chd at h3; omega
   have hcd : c ≠ d := by unfold chd at h3; omega
   rw [hgr, hgo c hcq hcd]
   exact h.1 d c (by omega) (by omega) h3 h4

end Go.Mch
namespace Go.Mch

theorem wr64 {n : Nat} (h : n ≤ 100000000) : IntKind.i64.wrap (n : Int) = n := by
 have h1 : (n : Int) % 18446744073709551616 = n := by omega
 show (if (true && decide ((n : Int) % 18446744073709551616 ≥ 9223372036854775808)) = true then _ else (n : Int) % 18446744073709551616) = _
 rw [h1, if_neg (by simp; omega)]
theorem wru {a : Int} (h0 : 0 ≤ a) (h : a < 18446744073709551616) : IntKind.u64.wrap a = a := by
 show a % 18446744073709551616 = a
 omega

end Go.Mch
namespace Go.Mch

abbrev Y8 (x : Int) : T := .sc (.int .u8 x)
abbrev H64 (x : Int) : T := .sc (.int .u64 x)
def rawB : Rw Int → T
 | .no => nil
 | .odd a => .sc (.slice (some a) 0 0)
 | .of xs => .mem .old (some 1) (xs.map Y8)
@[simp] theorem noOwnL_mapU (xs : List Int) : T.j0m (xs.map Y8) = true := by
 induction xs with
 | nil => rfl
 | cons x xs ih => simp [ih]
@[simp] theorem eryL_mapU (k : K) (xs : List Int) : T.eryL k (xs.map Y8) = xs.map Y8 := by
 induction xs with
 | nil => rfl
 | cons x xs ih => simp [ih]
@[simp] theorem lendL_mapU (xs : List Int) : T.j1y (xs.map Y8) = xs.map Y8 := by
 induction xs with
 | nil => rfl
 | cons x xs ih => simp [ih]
@[simp] theorem rawB_noOwn (a : Rw Int) : (rawB a).j0q = true := by cases a <;> simp [rawB]
@[simp] theorem rawB_peek (a : Rw Int) (n : Nat) (p : List Nat) : (rawB a).peek n p = .val (rawB a) := by cases a <;> rfl
@[simp] theorem rawB_ery (a : Rw Int) : (rawB a).ery .old = rawB a := by cases a <;> simp [rawB]
@[simp] theorem rawB_lend (a : Rw Int) : (rawB a).lend = rawB a := by cases a <;> simp [rawB]
@[simp] theorem rawB_len (a : Rw Int) : lenV (.val (rawB a)) = some (lst a).length := by cases a <;> simp [rawB]
@[simp] theorem rawB_isCell (a : Rw Int) : (rawB a).j01 = true := by cases a <;> rfl
@[simp] theorem rawB_cells (a : Rw Int) : (rawB a).cells = [rawB a] := by cases a <;> rfl
@[simp] theorem fillV_rawB (vs : List V) (i n : Nat) (c : Rw Int) (r : List (Nat × Nat × V)) : j2l vs ((i, n, .val (rawB c)) :: r) = if n = 1 ∧ i + n ≤ vs.length then j2l (vs.take i ++ [.val (rawB c)] ++ vs.drop (i + n)) r else none := by cases c <;> rfl
@[simp] theorem rawB_idx (a : Rw Int) (i : Int) : idxV 1 (.val (rawB a)) i = if 0 ≤ i ∧ i < ((lst a).length : Int) then some (.val (.mem .old none (win ((lst a).map Y8) (i.toNat * 1) 1))) else none := by
 cases a with
 | no =>
  simp only [rawB, idxV, lst_no, List.length_nil, List.map_nil]
  rw [if_neg]
  omega
 | odd ad =>
  simp only [rawB, idxV, lst_odd, List.length_nil, List.map_nil]
  rw [if_neg]
  omega
 | of xs => simp [rawB]

@[simp] theorem arith_u64 (n : Int) : arith .u64 n = some (.int .u64 (IntKind.u64.wrap n)) := by rw [arith, if_neg (by decide)]

abbrev src (c : Rw Int) (s : Int × Int) : T := .mem .own none [rawB c, I s.1, H64 s.2]
def okB (c : Rw Int) : Prop := (lst c).length ≤ 1048576 ∧ ∀ x ∈ lst c, 0 ≤ x ∧ x < 256
def Sr (c : Rw Int) (s : Int × Int) : Prop := okB c ∧ 0 ≤ s.1 ∧ s.1 ≤ (lst c).length

theorem and24 (a : Nat) : ∃ y : Nat, y ≤ 16777215 ∧ IntKind.i64.wrap (IntKind.u64.wrap ((a &&& 16777215 % 2 ^ IntKind.u64.bits : Nat) : Int)) = (y : Int) := by
 have h : a &&& 16777215 % 2 ^ IntKind.u64.bits ≤ 16777215 := by
  show a &&& 16777215 % 2 ^ 64 ≤ 16777215
  exact Nat.le_trans Nat.and_le_right (by decide)
 refine ⟨_, h, ?_⟩
 rw [wru (by omega) (by omega), wr64 (by omega)]
def j9c (pg : Pg) : Prop := ∀ (c : Rw Int) (s : Int × Int) (n : Int), Sr c s → ∃ (s' : Int × Int) (r : Int), (Sr c s' ∧ 0 ≤ r ∧ (1 ≤ n → r < n) ∧ (n < 1 → r = 0)) ∧ Call pg 336 [src c s, I n] [src c s', I n] (I r)
set_option maxRecDepth 10000 in
theorem t_nxt {pg : Pg} (hp : pg.fn 336 = some j3o) : j9c pg := by
 intro c s n hs
 have hfind := Call.q18 (α := (Int × Int) × Int) (Q := fun Y => Sr c Y.1 ∧ 0 ≤ Y.2 ∧ (1 ≤ n → Y.2 < n) ∧ (n < 1 → Y.2 = 0)) (args := [src c s, I n]) (args' := fun Y => [src c Y.1, I n]) (r := fun Y => I Y.2) hp rfl (by simp [F.lets, j3o, List.range, List.range.loop]) (by simp [kindOf]) ?_
 · obtain ⟨Y, h1, h2⟩ := hfind
   exact ⟨_, _, h1, h2⟩
 show wp _ _ j3o.body (j5n _ [.t 4] _ _ _) _
 generalize hR : j5n (fun Y : (Int × Int) × Int => Sr c Y.1 ∧ 0 ≤ Y.2 ∧ (1 ≤ n → Y.2 < n) ∧ (n < 1 → Y.2 = 0)) [.t 4] [src c s, I n] (fun Y => [src c Y.1, I n]) (fun Y => I Y.2) = R
 obtain ⟨a, h⟩ := s
 obtain ⟨hc, ha, hl⟩ := hs
 have hb := hc.1
 simp only at ha hl
 by_cases hn : n < 1
 · simp [j3o, hn]
   subst hR
   exact ⟨((a, h), 0), ⟨⟨hc, ha, hl⟩, by simp; omega⟩, by simp [post]⟩
 · simp [j3o, hn]
   generalize IntKind.u64.wrap (IntKind.u64.wrap (h * 6364136223846793005) + 1442695040888963407) = h'
   generalize (h'.fdiv (2 ^ min 33 IntKind.u64.bits) % 2 ^ IntKind.u64.bits).toNat = z
   obtain ⟨y, hy, e⟩ := and24 z
   have hn0 : ¬ n = 0 := by omega
   have hmod : ∀ x : Int, 0 ≤ x → 0 ≤ x.tmod n ∧ x.tmod n < n := fun x hx => by
    rw [Int.tmod_eq_emod_of_nonneg hx]
    exact ⟨Int.emod_nonneg _ hn0, Int.emod_lt_of_pos _ (by omega)⟩
   rw [e]
   by_cases hlt : a < (lst c).length
   · obtain ⟨i, rfl⟩ : ∃ i : Nat, a = i := ⟨a.toNat, by omega⟩
     have hi : i < (lst c).length := by omega
     have hx := hc.2 _ (List.getElem_mem hi)
     have hw : IntKind.i64.wrap ((lst c)[i]) = (lst c)[i] := by
      obtain ⟨x, hx'⟩ : ∃ x : Nat, (lst c)[i] = x := ⟨((lst c)[i]).toNat, by omega⟩
      rw [hx', wr64 (by omega)]
     simp [hlt, hi, hn0, hw]
     subst hR
     have := hmod (y + (lst c)[i]) (by omega)
     refine ⟨by omega, by omega, ((i + 1, h'), ((y : Int) + (lst c)[i]).tmod n), ⟨⟨hc, by simp only; omega, by simp only; omega⟩, by simp only; omega⟩, by simp [post]⟩
   · simp [hlt, hn0]
     subst hR
     have := hmod y (by omega)
     exact ⟨((a, h'), (y : Int).tmod n), ⟨⟨hc, ha, hl⟩, by simp only; omega⟩, by simp [post]⟩
theorem j1b {G : Rl} {d : Option Nat} {k : Env → Prop} {e : Env} {n id : Nat} {ts us ts' : List T} {r : T} (hc : G id (.mem .own none (T.j1y ts) :: T.j1y us) (.mem .own none ts' :: us) r) (hk : k ((e.over n (.mem .own none ts')).setD d (.val r))) : callsP G d k e n id ts us := ⟨ts', r, hc, hk⟩
def S_pick (pg : Pg) : Prop := ∀ (c : Rw Int) (s : Int × Int) (l : List Int), Sr c s → 0 < l.length → l.length ≤ 1048576 → ∃ (s' : Int × Int) (r : Int), (Sr c s' ∧ r ∈ l) ∧ Call pg 292 [src c s, ix l] [src c s', ix l] (I r)
set_option maxRecDepth 10000 in
theorem t_pick {pg : Pg} (hp : pg.fn 292 = some j4d) (h336 : j9c pg) : S_pick pg := by
 intro c s l hs h0 hl
 obtain ⟨s', r, ⟨g1, g2, g3, _⟩, hc⟩ := h336 c s l.length hs
 have g3 := g3 (by omega)
 obtain ⟨i, rfl⟩ : ∃ i : Nat, r = i := ⟨r.toNat, by omega⟩
 have hi : i < l.length := by omega
 refine ⟨s', l[i], ⟨g1, List.getElem_mem hi⟩, Call.q4p hp rfl (by simp [F.lets, j4d, List.range, List.range.loop]) ?_⟩
 show wp _ _ j4d.body (post [.t 4] _ _ _) _
 simp [j4d]
 refine j1b (ts' := [rawB c, I s'.1, H64 s'.2]) (r := I i) (by simpa using hc) ?_
 simp [hi]
def S_from (pg : Pg) : Prop := ∀ c : Rw Int, okB c → ∃ s : Int × Int, Sr c s ∧ Call pg 269 [rawB c] [rawB c] (src c s)
set_option maxRecDepth 10000 in
theorem t_from {pg : Pg} (hp : pg.fn 269 = some j5b) : S_from pg := by
 intro c hc
 have hb := hc.1
 have hfind := Call.find (α := Int × Int) (Q := fun s => Sr c s) (args := [rawB c]) (r := fun s => src c s) hp rfl (by simp) ?_
 · exact hfind
 show wp _ _ j5b.body (j5n _ [.t 2] _ _ _) _
 generalize hR : j5n (fun s : Int × Int => Sr c s) [.t 2] [rawB c] (fun _ => [rawB c]) (fun s => src c s) = R
 simp [j5b]
 obtain ⟨m, m1, m2, m3⟩ : ∃ m : Nat, m ≤ (lst c).length ∧ m ≤ 4096 ∧ (m = (lst c).length ∨ m = 4096) := by
  by_cases h1 : (lst c).length ≤ 4096
  · exact ⟨_, Nat.le_refl _, h1, .inl rfl⟩
  · exact ⟨4096, by omega, Nat.le_refl _, .inr rfl⟩
 refine j0a (fun k e => ∃ h : Int, e = fr [(0, some (.val (rawB c))), (3, some (.val (src c (0, h)))), (4, some (.val (I k)))]) m ?_ ?_ 0 _ (by omega) ⟨_, rfl⟩
 · rintro k e hk ⟨h, rfl⟩
   have k1 : k < (lst c).length := by omega
   have k2 : (k : Int) < 4096 := by omega
   simp [k1, k2]
   exact ⟨by omega, _, rfl⟩
 · rintro e ⟨h, rfl⟩
   have hok : Sr c (0, h) := ⟨hc, by simp, by simp⟩
   by_cases h1 : m = (lst c).length
   · subst h1
     simp [j00]
     subst hR
     exact ⟨(0, h), hok, by simp [post]⟩
   · have h2 : m = 4096 := by omega
     subst h2
     have h3 : (4096 : Int) < (lst c).length := by omega
     simp [h3]
     subst hR
     exact ⟨(0, h), hok, by simp [post]⟩
end Go.Mch
namespace Go.Mch
section
variable {H : Type} {enc : TypeId × Value → H} {P : Program} {w : World} {base : Nat} {held : Bool} {fm : Nat → Nat}
theorem u8_wf {n : Int} (h : (Lit.int .u8 n).wf = true) : 0 ≤ n ∧ n < 256 := by
 simp only [Lit.wf, Bool.and_eq_true, decide_eq_true_eq] at h
 have h1 : IntKind.u8.min = 0 := by decide
 have h2 : IntKind.u8.max = 255 := by decide
 omega
theorem open_rawB {m : DataW H → Nat} (hm : Bulk m) {t e : TypeId} {fuel : Nat} {cs : List Value} {x : DataW H × List MemPlace} (ht : P.underlying t = some (.slice e)) (he : P.underlying e = some (.int .u8)) (hc : P.cellsOf e = 1)
 (h : DataW.trod enc P w base (fun _ => true) held fuel t cs = some x) : ∃ v o, cs = [v] ∧ rep fm okCl w v (rawB o) ∧ (lst o).length ≤ m x.1 ∧ ∀ n ∈ lst o, 0 ≤ n ∧ n < 256 := by
 rcases open_raw ht hc h with ⟨rfl, hx⟩ | ⟨a, rfl, hx⟩ | ⟨b, off, len, cap, ds, rest, n, rfl, hl, hx, hlen, hel⟩
 · exact ⟨_, .no, rfl, ⟨rfl, rfl⟩, by simp, by simp⟩
 · exact ⟨_, .odd a, rfl, ⟨rfl, rfl⟩, by simp, by simp⟩
 · obtain ⟨zs, h1, h2⟩ := each (Q := fun i (z : Int) => w.cell? ⟨b, off + i, none⟩ = some (.int .u8 z) ∧ (Lit.int .u8 z).wf = true) len (fun i hi => by
    obtain ⟨c, y, h3, h4, _⟩ := hel i hi
    obtain ⟨z, h5, _, h6⟩ := DataW.trod_int he h4
    simp only [List.cons.injEq, and_true] at h5
    exact ⟨z, by rw [h3, h5], h6⟩)
   refine ⟨_, .of zs, rfl, rep_slice (by simp [h1]) hl (by simp) (fun i hi => ?_), ?_, fun n hn => ?_⟩
   · have hi' : i < zs.length := by simpa using hi
     exact ⟨_, (h2 i hi').1, by simp [rep, scal]⟩
   · rw [hx]
     exact Nat.le_trans (by simp [h1, hlen]) (hm.slice ds rest)
   · obtain ⟨i, hi, rfl⟩ := List.getElem_of_mem hn
     exact u8_wf (h2 i hi).2
theorem open_argB {m : DataW H → Nat} (hm : Bulk m) {rc : Reach} {b0 : Nat} {t e : TypeId} {v : Value} {d : DataW H} {ps : List MemPlace} (ht : P.underlying t = some (.slice e)) (he : P.underlying e = some (.int .u8)) (hc : P.cellsOf e = 1)
 (hval : Value.okWide P w rc b0 t v) (h : DataW.Trod enc P w base (fun _ => true) held t v d ps) : ∃ a, rep fm okCl w v (rawB a) ∧ (lst a).length ≤ m d ∧ ∀ n ∈ lst a, 0 ≤ n ∧ n < 256 := by
 obtain ⟨ad, len, cap, rfl⟩ := Go.WideShapes.okWide_slice ht hval
 obtain ⟨fuel, h⟩ := h
 obtain ⟨v0, a, e1, e2, e3, e4⟩ := open_rawB (fm := fm) hm ht he hc h
 simp only [Value.cells, List.cons.injEq, and_true] at e1
 subst e1
 exact ⟨a, e2, e3, e4⟩
end
end Go.Mch
namespace Go.Mch

theorem orbS_next (ms : List (List Int)) (n k : Nat) : orbS ms n (k + 1) = if 0 ≤ (orbS ms n k).1.getD k 0 then orbS ms n k else (markO ms k (orbS ms n k).1 (orbS ms n k).2, (orbS ms n k).2 + 1) := rfl
theorem j78 : ∀ (xs : List Int) {x : Int}, x ∈ xs → x + 1 ≤ greatest xs := by
 intro xs x hx
 have key : ∀ (l : List Int) (a : Int), a ≤ l.foldl (fun a x => if a ≤ x then x + 1 else a) a ∧ ∀ y ∈ l, y + 1 ≤ l.foldl (fun a x => if a ≤ x then x + 1 else a) a := by
  intro l
  induction l with
  | nil => intro a; simp
  | cons z l ih =>
   intro a
   simp only [List.foldl_cons]
   obtain ⟨i1, i2⟩ := ih (if a ≤ z then z + 1 else a)
   refine ⟨?_, ?_⟩
   · split at i1 <;> rename_i hh
     · rw [if_pos hh]; omega
     · rw [if_neg hh]; omega
   · intro y hy
     rcases List.mem_cons.1 hy with rfl | hy
     · split at i1 <;> rename_i hh
       · rw [if_pos hh]; omega
       · rw [if_neg hh]; omega
     · exact i2 y hy
 exact (key xs 0).2 x hx
theorem greatest_nn (xs : List Int) (_ : ∀ x ∈ xs, 0 ≤ x) : 0 ≤ greatest xs := by
 have key : ∀ (l : List Int) (a : Int), a ≤ l.foldl (fun a x => if a ≤ x then x + 1 else a) a := by
  intro l
  induction l with
  | nil => intro a; simp
  | cons z l ih =>
   intro a
   simp only [List.foldl_cons]
   refine Int.le_trans ?_ (ih _)
   split <;> omega
 exact key xs 0
end Go.Mch
namespace Go.Mch

def j8h (m k : Nat) : List (List Int) := List.replicate k (List.replicate m 0)
def zT (m k : Nat) : T := if k = 0 then nil else .mem .own (some 1) (rows (j8h m k))
theorem zT_succ (m k : Nat) : zT m (k + 1) = .mem .own (some 1) (rows (j8h m k) ++ [.mem .own (some 1) (List.replicate m (I 0))]) := by
 simp [zT, j8h, List.replicate_succ', j6t]
 simp [rows]
def q7v (pg : Pg) : Prop := ∀ m : Nat, 0 < m → m ≤ 1000 → Call pg 398 [I m] [I m] (.agg [.mem .own (some 1) (rows (j8h m m)), .mem .own (some 1) (rows (j8h m m))])
theorem t_l02Empty {pg : Pg} (hp : pg.fn 398 = some j4n) : q7v pg := by
 intro m h0 hm
 refine Call.intro hp rfl (by simp) ?_
 show wp _ _ j4n.body (post [.cell 2 (some 2)] _ _ _) _
 simp [j4n]
 refine j0a (fun k e => e = fr [(0, some (.val (I m))), (2, some (.val (.mem .own none [nil, nil]))), (3, some (.val (.mem .own none [zT m k, zT m k]))), (4, some (.val (I k)))]) m ?_ ?_ 0 _ (by omega) ?_
 · rintro k e hk rfl
   have hr : m ≤ roomy := by unfold roomy; omega
   by_cases hk0 : k = 0
   · subst hk0
     have h1 : 1 ≤ roomy := by unfold roomy; omega
     rw [zT_succ]
     simp [hk, zT, j8h, rows, hr, h1]
   · have hlen : (j8h m k).length = k := by simp [j8h]
     have h1 : k + 1 ≤ roomy := by unfold roomy; omega
     rw [zT_succ]
     have hz : zT m k = .mem .own (some 1) (rows (j8h m k)) := by simp [zT, hk0]
     rw [hz]
     generalize j8h m k = Z at *
     simp [hk, hr, hlen, h1]
     omega
 · rintro e rfl
   have hz : zT m m = .mem .own (some 1) (rows (j8h m m)) := by simp [zT]; omega
   rw [hz]
   simp
 · simp [zT]

end Go.Mch
namespace Go.Mch

theorem j8t {X : List (List Int)} {i j : Nat} {v : Int} (h : i < X.length) : (rows X).set i (.mem .own (some 1) ((X[i].map I).set j (I v))) = rows (X.set i (X[i].set j v)) := by
 simp [rows, List.map_set]
end Go.Mch
namespace Go.Mch


def ascAt (xs : List Int) (k : Nat) : Prop := xs.getD k 0 < xs.getD (k + 1) 0
def asc (xs : List Int) : Prop := ∀ k : Nat, k + 1 < xs.length → ascAt xs k
def isSetL (n : Int) (xs : List Int) : Prop := 0 < xs.length ∧ inR 0 (n - 1) xs ∧ asc xs
end Go.Mch
namespace Go.Mch

def invQ (p : List Int) (x : Nat) : Nat := (ixOf p x).toNat
structure Pm (p : List Int) : Prop where
 pm : j1z p
 pos : 0 < p.length
 sm : p.length ≤ 12
theorem Pm.mem {p : List Int} (h : Pm p) {x : Nat} (hx : x < p.length) : (x : Int) ∈ p :=
 ((j74 (by have := h.pos; omega) h.sm h.pm.1).2 h.pm).2.2 x hx
theorem Pm.lt {p : List Int} (h : Pm p) {x : Nat} (hx : x < p.length) : invQ p x < p.length := by
 have h1 := j79 p x
 have h2 := (j5p p x).2 (h.mem hx)
 unfold invQ
 omega
theorem ixOf_getD : ∀ (xs : List Int) (v : Int), 0 ≤ ixOf xs v → xs.getD (ixOf xs v).toNat 0 = v := by
 intro xs v
 induction xs with
 | nil => intro h; simp [ixOf] at h
 | cons z xs ih =>
  intro h
  unfold ixOf at h ⊢
  by_cases hz : z = v
  · simp [hz]
  · rw [if_neg hz] at h ⊢
    by_cases hn : ixOf xs v < 0
    · rw [if_pos hn] at h; omega
    · rw [if_neg hn]
      have := ih (by omega)
      rw [show (ixOf xs v + 1).toNat = (ixOf xs v).toNat + 1 by omega]
      simpa using this
theorem Pm.at {p : List Int} (h : Pm p) {x : Nat} (hx : x < p.length) : p.getD (invQ p x) 0 = x :=
 ixOf_getD p x ((j5p p x).2 (h.mem hx))
theorem Pm.back {p : List Int} (h : Pm p) {i : Nat} (hi : i < p.length) : invQ p (p[i]).toNat = i := by
 have hr := h.pm.1 _ (List.getElem_mem hi)
 have e : (((p[i]).toNat : Nat) : Int) = p[i] := by omega
 unfold invQ
 rw [e, q4o hi (fun j hj he => ?_) rfl]
 · simp
 · have := (List.getElem_inj h.pm.2).1 he
   omega
def invL (p : List Int) : List Int := (List.range p.length).map fun x => (invQ p x : Int)
@[simp] theorem invL_length (p : List Int) : (invL p).length = p.length := by simp [invL]
def invK (p : List Int) (k : Nat) : List Int := (List.range p.length).map fun x => if invQ p x < k then (invQ p x : Int) else 0
@[simp] theorem invK_length (p : List Int) (k : Nat) : (invK p k).length = p.length := by simp [invK]
theorem invK_zero (p : List Int) : invK p 0 = List.replicate p.length 0 := by
 apply List.ext_getElem
 · simp
 · intro i h1 h2; simp [invK]
theorem invK_last {p : List Int} (h : Pm p) : invK p p.length = invL p := by
 refine List.map_congr_left fun x hx => ?_
 rw [if_pos (h.lt (List.mem_range.1 hx))]
theorem invK_set {p : List Int} (h : Pm p) {k : Nat} (hk : k < p.length) : (invK p k).set (p[k]).toNat k = invK p (k + 1) := by
 have hr := h.pm.1 _ (List.getElem_mem hk)
 apply List.ext_getElem
 · simp
 · intro x h1 h2
   have hx : x < p.length := by simpa using h2
   simp only [List.getElem_set, invK, List.getElem_map, List.getElem_range]
   by_cases hxk : (p[k]).toNat = x
   · subst hxk
     rw [if_pos rfl, h.back hk, if_pos (by omega)]
   · rw [if_neg hxk]
     have hne : invQ p x ≠ k := fun he => by
      have := h.at hx
      rw [he] at this
      simp [hk] at this
      omega
     by_cases hlt : invQ p x < k
     · rw [if_pos hlt, if_pos (by omega)]
     · rw [if_neg hlt, if_neg (by omega)]
def S_inv (pg : Pg) (n : Nat) : Prop := ∀ p : List Int, Pm p → Call pg n [ix p] [ix p] (.mem .own (some 1) ((invL p).map I))
theorem t_l01Back {pg : Pg} (hp : pg.fn 304 = some j5c) : S_inv pg 304 := by
 intro p h
 have h12 := h.sm
 refine Call.intro hp rfl (by simp) ?_
 show wp _ _ j5c.body (post [.t 2] _ _ _) _
 simp [j5c]
 refine ⟨by unfold roomy; omega, ?_⟩
 refine j0a (fun k e => e = fr [(0, some (.val (ix p))), (3, some (.val (.mem .own (some 1) ((invK p k).map I)))), (4, some (.val (I k)))]) p.length ?_ ?_ 0 _ (by omega) ?_
 · rintro k e hk rfl
   have hr := h.pm.1 _ (List.getElem_mem hk)
   have hl := invK_length p k
   have hs := invK_set h hk
   have ht : (p[k]).toNat < p.length := by omega
   rw [← hs]
   generalize invK p k = K at *
   simp [hk, hr, ht, hl]
   omega
 · rintro e rfl
   simp [invK_last h]
 · simp [invK_zero]

def imG (t : List (List Int)) (p : List Int) (x y : Nat) : Int := p.getD (v2 t (invQ p x) (invQ p y)).toNat 0
def imT (t : List (List Int)) (p : List Int) : List (List Int) := tabL t.length (imG t p)
def q7u (pg : Pg) (n : Nat) : Prop := ∀ (t : List (List Int)) (p : List Int), Tab t → Pm p → p.length = t.length → Call pg n [tb t, ix p] [tb t, ix p] (.mem .own (some 1) (rows (imT t p)))
end Go.Mch
namespace Go.Mch

def q5a (pg : Pg) : Prop := ∀ n : Nat, n ≤ 1048576 → Call pg 334 [I n] [I n] (.mem .own (some 1) ((idL n).map I))
theorem t_unit {pg : Pg} (hp : pg.fn 334 = some j45) : q5a pg := by
 intro n hn
 refine Call.intro hp rfl (by simp) ?_
 show wp _ _ j45.body (post [.t 2] _ _ _) _
 simp [j45]
 refine j0a (fun k e => e = fr [(0, some (.val (I n))), (3, some (.val (.mem .own (some 1) ((idL k).map I)))), (4, some (.val (I k)))]) n ?_ ?_ 0 _ (by omega) ?_
 · rintro k e hk rfl
   simp [hk, roomy, idL_succ]
   omega
 · rintro e rfl
   simp
 · simp [idL]

def mixL (a b : List Int) (k : Nat) : List Int := a.take k ++ b.drop k
theorem q4g (a b : List Int) (k : Nat) (h : a.length = b.length) : (mixL a b k).length = b.length := by simp [mixL]; omega
theorem mixL_get (a b : List Int) {k : Nat} (hk : k < b.length) (h : a.length = b.length) : (mixL a b k)[k]? = some b[k] := by
 have hl : (a.take k).length = k := by simp; omega
 rw [mixL, List.getElem?_append_right (by omega), hl, Nat.sub_self]
 simp [hk]
theorem mixL_set (a b : List Int) {k : Nat} (hk : k < b.length) (h : a.length = b.length) : (mixL a b k).set k (a[k]'(by omega)) = mixL a b (k + 1) := by
 have hl : (a.take k).length = k := by simp; omega
 have ha : k < a.length := by omega
 rw [mixL, mixL, List.drop_eq_getElem_cons hk, List.set_append_right _ _ (by omega), hl, Nat.sub_self, List.set_cons_zero, List.take_succ_eq_append_getElem ha, List.append_assoc]
 rfl
theorem mixL_last (a b : List Int) (h : a.length = b.length) : mixL a b b.length = a := by simp [mixL, ← h]
end Go.Mch
namespace Go.Mch

def boxT : Option T → Bool
 | some (.mem _ none _) => true
 | _ => false
@[simp] theorem boxT_mem (k : K) (ts : List T) : boxT (some (.mem k none ts)) = true := rfl
@[simp] theorem whole_pref {e : Env} (r : Nat) (p : List Nat) (off : Nat) : e.whole (.pref r p off) = (off == 0 && boxT (e.tree r p)) := by
 unfold Env.whole boxT
 rfl
@[simp] theorem hole_pref {e : Env} (r : Nat) (p : List Nat) (off : Nat) : e.hole (.pref r p off) = e.isHole r p := rfl
@[simp] theorem give_pref {e : Env} (r : Nat) (p : List Nat) (off : Nat) (t : T) : e.give (.pref r p off) t = e.j96 r p t := by cases t <;> rfl
end Go.Mch
namespace Go.Mch

structure PV (X Y : List (List Int)) (a b i j : Nat) : Prop where
 pi : PI X Y a b
 l : ∀ k, a < k → k < i → bef (gt Y k) (gt Y a)
 r : ∀ k, j < k → k < b → ¬ bef (gt Y k) (gt Y a)
 h1 : a < i
 h2 : i ≤ j + 1
 h3 : j < b
def PtQ (X Y : List (List Int)) (a b m : Nat) : Prop := PI X Y a b ∧ a ≤ m ∧ m < b ∧ (∀ k, a ≤ k → k < m → bef (gt Y k) (gt Y m)) ∧ ∀ k, m < k → k < b → bef (gt Y m) (gt Y k)
section
variable {X Y : List (List Int)} {a b i j : Nat}
theorem PV.len (h : PV X Y a b i j) : Y.length = X.length := h.pi.len
theorem PV.left (h : PV X Y a b i j) (hij : i ≤ j) (hb : bef (gt Y i) (gt Y a)) : PV X Y a b (i + 1) j :=
 ⟨h.pi, fun k h1 h2 => by
  by_cases hk : k = i
  · subst hk; exact hb
  · exact h.l k h1 (by omega), h.r, by have := h.h1; omega, by omega, h.h3⟩
theorem PV.right (h : PV X Y a b i j) (hij : i ≤ j) (hb : ¬ bef (gt Y j) (gt Y a)) : PV X Y a b i (j - 1) :=
 ⟨h.pi, h.l, fun k h1 h2 => by
  by_cases hk : k = j
  · subst hk; exact hb
  · exact h.r k (by omega) h2, h.h1, by have := h.h1; omega, by have := h.h3; omega⟩
theorem PV.swap (h : PV X Y a b i j) (hij : i < j) (hj : bef (gt Y j) (gt Y a)) (hi : ¬ bef (gt Y i) (gt Y a)) (hb : b ≤ X.length) : PV X (swL Y i j) a b (i + 1) (j - 1) := by
 have hl := h.len
 have h1 := h.h1
 have h3 := h.h3
 have hg := q4t (X := Y) (i := i) (j := j) (by omega) (by omega)
 have ha : tau i j a = a := by unfold tau; rw [if_neg (by omega), if_neg (by omega)]
 refine ⟨h.pi.swap hb (by omega) (by omega), fun k k1 k2 => ?_, fun k k1 k2 => ?_, by omega, by omega, by omega⟩
 · rw [hg, hg, ha]
   by_cases hk : k = i
   · subst hk
     have : tau k j k = j := by unfold tau; rw [if_neg (by omega), if_pos rfl]
     rw [this]; exact hj
   · have : tau i j k = k := by unfold tau; rw [if_neg (by omega), if_neg hk]
     rw [this]; exact h.l k k1 (by omega)
 · rw [hg, hg, ha]
   by_cases hk : k = j
   · subst hk
     have : tau i k k = i := by unfold tau; rw [if_pos rfl]
     rw [this]; exact hi
   · have : tau i j k = k := by unfold tau; rw [if_neg hk, if_neg (by omega)]
     rw [this]; exact h.r k (by omega) k2
theorem PV.fin (h : PV X Y a b i j) (hji : j < i) (hb : b ≤ X.length) : PtQ X (swL Y j a) a b j := by
 have hl := h.len
 have h1 := h.h1
 have h2 := h.h2
 have h3 := h.h3
 have hg := q4t (X := Y) (i := j) (j := a) (by omega) (by omega)
 have hj : tau j a j = a := by
  unfold tau
  by_cases he : j = a
  · rw [if_pos he, he]
  · rw [if_neg he, if_pos rfl]
 refine ⟨h.pi.swap hb (by omega) (by omega), by omega, h3, fun k k1 k2 => ?_, fun k k1 k2 => ?_⟩
 · rw [hg, hg, hj]
   by_cases hk : k = a
   · have : tau j a k = j := by unfold tau; rw [if_pos hk]
     rw [this]; exact h.l j (by omega) hji
   · have : tau j a k = k := by unfold tau; rw [if_neg hk, if_neg (by omega)]
     rw [this]; exact h.l k (by omega) (by omega)
 · rw [hg, hg, hj]
   have : tau j a k = k := by unfold tau; rw [if_neg (by omega), if_neg (by omega)]
   rw [this]
   exact h.pi.dj.or (by omega) (by omega) (by omega) (h.r k k1 k2)
end
end Go.Mch
namespace Go.Mch

def Lb (X : List (List Int)) (a b : Nat) : Prop := a = 0 ∨ ∀ k, a ≤ k → k < b → bef (gt X (a - 1)) (gt X k)
theorem Lb.pi {X Y : List (List Int)} {a b : Nat} (h : Lb X a b) (g : PI X Y a b) : Lb Y a b := by
 rcases h with h | h
 · exact .inl h
 · by_cases h0 : a = 0
   · exact .inl h0
   · refine .inr fun k h1 h2 => ?_
     obtain ⟨k', p1, p2, p3⟩ := g.fwd k h1 h2
     rw [g.out (a - 1) (by omega), p3]
     exact h k' p1 p2
theorem SI.keep {Y Z : List (List Int)} {a i : Nat} (h : SI Y a i) (hk : ∀ k, k < i → gt Z k = gt Y k) : SI Z a i := fun p q h1 h2 h3 => by
 rw [hk p (by omega), hk q h3]
 exact h p q h1 h2 h3
theorem SI.grow {Y : List (List Int)} {a r : Nat} (h : SI Y a (r + 1)) (hb : bef (gt Y r) (gt Y (r + 1))) : SI Y a (r + 2) := fun p q h1 h2 h3 => by
 by_cases hq : q = r + 1
 · subst hq
   by_cases hp : p = r
   · subst hp; exact hb
   · exact q45 (h p r h1 (by omega) (by omega)) hb
 · exact h p q h1 h2 (by omega)
end Go.Mch
namespace Go.Mch

def Cut (Y : List (List Int)) (m a b : Nat) : Prop := ∀ p q, a ≤ p → p < m → m ≤ q → q < b → bef (gt Y p) (gt Y q)
section
variable {Y Z : List (List Int)} {m a b c d u v : Nat}
theorem Cut.pi (h : Cut Y m a b) (g : PI Y Z u v) (hu : a ≤ u) (hv : v ≤ b) (hm : v ≤ m ∨ m ≤ u) : Cut Z m a b := by
 intro p q h1 h2 h3 h4
 have hp : ∃ p', a ≤ p' ∧ p' < m ∧ gt Z p = gt Y p' := by
  by_cases hk : u ≤ p ∧ p < v
  · obtain ⟨p', q1, q2, q3⟩ := g.fwd p hk.1 hk.2
    exact ⟨p', by omega, by omega, q3⟩
  · exact ⟨p, h1, h2, g.out p (by omega)⟩
 have hq : ∃ q', m ≤ q' ∧ q' < b ∧ gt Z q = gt Y q' := by
  by_cases hk : u ≤ q ∧ q < v
  · obtain ⟨p', q1, q2, q3⟩ := g.fwd q hk.1 hk.2
    exact ⟨p', by omega, by omega, q3⟩
  · exact ⟨q, h3, h4, g.out q (by omega)⟩
 obtain ⟨p', p1, p2, p3⟩ := hp
 obtain ⟨q', q1, q2, q3⟩ := hq
 rw [p3, q3]
 exact h p' q' p1 p2 q1 q2
theorem SI.out (h : SI Y c d) (g : PI Y Z u v) (hm : d ≤ u ∨ v ≤ c) : SI Z c d := fun p q h1 h2 h3 => by
 rw [g.out p (by omega), g.out q (by omega)]
 exact h p q h1 h2 h3
theorem SI.join (h1 : SI Y c m) (h2 : SI Y m d) (h : Cut Y m a b) (hc : a ≤ c) (hd : d ≤ b) : SI Y c d := fun p q p1 p2 p3 => by
 by_cases hp : p < m
 · by_cases hq : q < m
   · exact h1 p q p1 p2 hq
   · exact h p q (by omega) hp (by omega) (by omega)
 · exact h2 p q (by omega) p2 p3
structure Fr (Y : List (List Int)) (a c d b : Nat) : Prop where
 lo : SI Y a c
 hi : SI Y d b
 cl : Cut Y c a b
 ch : Cut Y d a b
 h1 : a ≤ c
 h2 : c ≤ d
 h3 : d ≤ b
theorem Fr.pi (h : Fr Y a c d b) (g : PI Y Z c d) : Fr Z a c d b :=
 ⟨h.lo.out g (.inl (Nat.le_refl _)), h.hi.out g (.inr (Nat.le_refl _)), h.cl.pi g h.h1 h.h3 (.inr (Nat.le_refl _)), h.ch.pi g h.h1 h.h3 (.inl (Nat.le_refl _)), h.h1, h.h2, h.h3⟩
theorem Fr.fin (h : Fr Y a c d b) (hs : SI Y c d) : SI Y a b :=
 h.lo.join (hs.join h.hi h.ch h.h1 (Nat.le_refl _)) h.cl (Nat.le_refl _) (Nat.le_refl _)
theorem Fr.lb (h : Fr Y a c d b) (hl : Lb Y a b) : Lb Y c d := by
 have h1 := h.h1
 have h3 := h.h3
 by_cases hc : c = a
 · subst hc
   rcases hl with hl | hl
   · exact .inl hl
   · exact .inr fun k k1 k2 => hl k k1 (by omega)
 · exact .inr fun k k1 k2 => h.cl (c - 1) k (by omega) (by omega) k1 (by omega)
theorem Fr.left (h : Fr Y a c d b) (hm1 : c ≤ m) (hm2 : m < d) (hc : Cut Y m a b ∧ Cut Y (m + 1) a b) (g : PI Y Z c m) (hs : SI Z c m) : Fr Z a (m + 1) d b := by
 have h1 := h.h1
 have h3 := h.h3
 have c1 : Cut Z c a b := h.cl.pi g h1 (by omega) (.inr (Nat.le_refl _))
 have c2 : Cut Z m a b := hc.1.pi g h1 (by omega) (.inl (Nat.le_refl _))
 have c3 : Cut Z (m + 1) a b := hc.2.pi g h1 (by omega) (.inl (by omega))
 have s1 : SI Z a m := (h.lo.out g (.inl (Nat.le_refl _))).join hs c1 (Nat.le_refl _) (by omega)
 exact ⟨s1.join (SI.one Z (Nat.le_refl _)) c2 (Nat.le_refl _) (by omega), h.hi.out g (.inr (by omega)), c3, h.ch.pi g h1 (by omega) (.inl (by omega)), by omega, by omega, h3⟩
theorem Fr.right (h : Fr Y a c d b) (hm1 : c ≤ m) (hm2 : m < d) (hc : Cut Y m a b ∧ Cut Y (m + 1) a b) (g : PI Y Z (m + 1) d) (hs : SI Z (m + 1) d) : Fr Z a c m b := by
 have h1 := h.h1
 have h3 := h.h3
 have c1 : Cut Z d a b := h.ch.pi g (by omega) h3 (.inl (Nat.le_refl _))
 have c2 : Cut Z m a b := hc.1.pi g (by omega) h3 (.inr (by omega))
 have c3 : Cut Z (m + 1) a b := hc.2.pi g (by omega) h3 (.inr (Nat.le_refl _))
 have s1 : SI Z (m + 1) b := hs.join (h.hi.out g (.inr (Nat.le_refl _))) c1 (by omega) (Nat.le_refl _)
 exact ⟨h.lo.out g (.inl (by omega)), (SI.one Z (Nat.le_refl _)).join s1 c3 (by omega) (Nat.le_refl _), h.cl.pi g (by omega) h3 (.inr (by omega)), c2, h1, hm1, by omega⟩
theorem Fr.start (h : a ≤ b) : Fr Y a a b b :=
 ⟨SI.one Y (by omega), SI.one Y (by omega), fun p q h1 h2 h3 h4 => by omega, fun p q h1 h2 h3 h4 => by omega, Nat.le_refl _, h, Nat.le_refl _⟩
end

theorem wp_block {G : Rl} {k : K} {i : Nat} {A : C} {R : X → Env → Prop} {e : Env} (h : wp G k A (X.out i R) e) : wp G k (.block i A) R e := h
end Go.Mch
namespace Go.Mch

theorem thr (n : Nat) (P : Nat → Prop) : (∀ j k, j ≤ k → k < n → P k → P j) → ∃ i, i ≤ n ∧ (∀ j, j < n → j < i → P j) ∧ ∀ j, j < n → i ≤ j → ¬ P j := by
 induction n with
 | zero => intro _; exact ⟨0, by omega, fun j h => by omega, fun j h => by omega⟩
 | succ n ih =>
  intro h
  by_cases hp : P n
  · exact ⟨n + 1, by omega, fun j hj _ => h j n (by omega) (by omega) hp, fun j hj h2 => by omega⟩
  · obtain ⟨i, h1, h2, h3⟩ := ih fun j k hjk hk => h j k hjk (by omega)
    refine ⟨i, by omega, fun j hj hi => h2 j (by omega) hi, fun j hj hi => ?_⟩
    by_cases hjn : j = n
    · subst hjn; exact hp
    · exact h3 j (by omega) hi
structure At (X : List (List Int)) (w : List Int) (i : Nat) : Prop where
 le : i ≤ X.length
 lo : ∀ j (hj : j < X.length), j < i → cmpL X[j] w < 0
 hi : ∀ j (hj : j < X.length), i ≤ j → ¬ cmpL X[j] w < 0
theorem Srt.at {X : List (List Int)} (h : Srt X) (w : List Int) : ∃ i, At X w i := by
 obtain ⟨i, h1, h2, h3⟩ := thr X.length (fun j => cmpL (X.getD j []) w < 0) fun j k hjk hk hp => by
  by_cases he : j = k
  · subst he; exact hp
  · have hj : j < X.length := by omega
    have := h.lt hk (show j < k by omega)
    simp only [List.getD_eq_getElem?_getD, List.getElem?_eq_getElem hk, List.getElem?_eq_getElem hj, Option.getD_some] at hp ⊢
    exact q2b _ _ _ this hp
 refine ⟨i, h1, fun j hj hl => ?_, fun j hj hl => ?_⟩
 · have := h2 j hj hl
   simpa [hj] using this
 · have := h3 j hj hl
   simpa [hj] using this
theorem At.mem {X : List (List Int)} {w : List Int} {i : Nat} (h : At X w i) (hs : Srt X) : w ∈ X ↔ ∃ hi : i < X.length, X[i] = w := by
 constructor
 · intro hm
   obtain ⟨j, hj, rfl⟩ := List.getElem_of_mem hm
   have hij : i ≤ j := by
    refine Classical.byContradiction fun hn => ?_
    have := h.lo j hj (by omega)
    have z := (q43 X[j] X[j]).2 rfl
    omega
   by_cases he : i = j
   · subst he; exact ⟨hj, rfl⟩
   · exact absurd (hs.lt hj (by omega)) (h.hi i (by omega) (Nat.le_refl _))
 · rintro ⟨hi, rfl⟩
   exact List.getElem_mem hi
end Go.Mch
namespace Go.Mch

def GR (ms : List (List Int)) (n : Nat) (x : List Int) : Prop := ∀ S : List Int → Prop, S (idL n) → (∀ y, S y → ∀ p ∈ ms, S (j6e y p)) → S x
theorem GR.id (ms : List (List Int)) (n : Nat) : GR ms n (idL n) := fun _ h _ => h
theorem GR.step {ms : List (List Int)} {n : Nat} {x : List Int} (h : GR ms n x) {p : List Int} (hp : p ∈ ms) : GR ms n (j6e x p) := fun S h1 h2 => h2 x (h S h1 h2) p hp
structure Grp (ms : List (List Int)) (n : Nat) (X : List (List Int)) : Prop where
 srt : Srt X
 mem : ∀ x, x ∈ X ↔ GR ms n x
end Go.Mch
namespace Go.Mch

section
variable (mv : List Int → Nat → List Int) (m : Nat) (w : List Int)
def TR (x : List Int) : Prop := ∀ C : List Int → Prop, C w → (∀ y, C y → ∀ i, i < m → C (mv y i)) → C x
theorem TR.start : TR mv m w w := fun _ h _ => h
theorem TR.step {x : List Int} (h : TR mv m w x) {i : Nat} (hi : i < m) : TR mv m w (mv x i) := fun C h1 h2 => h2 _ (h C h1 h2) i hi
structure TF (Q : List (List Int)) : Prop where
 w0 : w ∈ Q
 nd : Q.Nodup
 gr : ∀ x ∈ Q, TR mv m w x
structure TB (Q : List (List Int)) (a k : Nat) : Prop where
 f : TF mv m w Q
 cl : ∀ i (h : i < Q.length), i < a → ∀ p, p < m → mv Q[i] p ∈ Q
 cur : ∀ h : a < Q.length, ∀ p, p < k → mv Q[a] p ∈ Q
theorem TB.start : TB mv m w [w] 0 0 := ⟨⟨by simp, by simp, fun x hx => by rw [List.mem_singleton] at hx; subst hx; exact TR.start mv m x⟩, fun i h hi => by omega, fun h p hp => by omega⟩
variable {mv m w}
theorem TB.old {Q : List (List Int)} {a k : Nat} (h : TB mv m w Q a k) (ha : a < Q.length) (hin : mv Q[a] k ∈ Q) : TB mv m w Q a (k + 1) :=
 ⟨h.f, h.cl, fun h1 p hp => by
  by_cases hpk : p = k
  · subst hpk; exact hin
  · exact h.cur h1 p (by omega)⟩
theorem TF.new {Q : List (List Int)} {a k : Nat} (h : TF mv m w Q) (ha : a < Q.length) (hk : k < m) (hin : mv Q[a] k ∉ Q) : TF mv m w (Q ++ [mv Q[a] k]) :=
 ⟨List.mem_append.2 (.inl h.w0), by
  rw [List.nodup_append]
  exact ⟨h.nd, by simp, fun x hx y hy hxy => by
   rw [List.mem_singleton] at hy
   exact hin (by rw [← hy, ← hxy]; exact hx)⟩, fun x hx => by
  rcases List.mem_append.1 hx with hx | hx
  · exact h.gr x hx
  · rw [List.mem_singleton] at hx
    subst hx
    exact (h.gr _ (List.getElem_mem ha)).step mv m w hk⟩
theorem TB.new {Q : List (List Int)} {a k : Nat} (h : TB mv m w Q a k) (ha : a < Q.length) (hk : k < m) (hin : mv Q[a] k ∉ Q) : TB mv m w (Q ++ [mv Q[a] k]) a (k + 1) :=
 ⟨h.f.new ha hk hin, fun i hi hia p hp => by
  have hl : i < Q.length := by omega
  rw [List.getElem_append_left hl]
  exact List.mem_append.2 (.inl (h.cl i hl hia p hp)), fun h1 p hp => by
  rw [List.getElem_append_left ha]
  by_cases hpk : p = k
  · subst hpk; exact List.mem_append.2 (.inr (by simp))
  · exact List.mem_append.2 (.inl (h.cur ha p (by omega)))⟩
theorem TB.up {Q : List (List Int)} {a : Nat} (h : TB mv m w Q a m) (ha : a < Q.length) : TB mv m w Q (a + 1) 0 :=
 ⟨h.f, fun i hi hia p hp => by
  by_cases he : i = a
  · subst he; exact h.cur ha p hp
  · exact h.cl i hi (by omega) p hp, fun h1 p hp => by omega⟩
theorem TB.all {Q : List (List Int)} {a : Nat} (h : TB mv m w Q a 0) (ha : ¬ a < Q.length) (x : List Int) (hx : TR mv m w x) : x ∈ Q :=
 hx (fun y => y ∈ Q) h.f.w0 fun y hy i hi => by
  obtain ⟨j, hj, rfl⟩ := List.getElem_of_mem hy
  exact h.cl j hj (by omega) i hi
variable (mv m w)
variable {mv m w}
end
end Go.Mch
namespace Go.Mch

def ExT (P : List (List Int) → Prop) : Prop := ∃ Q, P Q
theorem ExT.mk {P : List (List Int) → Prop} (Q : List (List Int)) (h : P Q) : ExT P := ⟨Q, h⟩
structure BF (ms : List (List Int)) (n : Nat) (Q : List (List Int)) (i k : Nat) : Prop where
 nd : Q.Nodup
 gr : ∀ x ∈ Q, GR ms n x
 id : idL n ∈ Q
 dn : ∀ j (hj : j < Q.length), j < i → ∀ p ∈ ms, j6e Q[j] p ∈ Q
 dk : ∀ hi : i < Q.length, ∀ p ∈ ms.take k, j6e Q[i] p ∈ Q
 le : Q.length ≤ 1000
theorem BF.start (ms : List (List Int)) (n : Nat) : BF ms n [idL n] 0 0 where
 nd := by simp
 gr := fun x hx => by simp at hx; subst hx; exact GR.id ms n
 id := by simp
 dn := fun j _ h => by omega
 dk := fun _ p hp => by simp at hp
 le := by simp
theorem BF.up {ms : List (List Int)} {n : Nat} {Q : List (List Int)} {i : Nat} (h : BF ms n Q i ms.length) (hi : i < Q.length) : BF ms n Q (i + 1) 0 :=
 ⟨h.nd, h.gr, h.id, fun j hj hl p hp => by
  by_cases he : j = i
  · subst he; exact h.dk hi p (by simpa using hp)
  · exact h.dn j hj (by omega) p hp, fun _ p hp => by simp at hp, h.le⟩
theorem BF.old {ms : List (List Int)} {n : Nat} {Q : List (List Int)} {i k : Nat} (h : BF ms n Q i k) (hk : k < ms.length) (hi : i < Q.length) (hm : j6e Q[i] ms[k] ∈ Q) : BF ms n Q i (k + 1) :=
 ⟨h.nd, h.gr, h.id, h.dn, fun _ p hp => by
  rw [List.take_succ_eq_append_getElem hk] at hp
  rcases List.mem_append.1 hp with h1 | h1
  · exact h.dk hi p h1
  · simp at h1; subst h1; exact hm, h.le⟩
theorem BF.new {ms : List (List Int)} {n : Nat} {Q : List (List Int)} {i k : Nat} (h : BF ms n Q i k) (hk : k < ms.length) (hi : i < Q.length) (hm : j6e Q[i] ms[k] ∉ Q) :
 (Q ++ [j6e Q[i] ms[k]]).Nodup ∧ (∀ x ∈ Q ++ [j6e Q[i] ms[k]], GR ms n x) ∧ (Q.length < 1000 → BF ms n (Q ++ [j6e Q[i] ms[k]]) i (k + 1)) := by
 have hnd : (Q ++ [j6e Q[i] ms[k]]).Nodup := by
  rw [List.nodup_append]
  exact ⟨h.nd, by simp, fun a ha b hb => by simp at hb; subst hb; exact fun he => hm (he ▸ ha)⟩
 have hgr : ∀ x ∈ Q ++ [j6e Q[i] ms[k]], GR ms n x := fun x hx => by
  rcases List.mem_append.1 hx with h1 | h1
  · exact h.gr x h1
  · simp at h1; subst h1; exact (h.gr _ (List.getElem_mem hi)).step (List.getElem_mem hk)
 refine ⟨hnd, hgr, fun hl => ⟨hnd, hgr, List.mem_append.2 (.inl h.id), fun j hj hl2 p hp => ?_, fun _ p hp => ?_, by simp; omega⟩⟩
 · rw [List.getElem_append_left (by omega)]
   exact List.mem_append.2 (.inl (h.dn j (by omega) hl2 p hp))
 · rw [List.getElem_append_left hi]
   rw [List.take_succ_eq_append_getElem hk] at hp
   rcases List.mem_append.1 hp with h1 | h1
   · exact List.mem_append.2 (.inl (h.dk hi p h1))
   · simp at h1; subst h1; exact List.mem_append.2 (.inr (by simp))
theorem BF.all {ms : List (List Int)} {n : Nat} {Q : List (List Int)} {i k : Nat} (h : BF ms n Q i k) (hi : ¬ i < Q.length) : ∀ x, GR ms n x → x ∈ Q := fun x hx =>
 hx (· ∈ Q) h.id fun y hy p hp => by
  obtain ⟨j, hj, rfl⟩ := List.getElem_of_mem hy
  exact h.dn j hj (by omega) p hp
end Go.Mch
namespace Go.Mch

def q1u (X : List (List Int)) : List T := X.map fun xs => .mem .fresh (some 1) (xs.map I)
@[simp] theorem rowsF_length (X : List (List Int)) : (q1u X).length = X.length := by simp [q1u]
@[simp] theorem noOwnL_rowsF (X : List (List Int)) : T.j0m (q1u X) = true := by
 induction X with
 | nil => rfl
 | cons x X ih => simp only [q1u, List.map_cons] at ih ⊢; simp [ih]
@[simp] theorem eryL_rowsF (X : List (List Int)) : T.eryL .old (q1u X) = tbL X := by
 induction X with
 | nil => rfl
 | cons x X ih => simp only [q1u, tbL, List.map_cons] at ih ⊢; simp [ih]
@[simp] theorem rowsF_getElem {X : List (List Int)} {k : Nat} (h : k < (q1u X).length) : (q1u X)[k] = .mem .fresh (some 1) ((X[k]'(by simpa using h)).map I) := by simp [q1u]
def Rds (ts : List T) (X : List (List Int)) : Prop := T.eryL .old ts = tbL X ∧ T.j0m ts = true ∧ T.j1y ts = tbL X ∧ ts.length = X.length
theorem Rds.fresh (X : List (List Int)) : Rds (q1u X) X := ⟨by simp, by simp, by
 induction X with
 | nil => rfl
 | cons x X ih => simp only [q1u, tbL, List.map_cons] at ih ⊢; simp [ih], by simp⟩
theorem Rds.old (X : List (List Int)) : Rds (tbL X) X := ⟨by simp, by simp, by
 induction X with
 | nil => rfl
 | cons x X ih => simp only [tbL, List.map_cons] at ih ⊢; simp [ih], by simp⟩
def ExTT (P : List (List Int) → List (List Int) → List T → Prop) : Prop := ∃ F S ts, P F S ts
theorem ExTT.mk {P : List (List Int) → List (List Int) → List T → Prop} (F S : List (List Int)) (ts : List T) (h : P F S ts) : ExTT P := ⟨F, S, ts, h⟩

end Go.Mch
namespace Go.Mch

@[simp] theorem noOldL_rowsF (X : List (List Int)) : T.j5x (q1u X) = true := by
 induction X with
 | nil => rfl
 | cons x X ih => simp only [q1u, List.map_cons] at ih ⊢; simp [ih]
end Go.Mch
namespace Go.Mch

theorem q19 {n x y : Nat} (hy : y < n) : (x * n + y) / n = x ∧ (x * n + y) % n = y := by
 have hn : 0 < n := by omega
 refine ⟨?_, ?_⟩
 · rw [Nat.mul_comm, Nat.mul_add_div hn, Nat.div_eq_of_lt hy, Nat.add_zero]
 · rw [Nat.mul_comm, Nat.mul_add_mod, Nat.mod_eq_of_lt hy]
theorem q66 {n x y : Nat} (hx : x < n) (hy : y < n) : x * n + y < n * n := by
 have : (x + 1) * n ≤ n * n := Nat.mul_le_mul_right n hx
 rw [Nat.add_mul] at this
 omega
theorem inj_pair {f s : List (List Int)} (hi : Inj f s) {x y x' y' : Nat} (hx : x < f.length) (hy : y < f.length) (hx' : x' < f.length) (hy' : y' < f.length) (h1 : v2 f x y = v2 f x' y') (h2 : v2 s x y = v2 s x' y') : x = x' ∧ y = y' := by
 have hp := q19 (x := x) hy
 have hp' := q19 (x := x') hy'
 by_cases he : x * f.length + y = x' * f.length + y'
 · exact ⟨by rw [← hp.1, he, hp'.1], by rw [← hp.2, he, hp'.2]⟩
 · exact absurd ⟨he, by rw [hp.1, hp.2, hp'.1, hp'.2]; exact h1, by rw [hp.1, hp.2, hp'.1, hp'.2]; exact h2⟩ (hi _ (q66 hx hy) _ (q66 hx' hy'))
theorem sur_pair {f s : List (List Int)} (h : PM f s) (hi : Inj f s) {a b : Nat} (ha : a < f.length) (hb : b < f.length) : ∃ x y, x < f.length ∧ y < f.length ∧ v2 f x y = a ∧ v2 s x y = b := by
 have r1 : ∀ x y : Nat, 0 ≤ v2 f x y ∧ v2 f x y < f.length := fun x y => by simpa [g2] using h.gF x y
 have r2 : ∀ x y : Nat, 0 ≤ v2 s x y ∧ v2 s x y < f.length := fun x y => by simpa [g2] using h.gS x y
 have hs := surj_of_inj (n := f.length * f.length) (g := fun p => (v2 f (p / f.length) (p % f.length)).toNat * f.length + (v2 s (p / f.length) (p % f.length)).toNat) (fun p _ => by
  have := r1 (p / f.length) (p % f.length)
  have := r2 (p / f.length) (p % f.length)
  exact q66 (by omega) (by omega)) (fun p p' hp hp' he => by
  have hd := q2a hp
  have hd' := q2a hp'
  have q1 := r1 (p / f.length) (p % f.length)
  have q2 := r2 (p / f.length) (p % f.length)
  have q1' := r1 (p' / f.length) (p' % f.length)
  have q2' := r2 (p' / f.length) (p' % f.length)
  have u := q19 (n := f.length) (x := (v2 f (p / f.length) (p % f.length)).toNat) (y := (v2 s (p / f.length) (p % f.length)).toNat) (by omega)
  have u' := q19 (n := f.length) (x := (v2 f (p' / f.length) (p' % f.length)).toNat) (y := (v2 s (p' / f.length) (p' % f.length)).toNat) (by omega)
  rw [he] at u
  have e1 := u.1.symm.trans u'.1
  have e2 := u.2.symm.trans u'.2
  have := inj_pair hi hd.1 hd.2 hd'.1 hd'.2 (by omega) (by omega)
  rw [← Nat.div_add_mod p f.length, ← Nat.div_add_mod p' f.length, this.1, this.2])
 obtain ⟨p, hp, he⟩ := hs _ (q66 ha hb)
 have hd := q2a hp
 have q1 := r1 (p / f.length) (p % f.length)
 have q2 := r2 (p / f.length) (p % f.length)
 have u := q19 (n := f.length) (x := (v2 f (p / f.length) (p % f.length)).toNat) (y := (v2 s (p / f.length) (p % f.length)).toNat) (by omega)
 have u' := q19 (n := f.length) (x := a) hb
 rw [he] at u
 have e1 := u.1.symm.trans u'.1
 have e2 := u.2.symm.trans u'.2
 exact ⟨_, _, hd.1, hd.2, by omega, by omega⟩
end Go.Mch
namespace Go.Mch

def pre (f s : List (List Int)) (u v : Nat) (x y : Nat) : Prop := x < f.length ∧ y < f.length ∧ σN f x y = u ∧ τN s y x = v
noncomputable def preX (f s : List (List Int)) (u v : Nat) : Nat := by
 classical exact if h : ∃ x, ∃ y, pre f s u v x y then Classical.choose h else 0
noncomputable def preY (f s : List (List Int)) (u v : Nat) : Nat := by
 classical exact if h : ∃ y, ∃ x, pre f s u v x y then Classical.choose h else 0
theorem pre_uniq {f s : List (List Int)} (h : PM f s) (hi : Inj f s) {u v x y x' y' : Nat} (h1 : pre f s u v x y) (h2 : pre f s u v x' y') : x = x' ∧ y = y' := by
 obtain ⟨a1, a2, a3, a4⟩ := h1
 obtain ⟨b1, b2, b3, b4⟩ := h2
 have e1 := h.v2f x y
 have e2 := h.v2f x' y'
 have e3 := h.v2s x y
 have e4 := h.v2s x' y'
 exact inj_pair hi a1 a2 b1 b2 (by omega) (by omega)
theorem pre_eq {f s : List (List Int)} (h : PM f s) (hi : Inj f s) {u v x y : Nat} (h1 : pre f s u v x y) : preX f s u v = x ∧ preY f s u v = y := by
 have hx : ∃ x, ∃ y, pre f s u v x y := ⟨x, y, h1⟩
 have hy : ∃ y, ∃ x, pre f s u v x y := ⟨y, x, h1⟩
 constructor
 · unfold preX
   rw [dif_pos hx]
   obtain ⟨y', h2⟩ := Classical.choose_spec hx
   exact (pre_uniq h hi h2 h1).1
 · unfold preY
   rw [dif_pos hy]
   obtain ⟨y', h2⟩ := Classical.choose_spec hy
   exact (pre_uniq h hi h2 h1).2
theorem pre_ex {f s : List (List Int)} (h : PM f s) (hi : Inj f s) {u v : Nat} (hu : u < f.length) (hv : v < f.length) : ∃ x y, pre f s u v x y := by
 obtain ⟨x, y, h1, h2, h3, h4⟩ := sur_pair h hi hu hv
 have e1 := h.v2f x y
 have e3 := h.v2s x y
 exact ⟨x, y, h1, h2, by omega, by omega⟩
theorem q64 {f s : List (List Int)} (h : PM f s) (hi : Inj f s) {u v : Nat} (hu : u < f.length) (hv : v < f.length) : pre f s u v (preX f s u v) (preY f s u v) := by
 obtain ⟨x, y, h1⟩ := pre_ex h hi hu hv
 have := pre_eq h hi h1
 rw [this.1, this.2]
 exact h1
theorem pre_at {f s : List (List Int)} (h : PM f s) (hi : Inj f s) {x y : Nat} (hx : x < f.length) (hy : y < f.length) : preX f s (σN f x y) (τN s y x) = x ∧ preY f s (σN f x y) (τN s y x) = y := pre_eq h hi ⟨hx, hy, rfl, rfl⟩

noncomputable def invF (f s : List (List Int)) : List (List Int) := tabL f.length fun u v => (preX f s u v : Int)
noncomputable def invS (f s : List (List Int)) : List (List Int) := tabL f.length fun u v => (preY f s u v : Int)
@[simp] theorem invF_length (f s : List (List Int)) : (invF f s).length = f.length := by simp [invF]
@[simp] theorem invS_length (f s : List (List Int)) : (invS f s).length = f.length := by simp [invS]
theorem inv_pm {f s : List (List Int)} (h : PM f s) (hi : Inj f s) : PM (invF f s) (invS f s) where
 tf := tab_of fun x y hx hy => by have := (q64 h hi hx hy).1; omega
 ts := tab_of fun x y hx hy => by have := (q64 h hi hx hy).2.1; omega
 len := by simp
 pos := by simpa using h.pos
 small := by simpa using h.small


end Go.Mch
namespace Go.Mch

def isWd (n : Int) (w : List Int) : Prop := inR 0 (n - 1) w ∧ w.length ≤ 8
instance (n : Int) (w : List Int) : Decidable (isWd n w) := by unfold isWd; infer_instance

noncomputable def cMv (f s : List (List Int)) (x : List Int) (p : Nat) : List Int := if p % 2 = 0 then dW f s x (p / 2) else dW (invF f s) (invS f s) x (p / 2)
@[simp] theorem j9o (f s : List (List Int)) (x : List Int) (p : Nat) : (cMv f s x p).length = x.length := by unfold cMv; split <;> simp
theorem cMv_in {f s : List (List Int)} (h : PM f s) (hi : Inj f s) {x : List Int} (hx : inN f.length x) (p : Nat) : inN f.length (cMv f s x p) := by
 unfold cMv
 split
 · exact dW_in h hx _
 · have := dW_in (inv_pm h hi) (w := x) (by simpa using hx) (p / 2)
   simpa using this
theorem CR_in {f s : List (List Int)} (h : PM f s) (hi : Inj f s) {w : List Int} (hw : inN f.length w) {m : Nat} {x : List Int} (hx : TR (cMv f s) m w x) : inN f.length x ∧ x.length = w.length :=
 hx (fun y => inN f.length y ∧ y.length = w.length) ⟨hw, rfl⟩ fun y hy i _ => ⟨cMv_in h hi hy.1 i, by rw [j9o]; exact hy.2⟩

end Go.Mch
namespace Go.Mch


def hd0 (X : List (List Int)) : List Int := X.getD 0 []
end Go.Mch
namespace Go.Mch

section
variable {mv mv' : List Int → Nat → List Int} {m m' : Nat} {w x y : List Int}
theorem TR.trans (h1 : TR mv m w x) (h2 : TR mv m x y) : TR mv m w y := h2 _ h1 fun _ hz _ hi => TR.step mv m w hz hi
theorem TR.symm {P : List Int → Prop} (hw : P w) (hc : ∀ y, P y → ∀ i, i < m → P (mv y i)) (hb : ∀ y, P y → ∀ i, i < m → ∃ j, j < m ∧ mv (mv y i) j = y) (h : TR mv m w x) : TR mv m x w :=
 (h (fun y => P y ∧ TR mv m y w) ⟨hw, TR.start mv m w⟩ fun y hy i hi => ⟨hc y hy.1 i hi, by
  obtain ⟨j, hj, he⟩ := hb y hy.1 i hi
  have h1 : TR mv m (mv y i) y := by
   have := TR.step mv m (mv y i) (TR.start mv m (mv y i)) hj
   rw [he] at this
   exact this
  exact h1.trans hy.2⟩).2
theorem TR.map (φ : List Int → List Int) {P : List Int → Prop} (hw : P w) (hc : ∀ y, P y → ∀ i, i < m → P (mv y i)) (hm : ∀ y, P y → ∀ i, i < m → ∃ j, j < m' ∧ mv' (φ y) j = φ (mv y i)) (h : TR mv m w x) : TR mv' m' (φ w) (φ x) :=
 (h (fun y => P y ∧ TR mv' m' (φ w) (φ y)) ⟨hw, TR.start mv' m' (φ w)⟩ fun y hy i hi => ⟨hc y hy.1 i hi, by
  obtain ⟨j, hj, he⟩ := hm y hy.1 i hi
  rw [← he]
  exact TR.step mv' m' (φ w) hy.2 hj⟩).2
end

theorem dW_app {f s : List (List Int)} {p r : List Int} {i : Nat} (hi : i + 1 < p.length) : dW f s (p ++ r) i = dW f s p i ++ r := by
 have h1 : (p ++ r).getD i 0 = p.getD i 0 := by rw [List.getD_eq_getElem?_getD, List.getD_eq_getElem?_getD, List.getElem?_append_left (by omega)]
 have h2 : (p ++ r).getD (i + 1) 0 = p.getD (i + 1) 0 := by rw [List.getD_eq_getElem?_getD, List.getD_eq_getElem?_getD, List.getElem?_append_left (by omega)]
 unfold dW
 rw [h1, h2, List.set_append_left _ _ (by omega), List.set_append_left _ _ (by simp; omega)]
theorem dW_app2 {f s : List (List Int)} {u r : List Int} {i : Nat} : dW f s (u ++ r) (u.length + i) = u ++ dW f s r i := by
 have h1 : (u ++ r).getD (u.length + i) 0 = r.getD i 0 := by rw [List.getD_eq_getElem?_getD, List.getD_eq_getElem?_getD, List.getElem?_append_right (by omega), Nat.add_sub_cancel_left]
 have h2 : (u ++ r).getD (u.length + i + 1) 0 = r.getD (i + 1) 0 := by rw [List.getD_eq_getElem?_getD, List.getD_eq_getElem?_getD, List.getElem?_append_right (by omega), show u.length + i + 1 - u.length = i + 1 from by omega]
 unfold dW
 rw [h1, h2, List.set_append_right _ _ (by omega), List.set_append_right _ _ (by omega), Nat.add_sub_cancel_left, show u.length + i + 1 - u.length = i + 1 from by omega]
theorem cMv_app {f s : List (List Int)} {p r : List Int} {i : Nat} (hi : i < 2 * (p.length - 1)) : cMv f s (p ++ r) i = cMv f s p i ++ r := by
 unfold cMv
 split
 · exact dW_app (by omega)
 · exact dW_app (by omega)
theorem cMv_app2 {f s : List (List Int)} {u r : List Int} {i : Nat} : cMv f s (u ++ r) (2 * u.length + i) = u ++ cMv f s r i := by
 unfold cMv
 rw [show (2 * u.length + i) % 2 = i % 2 from by omega, show (2 * u.length + i) / 2 = u.length + i / 2 from by omega]
 split
 · exact dW_app2
 · exact dW_app2

theorem inN_getD {n : Nat} {w : List Int} (h : inN n w) {i : Nat} (hi : i < w.length) : 0 ≤ w.getD i 0 ∧ w.getD i 0 < n := by
 rw [List.getD_eq_getElem?_getD, List.getElem?_eq_getElem hi]
 exact h _ (List.getElem_mem hi)
theorem dW_back {f s g t : List (List Int)} {w : List Int} {i : Nat} (hi : i + 1 < w.length)
 (h : ∀ a b, a = w.getD i 0 → b = w.getD (i + 1) 0 → g2 g (g2 f a b) (g2 s a b) = a ∧ g2 t (g2 f a b) (g2 s a b) = b) : dW g t (dW f s w i) i = w := by
 obtain ⟨h1, h2⟩ := h _ _ rfl rfl
 have e1 : (dW f s w i).getD i 0 = g2 f (w.getD i 0) (w.getD (i + 1) 0) := by
  unfold dW
  rw [List.getD_eq_getElem?_getD, List.getElem?_set_ne (by omega), List.getElem?_set_self (by omega)]
  rfl
 have e2 : (dW f s w i).getD (i + 1) 0 = g2 s (w.getD i 0) (w.getD (i + 1) 0) := by
  unfold dW
  rw [List.getD_eq_getElem?_getD, List.getElem?_set_self (by simpa using hi)]
  rfl
 have e3 : dW g t (dW f s w i) i = ((dW f s w i).set i (w.getD i 0)).set (i + 1) (w.getD (i + 1) 0) := by
  rw [dW, e1, e2, h1, h2]
 rw [e3]
 apply List.ext_getElem
 · simp
 · intro j j1 j2
   have hw1 : w.getD i 0 = w[i]'(by omega) := by rw [List.getD_eq_getElem?_getD, List.getElem?_eq_getElem (by omega)]; rfl
   have hw2 : w.getD (i + 1) 0 = w[i + 1] := by rw [List.getD_eq_getElem?_getD, List.getElem?_eq_getElem hi]; rfl
   by_cases hj1 : i + 1 = j
   · subst hj1
     rw [List.getElem_set_self, hw2]
   · rw [List.getElem_set_ne (by omega)]
     by_cases hj0 : i = j
     · subst hj0
       rw [List.getElem_set_self, hw1]
     · rw [List.getElem_set_ne (by omega)]
       unfold dW
       rw [List.getElem_set_ne (by omega), List.getElem_set_ne (by omega)]
theorem inv_g2 {f s : List (List Int)} (h : PM f s) (hi : Inj f s) {a b : Int} (ha : 0 ≤ a ∧ a < f.length) (hb : 0 ≤ b ∧ b < f.length) :
 (g2 (invF f s) (g2 f a b) (g2 s a b) = a ∧ g2 (invS f s) (g2 f a b) (g2 s a b) = b) ∧ g2 f (g2 (invF f s) a b) (g2 (invS f s) a b) = a ∧ g2 s (g2 (invF f s) a b) (g2 (invS f s) a b) = b := by
 have hx : a.toNat < f.length := by omega
 have hy : b.toNat < f.length := by omega
 constructor
 · have h1 := h.v2f a.toNat b.toNat
   have h2 := h.v2s a.toNat b.toNat
   have h3 := pre_at h hi hx hy
   have e1 : (g2 f a b).toNat = σN f a.toNat b.toNat := rfl
   have e2 : (g2 s a b).toNat = τN s b.toNat a.toNat := rfl
   unfold g2 at e1 e2 ⊢
   rw [e1, e2, invF, invS, q1m h1.2 h2.2, q1m h1.2 h2.2, h3.1, h3.2]
   omega
 · have h1 := q64 h hi hx hy
   have e1 : g2 (invF f s) a b = (preX f s a.toNat b.toNat : Int) := by unfold g2 invF; rw [q1m hx hy]
   have e2 : g2 (invS f s) a b = (preY f s a.toNat b.toNat : Int) := by unfold g2 invS; rw [q1m hx hy]
   rw [e1, e2]
   obtain ⟨p1, p2, p3, p4⟩ := h1
   have h2 := h.v2f (preX f s a.toNat b.toNat) (preY f s a.toNat b.toNat)
   have h3 := h.v2s (preX f s a.toNat b.toNat) (preY f s a.toNat b.toNat)
   unfold g2
   rw [Int.toNat_natCast, Int.toNat_natCast]
   omega
theorem cMv_back {f s : List (List Int)} (h : PM f s) (hi : Inj f s) {w : List Int} (hw : inN f.length w) {p : Nat} (hp : p < 2 * (w.length - 1)) : ∃ q, q < 2 * (w.length - 1) ∧ cMv f s (cMv f s w p) q = w := by
 have ha := inN_getD hw (i := p / 2) (by omega)
 have hb := inN_getD hw (i := p / 2 + 1) (by omega)
 have hg := inv_g2 h hi ha hb
 by_cases he : p % 2 = 0
 · refine ⟨p + 1, by omega, ?_⟩
   have e1 : cMv f s w p = dW f s w (p / 2) := by rw [cMv, if_pos he]
   have e2 : ∀ x, cMv f s x (p + 1) = dW (invF f s) (invS f s) x (p / 2) := fun x => by rw [cMv, if_neg (by omega), show (p + 1) / 2 = p / 2 from by omega]
   rw [e1, e2]
   exact dW_back (by omega) fun a b ha hb => by rw [ha, hb]; exact hg.1
 · refine ⟨p - 1, by omega, ?_⟩
   have e1 : cMv f s w p = dW (invF f s) (invS f s) w (p / 2) := by rw [cMv, if_neg he]
   have e2 : ∀ x, cMv f s x (p - 1) = dW f s x (p / 2) := fun x => by rw [cMv, if_pos (by omega), show (p - 1) / 2 = p / 2 from by omega]
   rw [e1, e2]
   exact dW_back (by omega) fun a b ha hb => by rw [ha, hb]; exact hg.2

def Eqw (f s : List (List Int)) (u v : List Int) : Prop := TR (cMv f s) (2 * (u.length - 1)) u v
section
variable {f s : List (List Int)} (h : PM f s) (hi : Inj f s)
include h hi
theorem Eqw.len {u v : List Int} (hu : inN f.length u) (e : Eqw f s u v) : inN f.length v ∧ v.length = u.length := CR_in h hi hu e
theorem Eqw.symm {u v : List Int} (hu : inN f.length u) (e : Eqw f s u v) : Eqw f s v u := by
 have hl := (e.len h hi hu).2
 unfold Eqw at e ⊢
 rw [hl]
 exact TR.symm (P := fun y => inN f.length y ∧ y.length = u.length) ⟨hu, rfl⟩ (fun y hy i _ => ⟨cMv_in h hi hy.1 i, by rw [j9o]; exact hy.2⟩) (fun y hy i hlt => by
  have := cMv_back h hi hy.1 (p := i) (by rw [hy.2]; exact hlt)
  rw [hy.2] at this
  exact this) e
theorem Eqw.trans {u v x : List Int} (hu : inN f.length u) (e : Eqw f s u v) (e2 : Eqw f s v x) : Eqw f s u x := by
 have hl := (e.len h hi hu).2
 unfold Eqw at e e2 ⊢
 rw [hl] at e2
 exact TR.trans e e2
theorem Eqw.app {u v : List Int} (hu : inN f.length u) (r : List Int) (e : Eqw f s u v) : Eqw f s (u ++ r) (v ++ r) := by
 unfold Eqw at e ⊢
 exact TR.map (· ++ r) (P := fun y => inN f.length y ∧ y.length = u.length) ⟨hu, rfl⟩ (fun y hy i _ => ⟨cMv_in h hi hy.1 i, by rw [j9o]; exact hy.2⟩) (fun y hy i hlt => ⟨i, by simp; omega, cMv_app (by rw [hy.2]; exact hlt)⟩) e
theorem Eqw.pre {r v : List Int} (hr : inN f.length r) (u : List Int) (e : Eqw f s r v) : Eqw f s (u ++ r) (u ++ v) := by
 unfold Eqw at e ⊢
 exact TR.map (u ++ ·) (P := fun y => inN f.length y ∧ y.length = r.length) ⟨hr, rfl⟩ (fun y hy i _ => ⟨cMv_in h hi hy.1 i, by rw [j9o]; exact hy.2⟩) (fun y hy i hlt => ⟨2 * u.length + i, by simp; omega, cMv_app2⟩) e
end
end Go.Mch
namespace Go.Mch

def iv (f s : List (List Int)) (x y : Nat) : Prop := v2 f (σN f x y) (τN s y x) = x ∧ v2 s (σN f x y) (τN s y x) = y
instance (f s : List (List Int)) (x y : Nat) : Decidable (iv f s x y) := by unfold iv; infer_instance
def isInv (f s : List (List Int)) : Prop := ∀ x, x < f.length → ∀ y, y < f.length → iv f s x y
def S_twice (pg : Pg) (n : Nat) : Prop := ∀ f s : List (List Int), PM f s → Call pg n [sol f s] [sol f s] (B (dec (isInv f s)))
set_option maxRecDepth 10000 in
theorem t_l02Twice {pg : Pg} (hp : pg.fn 351 = some j4l) : S_twice pg 351 := by
 intro f s h
 have h0 := h.pos
 have h12 := h.small
 have hls := h.len
 have fr' := fun x hx => h.tf.row (x := x) hx
 have sr' : ∀ x (hx : x < s.length), (s[x]).length = f.length := fun x hx => (h.ts.row hx).trans hls
 refine Call.intro hp rfl (by simp) ?_
 show wp _ _ j4l.body (post [.t 2] _ _ _) _
 simp [j4l]
 refine j0a (fun a e => (∀ x, x < a → ∀ y, y < f.length → iv f s x y) ∧ e = fr [(1, some (.val (.mem .own none [tb f, tb s]))), (3, some (.val (I a)))]) f.length ?_ ?_ 0 _ (by omega) ⟨fun x hx => by omega, by simp⟩
 · rintro a e ha ⟨h1, rfl⟩
   simp [ha]
   refine j0a (fun b e => (∀ y, y < b → iv f s a y) ∧ e = fr [(1, some (.val (.mem .own none [tb f, tb s]))), (3, some (.val (I a))), (4, some (.val (I b)))]) f.length ?_ ?_ 0 _ (by omega) ⟨fun x hx => by omega, by simp⟩
   · rintro b e hb ⟨h2, rfl⟩
     have hf := h.v2f a b
     have hs2 := h.v2s a b
     have has : a < s.length := by omega
     have hfr := fr' a ha
     have hsr := sr' a has
     have hfg : (f[a])[b]'(by omega) = v2 f a b := j27 _ _
     have hsg : (s[a])[b]'(by omega) = v2 s a b := j27 _ _
     have hiv : iv f s a b ↔ v2 f (σN f a b) (τN s b a) = a ∧ v2 s (σN f a b) (τN s b a) = b := Iff.rfl
     have hf3 := h.v2f (σN f a b) (τN s b a)
     have hs3 := h.v2s (σN f a b) (τN s b a)
     obtain ⟨hf1, hf2⟩ := hf
     obtain ⟨hs1, hs2⟩ := hs2
     rw [← hf1] at hfg
     rw [← hs1] at hsg
     generalize σN f a b = u at *
     generalize τN s b a = v at *
     have hus : u < s.length := by omega
     have hfu := fr' u hf2
     have hsu := sr' u hus
     have hfg2 : (f[u])[v]'(by omega) = v2 f u v := j27 _ _
     have hsg2 : (s[u])[v]'(by omega) = v2 s u v := j27 _ _
     by_cases hx : v2 f u v = a
     · by_cases hy : v2 s u v = b
       · simp [ha, hb, has, hfr, hsr, hfg, hsg, hf2, hs2, hus, hfu, hsu, hfg2, hsg2, hx, hy]
         refine ⟨by omega, fun y hyb => ?_⟩
         rcases Nat.lt_or_ge y b with h3 | h3
         · exact h2 y h3
         · have : y = b := by omega
           subst this
           exact hiv.2 ⟨hx, hy⟩
       · have hn : ¬ isInv f s := fun hh => hy (hiv.1 (hh a ha b hb)).2
         simp [ha, hb, has, hfr, hsr, hfg, hsg, hf2, hs2, hus, hfu, hsu, hfg2, hsg2, hx, hy, j0v hn]
     · have hn : ¬ isInv f s := fun hh => hx (hiv.1 (hh a ha b hb)).1
       simp [ha, hb, has, hfr, hsr, hfg, hsg, hf2, hs2, hfu, hfg2, hx, j0v hn, j00]
   · rintro e ⟨h2, rfl⟩
     simp
     refine ⟨by omega, fun x hx y hy => ?_⟩
     rcases Nat.lt_or_ge x a with h3 | h3
     · exact h1 x h3 y hy
     · have : x = a := by omega
       subst this
       exact h2 y hy
 · rintro e ⟨h1, rfl⟩
   have hn : isInv f s := fun x hx y hy => h1 x hx y hy
   simp [j1f hn]


end Go.Mch
