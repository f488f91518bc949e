/- Our texts YfA YgA YfC YfD YfE YfB YfF YfG YfH YfI YfJ YfK YfL YfM YfN YfO YfP YfX YfY YfQ YfR YfV YfZ YfW YgB YgC YgF YgE YgG YfS YfT YgI YgY YjC YjI YjJ YjK YjL YlA YlJ YgQ YgV YgJ YgK YgW YgZ YgP YjM YjO YjP YjQ YjD YjE, end to end. -/
import Derived.Test.YtpaklggigidikaaGreatYeA
import Derived.Test.YtpaklggigidikaaGreatM4
import Derived.ProofKit
import Derived.OpenShut
import Derived.JoinedCond
import Derived.WideKeyArgs
import Derived.Test.YtpaklggigidikaaGreatYeB
import Derived.Test.YtpaklggigidikaaGreatM1
import Derived.Test.YtpaklggigidikaaGreatYeC
import Derived.Test.YtpaklggigidikaaGreatYeE
import Derived.Test.YtpaklggigidikaaGreatYeG
namespace Go.Mch

abbrev nil : T := .sc (.slice none 0 0)

inductive Rw (α : Type) where
 | no
 | odd (a : Addr)
 | of (l : List α)

def lst {α : Type} : Rw α → List α
 | .of l => l
 | _ => []
def lso {α : Type} (o : Option (List α)) : List α := o.getD []
def Rw.ofO {α : Type} : Option (List α) → Rw α
 | none => .no
 | some l => .of l

def rawI : Rw Int → T
 | .no => nil
 | .odd a => .sc (.slice (some a) 0 0)
 | .of xs => .mem .old (some 1) (xs.map I)

@[simp] theorem lst_of {α : Type} (l : List α) : lst (.of l) = l := rfl
@[simp] theorem lst_no {α : Type} : lst (.no : Rw α) = [] := rfl
@[simp] theorem lst_odd {α : Type} (a : Addr) : lst (.odd a : Rw α) = [] := rfl
@[simp] theorem lso_some {α : Type} (l : List α) : lso (some l) = l := rfl
@[simp] theorem lso_none {α : Type} : lso (none : Option (List α)) = [] := rfl
@[simp] theorem lst_ofO {α : Type} (o : Option (List α)) : lst (Rw.ofO o) = lso o := by cases o <;> rfl

@[simp] theorem noOwnL_mapI (xs : List Int) : T.j0l (xs.map I) = true := by
 induction xs with
 | nil => rfl
 | cons x xs ih => simp [ih]
@[simp] theorem eryL_mapI (k : K) (xs : List Int) : T.eryL k (xs.map I) = xs.map I := by
 induction xs with
 | nil => rfl
 | cons x xs ih => simp [ih]
@[simp] theorem noOldL_mapI (xs : List Int) : T.j5t (xs.map I) = true := by
 induction xs with
 | nil => rfl
 | cons x xs ih => simp [ih]
@[simp] theorem lendL_mapI (xs : List Int) : T.j1t (xs.map I) = xs.map I := by
 induction xs with
 | nil => rfl
 | cons x xs ih => simp [ih]
@[simp] theorem rawI_noOwn (a : Rw Int) : (rawI a).j0r = true := by cases a <;> simp [rawI]
@[simp] theorem rawI_peek (a : Rw Int) (n : Nat) (p : List Nat) : (rawI a).peek n p = .val (rawI a) := by cases a <;> rfl
@[simp] theorem rawI_ery (a : Rw Int) : (rawI a).ery .old = rawI a := by cases a <;> simp [rawI]
@[simp] theorem rawI_len (a : Rw Int) : lenV (.val (rawI a)) = some (lst a).length := by cases a <;> simp [rawI]
@[simp] theorem rawI_idx (a : Rw Int) (i : Int) : idxV 1 (.val (rawI a)) i = if 0 ≤ i ∧ i < ((lst a).length : Int) then some (.val (.mem .old none (win ((lst a).map I) (i.toNat * 1) 1))) else none := by
 cases a with
 | no =>
  simp only [rawI, idxV, lst_no, List.length_nil, List.map_nil]
  rw [if_neg]
  omega
 | odd ad =>
  simp only [rawI, idxV, lst_odd, List.length_nil, List.map_nil]
  rw [if_neg]
  omega
 | of xs => simp [rawI]
def rawT : Rw (Rw Int) → T
 | .no => nil
 | .odd a => .sc (.slice (some a) 0 0)
 | .of rs => .mem .old (some 1) (rs.map rawI)
@[simp] theorem noOwnL_mapR (rs : List (Rw Int)) : T.j0l (rs.map rawI) = true := by
 induction rs with
 | nil => rfl
 | cons x xs ih => simp [ih]
@[simp] theorem eryL_mapR (rs : List (Rw Int)) : T.eryL .old (rs.map rawI) = rs.map rawI := by
 induction rs with
 | nil => rfl
 | cons x xs ih => simp [ih]
@[simp] theorem rawT_noOwn (a : Rw (Rw Int)) : (rawT a).j0r = true := by cases a <;> simp [rawT]
@[simp] theorem rawT_peek (a : Rw (Rw Int)) (n : Nat) (p : List Nat) : (rawT a).peek n p = .val (rawT a) := by cases a <;> rfl
@[simp] theorem rawT_ery (a : Rw (Rw Int)) : (rawT a).ery .old = rawT a := by cases a <;> simp [rawT]
@[simp] theorem rawT_len (a : Rw (Rw Int)) : lenV (.val (rawT a)) = some (lst a).length := by cases a <;> simp [rawT]
@[simp] theorem rawT_idx (a : Rw (Rw Int)) (i : Int) : idxV 1 (.val (rawT a)) i = if 0 ≤ i ∧ i < ((lst a).length : Int) then some (.val (.mem .old none (win ((lst a).map rawI) (i.toNat * 1) 1))) else none := by
 cases a with
 | no =>
  simp only [rawT, idxV, lst_no, List.length_nil, List.map_nil]
  rw [if_neg]
  omega
 | odd ad =>
  simp only [rawT, idxV, lst_odd, List.length_nil, List.map_nil]
  rw [if_neg]
  omega
 | of xs => simp [rawT]
@[simp] theorem rawT_cells (a : Rw (Rw Int)) : (rawT a).cells = [rawT a] := by cases a <;> rfl
@[simp] theorem rawT_isCell (a : Rw (Rw Int)) : (rawT a).j01 = true := by cases a <;> rfl
@[simp] theorem rawI_isCell (a : Rw Int) : (rawI a).j01 = true := by cases a <;> rfl

theorem j0e {G : Rl} {d : Option Nat} {k : Env → Prop} {e : Env} {args : List (Opd × Mode)} {id : Nat} {caps ts : List T} {r : T} (hc : G id (ts ++ T.eryL .old caps) (ts ++ T.eryL .old caps) r) (hall : args.all (fun x => x.2 == .r) = true) (hlen : args.length = ts.length)
 (hold : e.j6p args = true → r.noOld = true) (hk : k (e.setD d (.val r))) : callP G d k e args id caps ts := by
 refine ⟨ts, r, hc, rfl, fun h => ⟨hold h, hall⟩, ?_⟩
 have : ∀ (xs : List (Opd × Mode)) (us : List T), xs.all (fun x => x.2 == .r) = true → xs.length = us.length → e.back xs us = some e := by
  intro xs
  induction xs with
  | nil => intro us _ h; cases us with | nil => rfl | cons => simp at h
  | cons x xs ih =>
   intro us h h2
   obtain ⟨x, md⟩ := x
   simp only [List.all_cons, Bool.and_eq_true, beq_iff_eq] at h
   obtain ⟨rfl, h⟩ := h
   cases us with
   | nil => simp at h2
   | cons u us => simp only [Env.back]; exact ih us (by simpa using h) (by simpa using h2)
 rw [this args ts hall hlen]
 exact ⟨e, rfl, hk⟩

theorem take_len {α : Type} (l : List α) {n : Nat} (h : l.length ≤ n) : l.take n = l := List.take_of_length_le h
@[simp] theorem take_map_len {α β : Type} (l : List α) (f : α → β) : List.take l.length (l.map f) = l.map f := List.take_of_length_le (by simp)

theorem callM {G : Rl} {d : Option Nat} {k : Env → Prop} {e : Env} {gs : List Bool} {ks : List Nat} {id : Nat} {caps : List T} {vs : List V} {y : List T × Env} {ts' : List T} {r : T} (hh : y.2.holes vs gs = true) (hc : G id (T.j1t y.1 ++ T.eryL .old caps) (ts' ++ T.eryL .old caps) r)
 (hl : ts'.length = y.1.length) (hk : j0c (y.2.gives vs gs ts') fun e2 => j0c (e.j6s y.2 e2 vs gs ks) fun e3 => k (e3.setD d (.val r))) : callmP G d k e gs ks id caps vs y := ⟨hh, ts', r, hc, hl, hk⟩


def S_toI (pg : Pg) : Prop := ∀ a : Rw Int, (lst a).length ≤ 1048576 → Call pg 7 [rawI a] [rawI a] (ints .own (lst a))
theorem S_toI.at {pg : Pg} (h : S_toI pg) (a : Rw Int) (hl : (lst a).length ≤ 1048576) : Call pg 7 [rawI a] [rawI a] (.mem .own (some 1) ((lst a).map I)) := h a hl

def rows (xss : List (List Int)) : List T := xss.map fun xs => .mem .own (some 1) (xs.map I)
@[simp] theorem rows_length (xss : List (List Int)) : (rows xss).length = xss.length := by simp [rows]

@[simp] theorem noOldL_rows (xss : List (List Int)) : T.j5t (rows xss) = true := by
 induction xss with
 | nil => rfl
 | cons x xs ih => simp only [rows, List.map_cons] at ih ⊢; simp [ih]
@[simp] theorem lendL_rows (xss : List (List Int)) : T.j1t (rows xss) = rows xss := by
 induction xss with
 | nil => rfl
 | cons x xs ih => simp only [rows, List.map_cons] at ih ⊢; simp [ih]
abbrev ix (xs : List Int) : T := .mem .old (some 1) (xs.map I)
def tbL (xss : List (List Int)) : List T := xss.map fun xs => ix xs
abbrev tb (xss : List (List Int)) : T := .mem .old (some 1) (tbL xss)
@[simp] theorem tbL_length (xss : List (List Int)) : (tbL xss).length = xss.length := by simp [tbL]
@[simp] theorem noOwnL_tbL (xss : List (List Int)) : T.j0l (tbL xss) = true := by
 induction xss with
 | nil => rfl
 | cons x xs ih => simp only [tbL, List.map_cons] at ih ⊢; simp [ih]
@[simp] theorem eryL_tbL (xss : List (List Int)) : T.eryL .old (tbL xss) = tbL xss := by
 induction xss with
 | nil => rfl
 | cons x xs ih => simp only [tbL, List.map_cons] at ih ⊢; simp [ih]
@[simp] theorem eryL_rows (xss : List (List Int)) : T.eryL .old (rows xss) = tbL xss := by
 induction xss with
 | nil => rfl
 | cons x xs ih => simp only [rows, tbL, List.map_cons] at ih ⊢; simp [ih]
theorem rawT_tb (xss : List (List Int)) : rawT (.of (xss.map .of)) = tb xss := by simp [rawT, tbL, rawI]
theorem j6a (xss : List (List Int)) (j : Nat) : (rows xss)[j]? = (xss[j]?).map fun xs => .mem .own (some 1) (xs.map I) := by simp [rows]
@[simp] theorem rows_getElem (xss : List (List Int)) (j : Nat) (h : j < (rows xss).length) : (rows xss)[j] = .mem .own (some 1) ((xss[j]'(by simpa using h)).map I) := by simp [rows]

def small (a : Rw (Rw Int)) : Prop := (lst a).length ≤ 1048576 ∧ ∀ r ∈ lst a, (lst r).length ≤ 1048576


def sz1 (r : Rw Int) (l : Int) : Int := if l - ((lst r).length : Int) < 0 then -1 else l - ((lst r).length : Int)

def S_eqI (pg : Pg) : Prop := ∀ a b : Rw Int, (lst a).length ≤ 1048576 → Call pg 9 [rawI a, rawI b] [rawI a, rawI b] (B (decide (lst a = lst b)))
def S_eqT (pg : Pg) : Prop := ∀ a b : Rw (Rw Int), small a → Call pg 21 [rawT a, rawT b] [rawT a, rawT b] (B (decide ((lst a).map lst = (lst b).map lst)))
def S_eqRack (pg : Pg) : Prop := ∀ a b : Rw (Rw Int), small a → Call pg 10 [.agg [rawT a], .agg [rawT b]] [.agg [rawT a], .agg [rawT b]] (B (decide ((lst a).map lst = (lst b).map lst)))
def S_eqSol (pg : Pg) : Prop := ∀ a b c d : Rw (Rw Int), small a → small b → Call pg 18 [.agg [rawT a, rawT b], .agg [rawT c, rawT d]] [.agg [rawT a, rawT b], .agg [rawT c, rawT d]] (B (decide ((lst a).map lst = (lst c).map lst ∧ (lst b).map lst = (lst d).map lst)))
end Go.Mch
namespace Go.Mch

abbrev okCl : K → Nat → Prop := fun k _ => k = .old

theorem repL_of {fm : Nat → Nat} {ok : K → Nat → Prop} {w : World} {g : Nat → Value} : ∀ (ts : List T) (i : Nat), (∀ j (h : j < ts.length), rep fm ok w (g (i + j)) ts[j]) → repL fm ok w g i ts
 | [], _, _ => trivial
 | t :: ts, i, h => ⟨h 0 (by simp), repL_of ts (i + 1) fun j hj => by
     have := h (j + 1) (by simpa using hj)
     simpa [show i + 1 + j = i + (j + 1) from by omega] using this⟩

theorem run_true {P : Program} {fm : Nat → Nat} {f : Nat} {args args' : List T} (h : Pact P fm f args args' (B true)) (hno : T.j0l args = true) {w : World} {vs : Array Value} (hs : vs.size = args.length)
 (hrep : ∀ s t, args[s]? = some t → rep fm okCl w (vs.getD s undef) t) :
 Calls P (fm f) vs w fun e w' => e = .returned (.bool true) ∧ Keeps (fun _ => False) w w' := by
 have hA : ∀ b, (fun _ => False : Nat → Prop) b → b < w.heap.size := fun _ h => h.elim
 have hc : ∀ s t, init args s = some (.val t) → ∀ b, cnt w (vs.getD s undef) b t = 0 := by
  intro s t ht b
  obtain ⟨u, h1, h2⟩ := j5u ht
  cases h2
  exact j2c _ _ _ _ (j61 hno h1)
 have hR : R (cx0 fm w (fun _ => False) (fun _ => False) hA) (init args) (fun s => vs.getD s undef) w := by
  refine ⟨Keeps.refl _ _, ⟨fun _ => 0, fun s t ht b => ?_⟩, fun s x hx => ?_⟩
  · rw [hc s t ht b]; simp
  · obtain ⟨t, h1, rfl⟩ := j5u hx
    refine .inl ⟨t, rfl, rep_ok (fun k b _ _ hk => ?_) t _ (fun b hb _ _ => ?_) (hrep s t h1)⟩
    · cases hk
      refine ⟨id, by simp, by simp, fun _ => ⟨?_, id⟩⟩
      rintro ⟨s', t', h3, h4⟩
      rw [hc s' t' h3 b] at h4
      omega
    · have h5 := hc s t hx b
      omega
 refine (h.2 w vs _ _ hA hs (fun _ _ hm => hm) hR).mono fun e w' hb => ?_
 cases e with
 | returned v =>
  obtain ⟨q, e', vl', _, h2, _, h4, _⟩ := hb
  refine ⟨?_, h2.keeps⟩
  have h5 := h2.rep q (.val (B true)) (by simp [Env.add])
  rcases h5 with ⟨t, h6, h7⟩ | h7
  · cases h6
    simp only [rep] at h7
    rw [← h4, h7.1]
  · simp only [arep, rep] at h7
    rw [← h4, h7.2.1]
 | _ => exact hb.elim

theorem Keeps.but {w w' : World} (h : Keeps (fun _ => False) w w') (may : MemPlace → Prop) : w.keptBut w' may := by
 refine ⟨h.os, h.output, fun i hi => ?_⟩
 rw [h.block i hi id]
 exact (World.keptBut_refl w may).2.2 i hi

theorem Keeps.at {w w' : World} (h : Keeps (fun _ => False) w w') {p : MemPlace} (hp : p.block < w.heap.size) : w.sameAt w' p := by
 cases p with
 | cell b off => exact World.cell?_of_block (a := ⟨b, off, none⟩) (h.block b hp id)
 | map b => exact h.block b hp id


section
variable {H : Type} {enc : TypeId × Value → H} {P : Program} {w : World} {base : Nat} {sp : Nat → Bool} {held : Bool} {fm : Nat → Nat}

theorem each {α : Type} {Q : Nat → α → Prop} : ∀ (n : Nat), (∀ i, i < n → ∃ z, Q i z) → ∃ zs : List α, zs.length = n ∧ ∀ i (h : i < zs.length), Q i zs[i]
 | 0, _ => ⟨[], rfl, fun i h => by simp at h⟩
 | n + 1, h => by
  obtain ⟨zs, h1, h2⟩ := each n fun i hi => h i (by omega)
  obtain ⟨z, hz⟩ := h n (by omega)
  refine ⟨zs ++ [z], by simp [h1], fun i hi => ?_⟩
  rcases Nat.lt_or_ge i zs.length with hl | hl
  · rw [List.getElem_append_left hl]; exact h2 i hl
  · have : i = n := by simp at hi; omega
    subst this
    rw [List.getElem_append_right hl]
    simp [h1, hz]

theorem open_raw {t e : TypeId} {fuel : Nat} {cs : List Value} {x : DataW H × List MemPlace} (ht : P.underlying t = some (.slice e)) (hc : P.cellsOf e = 1)
 (h : DataW.trod enc P w base (fun _ => true) held fuel t cs = some x) :
 (cs = [.slice none 0 0] ∧ x.1 = .nil) ∨ (∃ a, cs = [.slice (some a) 0 0] ∧ x.1 = .slice [] []) ∨
 ∃ b off len cap ds rest n, cs = [.slice (some ⟨b, off, none⟩) len cap] ∧ len ≤ cap ∧ x.1 = .slice ds rest ∧ ds.length = len ∧
  ∀ i, i < len → ∃ c y, w.cell? ⟨b, off + i, none⟩ = some c ∧ DataW.trod enc P w base (fun _ => true) held n e [c] = some y ∧ ds[i]? = some y.1 := by
 rcases DataW.trod_slice ht h with ⟨h1, rfl⟩ | ⟨a, len, cap, elems, rest, n, _, rfl, rfl, hb, hl, _, hlen, hel, hsp, _⟩
 · exact .inl ⟨h1, rfl⟩
 right
 obtain ⟨hr1, hr2⟩ := hsp rfl
 have cell : ∀ a' y, (w.cells? base a' (P.cellsOf e)).bind (DataW.trod enc P w base (fun _ => true) held n e) = some y → ∃ c, w.cell? a' = some c ∧ DataW.trod enc P w base (fun _ => true) held n e [c] = some y := by
  intro a' y hy
  rw [hc, Option.bind_eq_some_iff] at hy
  obtain ⟨c1, h1, h2⟩ := hy
  have h3 := (World.cells?_some h1).2.1
  match c1, h3 with
  | [c], _ => exact ⟨c, Go.ChangeShapes.cell_of_cells?_one h1, h2⟩
 by_cases hz : cap = 0
 · subst hz
   have h0 : len = 0 := by omega
   subst h0
   have h1 : elems = [] := List.eq_nil_of_length_eq_zero hlen
   have h2 : rest = [] := List.eq_nil_of_length_eq_zero (by simpa using hr1)
   subst h1 h2
   exact .inl ⟨a, rfl, rfl⟩
 right
 have hspot : a.spot = none := by
  by_cases h0 : 0 < len
  · have h1 : 0 < elems.length := by omega
    have := hel 0 h0
    rw [List.getElem?_eq_getElem h1] at this
    obtain ⟨c, hc1, _⟩ := cell _ _ this
    simp only [Nat.zero_mul] at hc1
    have := World.cell?_spot hc1
    simpa [Addr.add] using this
  · have h1 : 0 < rest.length := by omega
    have := hr2 0 (by omega)
    rw [List.getElem?_eq_getElem h1] at this
    obtain ⟨c, hc1, _⟩ := cell _ _ this
    have h2 := World.cell?_spot hc1
    simpa [Addr.add, show len = 0 from by omega] using h2
 obtain ⟨b, off, spot⟩ := a
 simp only at hspot
 subst hspot
 refine ⟨b, off, len, cap, elems.map (·.1), rest.map (·.1), n, rfl, hl, rfl, by simpa using hlen, fun i hi => ?_⟩
 have h1 : i < elems.length := by omega
 have h2 := hel i hi
 rw [List.getElem?_eq_getElem h1] at h2
 obtain ⟨c, h3, h4⟩ := cell _ _ h2
 refine ⟨c, elems[i], ?_, h4, by simp [h1]⟩
 rw [hc, Nat.mul_one] at h3
 rw [← Go.WideShapes.add_plain]; exact h3

theorem rep_slice {b off len cap : Nat} {us : List T} (hlen : us.length = len) (hl : len ≤ cap) (hno : T.j0l us = true) (h : ∀ i (hi : i < us.length), ∃ c, w.cell? ⟨b, off + i, none⟩ = some c ∧ rep fm okCl w c us[i]) :
 rep fm okCl w (.slice (some ⟨b, off, none⟩) len cap) (.mem .old (some 1) us) := by
 rw [j0u]
 refine ⟨⟨⟨len, rfl, by simp [hlen], by simp, hl⟩, fun i hi => ?_⟩, fun _ => rfl, by simp, fun _ => hno, ?_⟩
 · obtain ⟨c, hc, _⟩ := h i hi
   simp only [blk, ofs]
   rw [hc]; rfl
 · refine repL_of us 0 fun j hj => ?_
   obtain ⟨c, hc, hr⟩ := h j hj
   simp only [kid, Nat.zero_add]
   rw [hc]
   exact hr

structure Bulk (m : DataW H → Nat) : Prop where
 slice : ∀ es rest, es.length ≤ m (.slice es rest)
 elem : ∀ es rest d, d ∈ es → m d ≤ m (.slice es rest)
 part : ∀ ps d, d ∈ ps → m d ≤ m (.agg ps)


theorem all_stays {W W' : World} {sp' : Nat → Bool} (hl : laidOutB P = true) : ∀ {ts : List TypeId} {vs : List Value} {ds : List (DataW H)} {ps : List MemPlace}, (∀ t ∈ ts, P.readableRec t = true ∧ t < P.types.size) →
 DataW.TrodAll enc P W 0 (fun _ => true) true ts vs ds ps → (∀ p ∈ ps, W.sameAt W' p) → (∀ p ∈ ps, sp' p.block = true) → DataW.TrodAll enc P W' 0 sp' true ts vs ds ps
 | [], vs, ds, ps, _, h, _, _ => by
  obtain ⟨rfl, rfl, rfl⟩ := Go.ChangeShapes.trodAll_nil h
  rfl
 | t :: ts, vs, ds, ps, ht, h, h1, h2 => by
  obtain ⟨v, vs', d, ds', p, q, rfl, rfl, rfl, h3, h4⟩ := Go.ChangeShapes.trodAll_cons h
  exact ⟨p, q, Go.WideElems.Trod_stays hl (ht t (by simp)).1 (ht t (by simp)).2 h3 (fun x hx => h1 x (by simp [hx])) (fun x hx => h2 x (by simp [hx])),
   all_stays hl (fun t' h' => ht t' (by simp [h'])) h4 (fun x hx => h1 x (by simp [hx])) (fun x hx => h2 x (by simp [hx])), rfl⟩

theorem post_true {f : Func} {s : ChangeSpec} {W W' : World} {args : Array Value} {ds gs : List (DataW H)} {before : List MemPlace} {rt : TypeId} (hW : DataW.Whole enc P f.params.toList s.vars false W args.toList ds gs before) (hK : Keeps (fun _ => False) W W')
 (hv : s.vars = []) (hres : f.resultTypes = #[rt]) (hrt : P.underlying rt = some .bool) (hl : laidOutB P = true) (hr : ∀ t ∈ f.params.toList, P.readableRec t = true ∧ t < P.types.size)
 (hfn : s.fn H ds = { results := [.lit (.bool true)], args := ds }) : s.post enc P f false true false false W args (.bool true) W' := by
 have hlt := hW.lt
 have hW' := hW
 obtain ⟨p, q, hA, hV, rfl, _, _⟩ := hW
 rw [hv] at hV
 have hg : gs = [] ∧ q = [] := by
  cases gs with
  | nil => exact ⟨rfl, by simpa [DataW.TrodVars] using hV⟩
  | cons d ds => simp [DataW.TrodVars] at hV
 obtain ⟨rfl, rfl⟩ := hg
 simp only [List.append_nil] at hlt
 refine ⟨ds, [], p ++ [], [], p, [], hW', ?_, ?_, ?_, hK.but _, by simp⟩
 · rw [List.append_nil, hfn, hres]
   refine ⟨[], [], ⟨1, ?_⟩, rfl, rfl⟩
   simp [DataW.trod, hrt, Value.cells]
 · rw [List.append_nil, hfn]
   exact all_stays hl hr hA (fun x hx => hK.at (hlt x hx)) (fun x hx => by simpa using hlt x hx)
 · rw [List.append_nil, hfn, hv]
   rfl
end
end Go.Mch
namespace Go.Mch

def S_in (pg : Pg) (f : Nat) : Prop := ∀ n lo hi : Int, Call pg f [I n, I lo, I hi] [I n, I lo, I hi] (B (decide (lo ≤ n ∧ n ≤ hi)))
theorem t_l01In {pg : Pg} (hp : pg.fn 30 = some j5p) : S_in pg 30 := by
 intro n lo hi
 refine Call.intro hp rfl (by simp) ?_
 show wp _ _ j5p.body (post [.t 6] _ _ _) _
 by_cases h1 : lo ≤ n
 · by_cases h2 : n ≤ hi <;> simp [j5p, h1, h2]
 · simp [j5p, h1, j03]
theorem t_within {pg : Pg} (hp : pg.fn 35 = some j4x) : S_in pg 35 := by
 intro n lo hi
 refine Call.intro hp rfl (by simp) ?_
 show wp _ _ j4x.body (post [.t 6] _ _ _) _
 by_cases h1 : lo ≤ n
 · by_cases h2 : n ≤ hi <;> simp [j4x, h1, h2]
 · simp [j4x, h1, j03]

def S_own (pg : Pg) : Prop := ∀ xs : List Int, xs.length ≤ 1048576 → Call pg 31 [ix xs] [ix xs] (.mem .own (some 1) (xs.map I))
theorem t_own {pg : Pg} (hp : pg.fn 31 = some j5z) : S_own pg := by
 intro xs hl
 refine Call.intro hp rfl (by simp) ?_
 show wp _ _ j5z.body (post [.t 2] _ _ _) _
 simp [j5z, roomy]
 omega

def ixOf : List Int → Int → Int
 | [], _ => -1
 | x :: xs, n => if x = n then 0 else if ixOf xs n < 0 then -1 else ixOf xs n + 1
theorem ixOf_le : ∀ (xs : List Int) (n : Int), -1 ≤ ixOf xs n ∧ ixOf xs n < xs.length
 | [], n => by simp [ixOf]
 | x :: xs, n => by
  have := ixOf_le xs n
  unfold ixOf
  simp only [List.length_cons]
  split
  · omega
  · split <;> omega
theorem ixOf_mem : ∀ (xs : List Int) (n : Int), 0 ≤ ixOf xs n ↔ n ∈ xs
 | [], n => by simp [ixOf]
 | x :: xs, n => by
  have := ixOf_mem xs n
  have h2 := ixOf_le xs n
  unfold ixOf
  by_cases h : x = n
  · subst h; simp
  · rw [if_neg h]
    split
    · rename_i h3
      simp only [List.mem_cons]
      constructor
      · intro h4; omega
      · intro h4
        rcases h4 with h4 | h4
        · exact (h h4.symm).elim
        · have := this.2 h4; omega
    · rename_i h3
      simp only [List.mem_cons]
      exact ⟨fun _ => .inr (this.1 (by omega)), fun _ => by omega⟩
theorem ixOf_at : ∀ {xs : List Int} {n : Int} {k : Nat} (hk : k < xs.length), (∀ i (h : i < k), xs[i] ≠ n) → xs[k] = n → ixOf xs n = k
 | x :: xs, n, 0, _, _, h => by simp at h; simp [ixOf, h]
 | x :: xs, n, k + 1, hk, h1, h2 => by
  have h0 := h1 0 (by omega)
  simp only [List.getElem_cons_zero] at h0
  have := ixOf_at (xs := xs) (n := n) (k := k) (by simpa using hk) (fun i hi => by
   have := h1 (i + 1) (by omega)
   simpa using this) (by simpa using h2)
  unfold ixOf
  rw [if_neg h0, this, if_neg (by omega)]
  omega
theorem ixOf_none {xs : List Int} {n : Int} (h : ∀ i (h : i < xs.length), xs[i] ≠ n) : ixOf xs n = -1 := by
 have h1 := ixOf_le xs n
 have h2 : ¬ 0 ≤ ixOf xs n := fun hh => by
  obtain ⟨i, hi, he⟩ := List.getElem_of_mem ((ixOf_mem xs n).1 hh)
  exact h i hi he
 omega

def S_index (pg : Pg) : Prop := ∀ (xs : List Int) (n : Int), xs.length ≤ 1048576 → Call pg 69 [ix xs, I n] [ix xs, I n] (I (ixOf xs n))
theorem t_index {pg : Pg} (hp : pg.fn 69 = some j4q) : S_index pg := by
 intro xs n hl
 refine Call.intro hp rfl (by simp) ?_
 show wp _ _ j4q.body (post [.t 4] _ _ _) _
 simp [j4q]
 refine j0a (fun k e => (∀ i (h : i < xs.length), i < k → xs[i] ≠ n) ∧ e = fr [(0, some (.val (ix xs))), (1, some (.val (I n))), (5, some (.val (I k)))]) xs.length ?_ ?_ 0 _ (by omega) ?_
 · rintro k e hk ⟨h1, rfl⟩
   by_cases hx : xs[k] = n
   · simp [hk, hx]
     exact (ixOf_at hk (fun i hi => h1 i (by omega) hi) hx).symm
   · simp [hk, hx]
     refine ⟨by omega, fun i hi hik => ?_⟩
     rcases Nat.lt_or_ge i k with h2 | h2
     · exact h1 i hi h2
     · have : i = k := by omega
       subst this; exact hx
 · rintro e ⟨h1, rfl⟩
   simp
   exact (ixOf_none fun i hi => h1 i hi hi).symm
 · simp

def S_has (pg : Pg) : Prop := ∀ (xs : List Int) (n : Int), xs.length ≤ 1048576 → Call pg 62 [ix xs, I n] [ix xs, I n] (B (decide (n ∈ xs)))
theorem t_has {pg : Pg} (hp : pg.fn 62 = some j50) (h69 : S_index pg) : S_has pg := by
 intro xs n hl
 refine Call.intro hp rfl (by simp) ?_
 show wp _ _ j50.body (post [.t 4] _ _ _) _
 simp [j50]
 refine j0e (h69 xs n hl) rfl rfl (fun _ => rfl) ?_
 simp [ixOf_mem]


def Tab (t : List (List Int)) : Prop := ∀ r ∈ t, r.length = t.length ∧ ∀ v ∈ r, 0 ≤ v ∧ v < t.length

def j4z (t : List (List Int)) : Prop := 1 ≤ t.length ∧ t.length ≤ 12 ∧ Tab t

instance (t : List (List Int)) : Decidable (Tab t) := by unfold Tab; infer_instance
instance (t : List (List Int)) : Decidable (j4z t) := by unfold j4z; infer_instance

def S_table (pg : Pg) (f : Nat) : Prop := ∀ t : List (List Int), t.length ≤ 1048576 → (∀ r ∈ t, r.length ≤ 1048576) → Call pg f [tb t] [tb t] (B (decide (j4z t)))

@[simp] theorem tbL_getElem {t : List (List Int)} {k : Nat} (h : k < (tbL t).length) : (tbL t)[k] = ix (t[k]'(by simpa using h)) := by simp [tbL]

theorem t_l01Table {pg : Pg} (hp : pg.fn 46 = some j4o) (h30 : S_in pg 30) : S_table pg 46 := by
 intro t hl hr
 refine Call.intro hp rfl (by simp) ?_
 show wp _ _ j4o.body (post [.t 2] _ _ _) _
 simp [j4o]
 refine j0e (h30 _ 1 12) rfl rfl (fun _ => rfl) ?_
 by_cases hn : 1 ≤ t.length ∧ t.length ≤ 12
 · have hn' : (1 : Int) ≤ t.length ∧ (t.length : Int) ≤ 12 := by omega
   simp [hn']
   refine j0a (fun k e => (∀ i (h : i < t.length), i < k → t[i].length = t.length ∧ ∀ v ∈ t[i], 0 ≤ v ∧ v < t.length) ∧ e = fr [(0, some (.val (tb t))), (3, some (.val (I t.length))), (4, some (.val (I k)))]) t.length ?_ ?_ 0 _ (by omega) ?_
   · rintro k e hk ⟨h1, rfl⟩
     by_cases hlen : t[k].length = t.length
     · simp [hk, hlen]
       refine j0a (fun j e => (∀ i (h : i < t[k].length), i < j → 0 ≤ t[k][i] ∧ t[k][i] < t.length) ∧ e = fr [(0, some (.val (tb t))), (3, some (.val (I t.length))), (4, some (.val (I k))), (5, some (.val (I j)))]) t.length ?_ ?_ 0 _ (by omega) ?_
       · rintro j e hj ⟨h2, rfl⟩
         have hj2 : j < t[k].length := by omega
         simp [hk, hj, hj2]
         refine ⟨by omega, ?_⟩
         refine j0e (h30 _ 0 _) rfl rfl (fun _ => rfl) ?_
         by_cases hv : 0 ≤ t[k][j] ∧ t[k][j] ≤ (t.length : Int) - 1
         · simp [hv]
           refine ⟨by omega, fun i hi hij => ?_⟩
           rcases Nat.lt_or_ge i j with h3 | h3
           · exact h2 i hi h3
           · have : i = j := by omega
             subst this; omega
         · have hvd : ¬ j4z t := fun ht => hv (by
            have := (ht.2.2 t[k] (List.getElem_mem hk)).2 t[k][j] (List.getElem_mem hj2)
            omega)
           simp [hv, hvd]
       · rintro e ⟨h2, rfl⟩
         simp
         refine ⟨by omega, fun i hi hik => ?_⟩
         rcases Nat.lt_or_ge i k with h3 | h3
         · exact h1 i hi h3
         · have : i = k := by omega
           subst this
           refine ⟨hlen, fun v hv => ?_⟩
           obtain ⟨j, hj, rfl⟩ := List.getElem_of_mem hv
           exact h2 j hj (by omega)
       · simp
     · have hvd : ¬ j4z t := fun ht => hlen (ht.2.2 t[k] (List.getElem_mem hk)).1
       have hne : ((t[k].length : Nat) : Int) ≠ t.length := by omega
       simp [hk, hne, hvd]
   · rintro e ⟨h1, rfl⟩
     have : j4z t := ⟨hn.1, hn.2, fun r hr => by
      obtain ⟨i, hi, rfl⟩ := List.getElem_of_mem hr
      exact h1 i hi hi⟩
     simp [this]
   · simp
 · have hvd : ¬ j4z t := fun ht => hn ⟨ht.1, ht.2.1⟩
   have hn' : ¬ ((1 : Int) ≤ t.length ∧ (t.length : Int) ≤ 12) := by omega
   simp [hn', hvd]

end Go.Mch
namespace Go.Mch

def isPerm (p : List Int) : Prop := 1 ≤ p.length ∧ p.length ≤ 12 ∧ ∀ x : Nat, x < p.length → (x : Int) ∈ p
instance (p : List Int) : Decidable (isPerm p) := by unfold isPerm; infer_instance

def S_perm (pg : Pg) (f : Nat) : Prop := ∀ p : List Int, p.length ≤ 1048576 → Call pg f [ix p] [ix p] (B (decide (isPerm p)))

theorem t_l01Perm {pg : Pg} (hp : pg.fn 47 = some j49) (h30 : S_in pg 30) (h62 : S_has pg) : S_perm pg 47 := by
 intro p hl
 refine Call.intro hp rfl (by simp) ?_
 show wp _ _ j49.body (post [.t 2] _ _ _) _
 simp [j49]
 refine j0e (h30 _ 1 12) rfl rfl (fun _ => rfl) ?_
 by_cases hn : 1 ≤ p.length ∧ p.length ≤ 12
 · have hn' : (1 : Int) ≤ p.length ∧ (p.length : Int) ≤ 12 := by omega
   simp [hn']
   refine j0a (fun k e => (∀ x : Nat, x < k → (x : Int) ∈ p) ∧ e = fr [(0, some (.val (ix p))), (3, some (.val (I p.length))), (4, some (.val (I k)))]) p.length ?_ ?_ 0 _ (by omega) ?_
   · rintro k e hk ⟨h1, rfl⟩
     simp [hk]
     refine j0e (h62 p k hl) rfl rfl (fun _ => rfl) ?_
     by_cases hm : (k : Int) ∈ p
     · simp [hm]
       refine ⟨by omega, fun x hx => ?_⟩
       rcases Nat.lt_or_ge x k with h2 | h2
       · exact h1 x h2
       · have : x = k := by omega
         subst this; exact hm
     · have hvd : ¬ isPerm p := fun h => hm (h.2.2 k hk)
       simp [hm, hvd]
   · rintro e ⟨h1, rfl⟩
     have : isPerm p := ⟨hn.1, hn.2, h1⟩
     simp [this]
   · simp
 · have hvd : ¬ isPerm p := fun h => hn ⟨h.1, h.2.1⟩
   have hn' : ¬ ((1 : Int) ≤ p.length ∧ (p.length : Int) ≤ 12) := by omega
   simp [hn', hvd]

def inR (lo hi : Int) (xs : List Int) : Prop := ∀ x ∈ xs, lo ≤ x ∧ x ≤ hi
instance (lo hi : Int) (xs : List Int) : Decidable (inR lo hi xs) := by unfold inR; infer_instance

def S_allWithin (pg : Pg) : Prop := ∀ (xs : List Int) (lo hi : Int), xs.length ≤ 1048576 → Call pg 54 [ix xs, I lo, I hi] [ix xs, I lo, I hi] (B (decide (inR lo hi xs)))
theorem t_allWithin {pg : Pg} (hp : pg.fn 54 = some j39) (h35 : S_in pg 35) : S_allWithin pg := by
 intro xs lo hi hl
 refine Call.intro hp rfl (by simp) ?_
 show wp _ _ j39.body (post [.t 6] _ _ _) _
 simp [j39]
 refine j0a (fun k e => (∀ i (h : i < xs.length), i < k → lo ≤ xs[i] ∧ xs[i] ≤ hi) ∧ e = fr [(1, some (.val (I lo))), (2, some (.val (I hi))), (9, some (.val (ix xs))), (10, some (.val (I xs.length))), (11, some (.val (I k)))]) xs.length ?_ ?_ 0 _ (by omega) ?_
 · rintro k e hk ⟨h1, rfl⟩
   simp [hk]
   refine j0e (h35 _ _ _) rfl rfl (fun _ => rfl) ?_
   by_cases hm : lo ≤ xs[k] ∧ xs[k] ≤ hi
   · simp [hm]
     refine ⟨by omega, fun i hi hik => ?_⟩
     rcases Nat.lt_or_ge i k with h2 | h2
     · exact h1 i hi h2
     · have : i = k := by omega
       subst this; exact hm
   · have hvd : ¬ inR lo hi xs := fun h => hm (h _ (List.getElem_mem hk))
     simp [hm, hvd]
 · rintro e ⟨h1, rfl⟩
   have : inR lo hi xs := fun x hx => by
    obtain ⟨i, hi, rfl⟩ := List.getElem_of_mem hx
    exact h1 i hi hi
   simp [this]
 · simp

def S_areElements (pg : Pg) : Prop := ∀ (n : Int) (xs : List Int), xs.length ≤ 1048576 → 0 ≤ n → n ≤ 1048576 → Call pg 39 [I n, ix xs] [I n, ix xs] (B (decide (inR 0 (n - 1) xs)))
theorem t_areElements {pg : Pg} (hp : pg.fn 39 = some j3m) (h54 : S_allWithin pg) : S_areElements pg := by
 intro n xs hl h1 h2
 refine Call.intro hp rfl (by simp) ?_
 show wp _ _ j3m.body (post [.t 4] _ _ _) _
 simp [j3m]
 refine ⟨by omega, ?_⟩
 refine j0e (h54 _ _ _ hl) rfl rfl (fun _ => rfl) ?_
 simp

def j1z (p : List Int) : Prop := (∀ x ∈ p, 0 ≤ x ∧ x < p.length) ∧ p.Nodup
instance (p : List Int) : Decidable (j1z p) := by unfold j1z; infer_instance

def seenL (p : List Int) (k : Nat) : List T := (List.range p.length).map fun i : Nat => B (decide ((i : Int) ∈ p.take k))
@[simp] theorem seenL_length (p : List Int) (k : Nat) : (seenL p k).length = p.length := by simp [seenL]
theorem seenL_get {p : List Int} {k i : Nat} (h : i < p.length) : (seenL p k)[i]'(by simpa using h) = B (decide ((i : Int) ∈ p.take k)) := by simp [seenL]
theorem seenL_zero (p : List Int) : seenL p 0 = List.replicate p.length (B false) := by
 apply List.ext_getElem
 · simp
 · intro i h1 h2; simp [seenL]
theorem seenL_set {p : List Int} {k i : Nat} (hk : k < p.length) (hi : p[k] = i) : (seenL p k).set i (B true) = seenL p (k + 1) := by
 apply List.ext_getElem
 · simp
 · intro j h1 h2
   simp only [List.getElem_set, seenL, List.getElem_map, List.getElem_range, List.take_succ_eq_append_getElem hk, List.mem_append, List.mem_singleton]
   by_cases h : i = j
   · subst h; simp [hi]
   · rw [if_neg h]
     have : ¬ ((j : Int) = p[k]) := by omega
     simp [this]

theorem nodup_take {p : List Int} {k : Nat} (hk : k < p.length) (h : (p.take k).Nodup) (hm : p[k] ∉ p.take k) : (p.take (k + 1)).Nodup := by
 rw [List.take_succ_eq_append_getElem hk, List.nodup_append]
 refine ⟨h, by simp, fun a ha b hb => ?_⟩
 simp at hb
 subst hb
 intro e; subst e; exact hm ha

def S_isPermuted (pg : Pg) : Prop := ∀ p : List Int, p.length ≤ 1048576 → Call pg 66 [ix p] [ix p] (B (decide (j1z p)))
theorem t_isPermuted {pg : Pg} (hp : pg.fn 66 = some j3y) (h35 : S_in pg 35) : S_isPermuted pg := by
 intro p hl
 refine Call.intro hp rfl (by simp) ?_
 show wp _ _ j3y.body (post [.t 2] _ _ _) _
 simp [j3y]
 refine ⟨by unfold roomy; omega, ?_⟩
 refine j0a (fun k e => (∀ i (h : i < p.length), i < k → 0 ≤ p[i] ∧ p[i] < p.length) ∧ (p.take k).Nodup ∧ e = fr [(0, some (.val (ix p))), (3, some (.val (.mem .own (some 1) (seenL p k)))), (9, some (.val (ix p))), (10, some (.val (I p.length))), (11, some (.val (I k)))]) p.length ?_ ?_ 0 _ (by omega) ?_
 · rintro k e hk ⟨h1, h2, rfl⟩
   simp [hk]
   refine ⟨by omega, ?_⟩
   refine j0e (h35 _ _ _) rfl rfl (fun _ => rfl) ?_
   by_cases hv : 0 ≤ p[k] ∧ p[k] ≤ (p.length : Int) - 1
   · obtain ⟨i, hi⟩ : ∃ i : Nat, p[k] = i := ⟨p[k].toNat, by omega⟩
     have hil : i < p.length := by omega
     have hv' : 0 ≤ p[k] ∧ p[k] ≤ (p.length : Int) - 1 := hv
     rw [hi] at hv'
     by_cases hm : (i : Int) ∈ p.take k
     · have hvd : ¬ j1z p := fun h => by
        have h3 : (p.take (k + 1)).Nodup := h.2.sublist (List.take_sublist _ _)
        rw [List.take_succ_eq_append_getElem hk, List.nodup_append] at h3
        exact h3.2.2 _ hm _ (by simp) hi.symm
       simp [hi, hv', hil, seenL_get, hm, hvd]
     · simp [hi, hv', hil, seenL_get, hm]
       refine ⟨by omega, by omega, fun j hj hjk => ?_, nodup_take hk h2 (by rw [hi]; exact hm), ?_⟩
       · rcases Nat.lt_or_ge j k with h3 | h3
         · exact h1 j hj h3
         · have : j = k := by omega
           subst this; omega
       · rw [seenL_set hk hi]
   · have hvd : ¬ j1z p := fun h => hv (by have := h.1 _ (List.getElem_mem hk); omega)
     simp [hv, hvd, j03]
 · rintro e ⟨h1, h2, rfl⟩
   have : j1z p := ⟨fun x hx => by
    obtain ⟨i, hi, rfl⟩ := List.getElem_of_mem hx
    exact h1 i hi hi, by rwa [List.take_length] at h2⟩
   simp [this]
 · simp [seenL_zero]


def S_indexFunc (pg : Pg) : Prop := ∀ (t : List (List Int)) (P : List Int → Bool) (f : Nat) (caps : List T), t.length ≤ 1048576 → T.eryL .old caps = caps → T.j0l caps = true → (∀ r ∈ t, Call pg f (ix r :: caps) (ix r :: caps) (B (P r))) →
 ∃ r : Int, (0 ≤ r ↔ t.any P = true) ∧ Call pg 70 [tb t, .fn f caps] [tb t, .fn f caps] (I r)
theorem t_indexFunc {pg : Pg} (hp : pg.fn 70 = some j0q) : S_indexFunc pg := by
 intro t P f caps hl hc hno hf
 by_cases hex : ∃ (k : Nat) (hk : k < t.length), (∀ i (h : i < k), P t[i] = false) ∧ P t[k] = true
 · obtain ⟨m, hm, hm1, hm2⟩ := hex
   refine ⟨m, ⟨fun _ => List.any_eq_true.2 ⟨_, List.getElem_mem hm, hm2⟩, fun _ => by omega⟩, Call.intro hp rfl (by simp [hno]) ?_⟩
   show wp _ _ j0q.body (post [.t 4] _ _ _) _
   simp [j0q]
   refine j0a (fun k e => k ≤ m ∧ e = fr [(0, some (.val (tb t))), (1, some (.val (.fn f caps))), (7, some (.val (I t.length))), (8, some (.val (I k)))]) t.length ?_ ?_ 0 _ (by omega) ?_
   · rintro k e hk ⟨h1, rfl⟩
     simp [hk]
     refine j0e (by simpa [hc] using hf t[k] (List.getElem_mem hk)) rfl rfl (fun _ => rfl) ?_
     rcases Nat.lt_or_ge k m with h2 | h2
     · simp [hm1 k h2]
       omega
     · have : k = m := by omega
       subst this
       simp [hm2, hno]
   · rintro e ⟨h1, rfl⟩
     omega
   · simp
 · have hall : ∀ i (h : i < t.length), P t[i] = false := by
    intro i
    induction i using Nat.strongRecOn with
    | _ i ih =>
     intro hi
     cases hv : P t[i] with
     | false => rfl
     | true => exact (hex ⟨i, hi, fun j hj => ih j hj (by omega), hv⟩).elim
   refine ⟨-1, ⟨fun h => by omega, fun h => by
    obtain ⟨r, hr, h2⟩ := List.any_eq_true.1 h
    obtain ⟨i, hi, rfl⟩ := List.getElem_of_mem hr
    rw [hall i hi] at h2; cases h2⟩, Call.intro hp rfl (by simp [hno]) ?_⟩
   show wp _ _ j0q.body (post [.t 4] _ _ _) _
   simp [j0q]
   refine j0a (fun k e => e = fr [(0, some (.val (tb t))), (1, some (.val (.fn f caps))), (7, some (.val (I t.length))), (8, some (.val (I k)))]) t.length ?_ ?_ 0 _ (by omega) ?_
   · rintro k e hk rfl
     simp [hk]
     refine j0e (by simpa [hc] using hf t[k] (List.getElem_mem hk)) rfl rfl (fun _ => rfl) ?_
     simp [hall k hk]
     omega
   · rintro e rfl
     simp [hno]
   · simp

def j5h (pg : Pg) : Prop := ∀ (t : List (List Int)) (P : List Int → Bool) (f : Nat) (caps : List T), t.length ≤ 1048576 → T.eryL .old caps = caps → T.j0l caps = true → (∀ r ∈ t, Call pg f (ix r :: caps) (ix r :: caps) (B (P r))) →
 Call pg 63 [tb t, .fn f caps] [tb t, .fn f caps] (B (t.any P))
theorem t_containsFunc {pg : Pg} (hp : pg.fn 63 = some j0t) (h70 : S_indexFunc pg) : j5h pg := by
 intro t P f caps hl hc hno hf
 obtain ⟨r, h1, h2⟩ := h70 t P f caps hl hc hno hf
 refine Call.intro hp rfl (by simp [hno]) ?_
 show wp _ _ j0t.body (post [.t 4] _ _ _) _
 simp [j0t, hno, hc]
 refine j0e h2 rfl rfl (fun _ => rfl) ?_
 cases h : t.any P with
 | true => simp [h1.2 h, hno]
 | false =>
  have : ¬ 0 ≤ r := fun hh => by rw [h1.1 hh] at h; cases h
  simp [this, hno]

end Go.Mch
namespace Go.Mch

def S_isTable1 (pg : Pg) : Prop := ∀ (r : List Int) (n : Int), r.length ≤ 1048576 → 0 ≤ n → n ≤ 1048576 → Call pg 64 [ix r, .mem .old none [I n]] [ix r, .mem .old none [I n]] (B (decide ((r.length : Int) ≠ n ∨ ¬ inR 0 (n - 1) r)))
theorem t_isTable1 {pg : Pg} (hp : pg.fn 64 = some j3c) (h54 : S_allWithin pg) : S_isTable1 pg := by
 intro r n hl h1 h2
 refine Call.intro hp rfl (by simp) ?_
 show wp _ _ j3c.body (post [.t 3] _ _ _) _
 by_cases hn : (r.length : Int) = n
 · simp [j3c, hn]
   refine ⟨by omega, ?_⟩
   refine j0e (h54 _ _ _ hl) rfl rfl (fun _ => rfl) ?_
   by_cases hr : inR 0 (n - 1) r <;> simp [hr]
 · simp [j3c, hn, j03]

theorem t_isTable {pg : Pg} (hp : pg.fn 50 = some j5f) (h35 : S_in pg 35) (h64 : S_isTable1 pg) (h63 : j5h pg) : S_table pg 50 := by
 intro t hl hr
 refine Call.intro hp rfl (by simp) ?_
 show wp _ _ j5f.body (post [.t 2] _ _ _) _
 simp [j5f]
 refine j0e (h35 _ 1 12) rfl rfl (fun _ => rfl) ?_
 by_cases hn : 1 ≤ t.length ∧ t.length ≤ 12
 · have hn' : (1 : Int) ≤ t.length ∧ (t.length : Int) ≤ 12 := by omega
   simp [hn']
   refine j0e (h63 t (fun r => decide ((r.length : Int) ≠ t.length ∨ ¬ inR 0 ((t.length : Int) - 1) r)) 64 [.mem .old none [I t.length]] hl rfl rfl (fun r hm => h64 r _ (hr r hm) (by omega) (by omega))) rfl rfl (fun _ => rfl) ?_
   simp
   by_cases ht : j4z t
   · simp [ht]
     intro r hm
     have := ht.2.2 r hm
     exact ⟨by omega, fun v hv => by have := this.2 v hv; omega⟩
   · simp [ht]
     rcases Classical.em (∃ x, x ∈ t ∧ (¬ ((x.length : Nat) : Int) = t.length ∨ ¬ inR 0 ((t.length : Int) - 1) x)) with h | h
     · exact h
     · exfalso
       refine ht ⟨hn.1, hn.2, fun r hm => ?_⟩
       have h1 : ((r.length : Nat) : Int) = t.length ∧ inR 0 ((t.length : Int) - 1) r := by
        refine Classical.byContradiction fun h2 => h ⟨r, hm, ?_⟩
        rcases Classical.em (((r.length : Nat) : Int) = t.length) with h3 | h3
        · exact .inr fun h4 => h2 ⟨h3, h4⟩
        · exact .inl h3
       exact ⟨by omega, fun v hv => by have := h1.2 v hv; omega⟩
 · have hvd : ¬ j4z t := fun ht => hn ⟨ht.1, ht.2.1⟩
   have hn' : ¬ ((1 : Int) ≤ t.length ∧ (t.length : Int) ≤ 12) := by omega
   simp [hn', hvd, j03]

def S_permRows1 (pg : Pg) : Prop := ∀ r : List Int, r.length ≤ 1048576 → Call pg 65 [ix r] [ix r] (B (!decide (j1z r)))
theorem t_permRows1 {pg : Pg} (hp : pg.fn 65 = some j1l) (h66 : S_isPermuted pg) : S_permRows1 pg := by
 intro r hl
 refine Call.intro hp rfl (by simp) ?_
 show wp _ _ j1l.body (post [.t 2] _ _ _) _
 simp [j1l]
 refine j0e (h66 _ hl) rfl rfl (fun _ => rfl) ?_
 simp

def j4v (t : List (List Int)) : Prop := ∀ r ∈ t, j1z r
instance (t : List (List Int)) : Decidable (j4v t) := by unfold j4v; infer_instance

def S_permRows (pg : Pg) : Prop := ∀ t : List (List Int), t.length ≤ 1048576 → (∀ r ∈ t, r.length ≤ 1048576) → Call pg 51 [tb t] [tb t] (B (decide (j4v t)))
theorem t_permRows {pg : Pg} (hp : pg.fn 51 = some j1u) (h65 : S_permRows1 pg) (h63 : j5h pg) : S_permRows pg := by
 intro t hl hr
 refine Call.intro hp rfl (by simp) ?_
 show wp _ _ j1u.body (post [.t 2] _ _ _) _
 simp [j1u]
 refine j0e (h63 t (fun r => !decide (j1z r)) 65 [] hl rfl rfl (fun r hm => h65 r (hr r hm))) rfl rfl (fun _ => rfl) ?_
 simp only [j4v]
 cases h : t.any fun r => !decide (j1z r) with
 | true =>
  obtain ⟨r, h1, h2⟩ := List.any_eq_true.1 h
  have : ¬ ∀ r, r ∈ t → j1z r := fun hh => by simp [hh r h1] at h2
  simp [this]
 | false =>
  have : ∀ r, r ∈ t → j1z r := fun r hr => by
   have := List.any_eq_false.1 h r hr
   simpa using this
  simp
  exact decide_eq_true this

def S_same (pg : Pg) : Prop := ∀ a b : List Int, a.length ≤ 1048576 → Call pg 67 [ix a, ix b] [ix a, ix b] (B (decide (a = b)))
theorem t_same {pg : Pg} (hp : pg.fn 67 = some j4c) : S_same pg := by
 intro a b ha
 refine Call.intro hp rfl (by simp) ?_
 show wp _ _ j4c.body (post [.t 4] _ _ _) _
 by_cases hl : a.length = b.length
 · simp [j4c, hl]
   refine j0a (fun k e => (∀ i, i < k → a[i]? = b[i]?) ∧ e = fr [(0, some (.val (ix a))), (1, some (.val (ix b))), (5, some (.val (I k)))]) a.length ?_ ?_ 0 _ (by omega) ?_
   · rintro k e hk ⟨h1, rfl⟩
     have hk2 : k < b.length := by omega
     by_cases hne : a[k] = b[k]
     · simp [hk, hk2, hne]
       refine ⟨by omega, fun i hi => ?_⟩
       rcases Nat.lt_or_ge i k with h2 | h2
       · exact h1 i h2
       · have : i = k := by omega
         subst this
         rw [List.getElem?_eq_getElem hk, List.getElem?_eq_getElem hk2, hne]
     · simp [hk, hk2, hne]
       intro h2
       exact hne (by simp [h2])
   · rintro e ⟨h1, rfl⟩
     simp [hl]
     apply List.ext_getElem?
     intro i
     rcases Nat.lt_or_ge i a.length with h2 | h2
     · exact h1 i h2
     · rw [List.getElem?_eq_none h2, List.getElem?_eq_none (by omega)]
   · exact ⟨fun i hi => by omega, by simp⟩
 · have : a ≠ b := fun h => hl (by rw [h])
   have h2 : (a.length : Int) ≠ b.length := by omega
   simp [j4c, h2, this]


abbrev sol (f s : List (List Int)) : T := .agg [tb f, tb s]
def j2z (f s : List (List Int)) : Prop := j4z f ∧ j4z s ∧ f.length = s.length
instance (f s : List (List Int)) : Decidable (j2z f s) := by unfold j2z; infer_instance

def fits (t : List (List Int)) : Prop := t.length ≤ 1048576 ∧ ∀ r ∈ t, r.length ≤ 1048576

def j6m (pg : Pg) (n : Nat) : Prop := ∀ f s : List (List Int), fits f → fits s → Call pg n [sol f s] [sol f s] (B (decide (j2z f s)))
theorem t_l02Map {pg : Pg} (hp : pg.fn 56 = some j5y) (h46 : S_table pg 46) : j6m pg 56 := by
 intro f s hf hs
 refine Call.intro hp rfl (by simp) ?_
 show wp _ _ j5y.body (post [.t 2] _ _ _) _
 simp [j5y]
 refine j0e (h46 _ hf.1 hf.2) rfl rfl (fun _ => rfl) ?_
 by_cases h1 : j4z f
 · simp [h1]
   refine j0e (h46 _ hs.1 hs.2) rfl rfl (fun _ => rfl) ?_
   by_cases h2 : j4z s
   · simp [h2, j2z, h1]
     omega
   · simp [h2, j2z, j03]
 · simp [h1, j2z, j03]
theorem t_isPairMap {pg : Pg} (hp : pg.fn 59 = some j4a) (h50 : S_table pg 50) : j6m pg 59 := by
 intro f s hf hs
 refine Call.intro hp rfl (by simp) ?_
 show wp _ _ j4a.body (post [.t 2] _ _ _) _
 simp [j4a]
 refine j0e (h50 _ hf.1 hf.2) rfl rfl (fun _ => rfl) ?_
 by_cases h1 : j4z f
 · simp [h1]
   refine j0e (h50 _ hs.1 hs.2) rfl rfl (fun _ => rfl) ?_
   by_cases h2 : j4z s
   · simp [h2, j2z, h1]
     omega
   · simp [h2, j2z, j03]
 · simp [h1, j2z, j03]


def v2 (t : List (List Int)) (x y : Nat) : Int := (t.getD x []).getD y 0
theorem j3t {t : List (List Int)} {x y : Nat} (hx : x < t.length) (hy : y < (t[x]).length) : (t[x])[y] = v2 t x y := by
 simp [v2, List.getD_eq_getElem?_getD, hx, hy]
theorem Tab.row {t : List (List Int)} (h : Tab t) {x : Nat} (hx : x < t.length) : (t[x]).length = t.length := (h _ (List.getElem_mem hx)).1
theorem Tab.nonneg {t : List (List Int)} (h : Tab t) (x y : Nat) : 0 ≤ v2 t x y := by
 unfold v2
 rw [List.getD_eq_getElem?_getD, List.getD_eq_getElem?_getD]
 cases h1 : t[x]? with
 | none => simp
 | some r =>
  simp only [Option.getD_some]
  cases h2 : r[y]? with
  | none => simp
  | some v => exact ((h r (List.mem_of_getElem? h1)).2 v (List.mem_of_getElem? h2)).1
theorem Tab.lt {t : List (List Int)} (h : Tab t) (h0 : 0 < t.length) (x y : Nat) : v2 t x y < t.length := by
 unfold v2
 rw [List.getD_eq_getElem?_getD, List.getD_eq_getElem?_getD]
 cases h1 : t[x]? with
 | none => simp; omega
 | some r =>
  simp only [Option.getD_some]
  cases h2 : r[y]? with
  | none => simp; omega
  | some v => exact ((h r (List.mem_of_getElem? h1)).2 v (List.mem_of_getElem? h2)).2
theorem Tab.ltN {t : List (List Int)} (h : Tab t) (h0 : 0 < t.length) (x y : Nat) : (v2 t x y).toNat < t.length := by
 have := h.lt h0 x y
 have := h.nonneg x y
 omega

@[simp] theorem tdiv_nat (a b : Nat) : (a : Int).tdiv (b : Int) = ((a / b : Nat) : Int) := rfl
@[simp] theorem tmod_nat (a b : Nat) : (a : Int).tmod (b : Int) = ((a % b : Nat) : Int) := rfl

theorem least {P : Nat → Prop} {m : Nat} (h : ∃ k, k < m ∧ P k) : ∃ k, k < m ∧ P k ∧ ∀ i, i < k → ¬ P i := by
 obtain ⟨k, h1, h2⟩ := h
 induction k using Nat.strongRecOn with
 | _ k ih =>
  by_cases hh : ∃ i, i < k ∧ P i
  · obtain ⟨i, h3, h4⟩ := hh
    exact ih i h3 (by omega) h4
  · exact ⟨k, h1, h2, fun i hi hp => hh ⟨i, hi, hp⟩⟩

end Go.Mch
namespace Go.Mch

def ownI : Option (List Int) → T
 | none => nil
 | some xs => .mem .own (some 1) (xs.map I)

def up (k : Int) (n : Nat) : List Int := (List.range n).map fun i : Nat => k + i
@[simp] theorem up_length (k : Int) (n : Nat) : (up k n).length = n := by simp [up]

def held : List Int → Int → Int
 | [], k => k
 | x :: xs, k => if x = k then held xs (k + 1) else -1

theorem held_up : ∀ (n : Nat) (k : Int), held (up k n) k = k + n
 | 0, k => by simp [up, held]
 | n + 1, k => by
  have h : up k (n + 1) = k :: up (k + 1) n := by
   simp only [up, List.range_succ_eq_map, List.map_cons, List.map_map]
   congr 1
   · simp
   · apply List.map_congr_left
     intro i _
     simp only [Function.comp]
     omega
  rw [h, held, if_pos rfl, held_up n (k + 1)]
  omega

def S_heldI (pg : Pg) : Prop := ∀ (a : Rw Int) (k : Int), (lst a).length ≤ 1048576 → -1 ≤ k → k ≤ 4611686018427387904 → Call pg 13 [rawI a, I k] [rawI a, I k] (I (held (lst a) k))
def upto (k : Int) (xs : List Int) (j : Nat) : List Int := (List.range xs.length).map fun i : Nat => if i < j then k + i else xs.getD i 0
@[simp] theorem upto_length (k : Int) (xs : List Int) (j : Nat) : (upto k xs j).length = xs.length := by simp [upto]
def S_markI (pg : Pg) : Prop := ∀ (a : Option (List Int)) (k : Int), (lso a).length ≤ 1048576 → -1 ≤ k → k ≤ 4611686018427387904 → Call pg 12 [ownI a, I k] [ownI (a.map fun xs => up k xs.length), I k] (I (k + (lso a).length))
theorem S_markI.at {pg : Pg} (h : S_markI pg) (xs : List Int) (k : Int) (h1 : xs.length ≤ 1048576) (h2 : -1 ≤ k) (h3 : k ≤ 4611686018427387904) : Call pg 12 [.mem .own (some 1) (xs.map I), I k] [.mem .own (some 1) ((up k xs.length).map I), I k] (I (k + xs.length)) := h (some xs) k h1 h2 h3

def ownT : Option (List (List Int)) → T
 | none => nil
 | some xss => .mem .own (some 1) (rows xss)

def kAt (k : Int) (xss : List (List Int)) (j : Nat) : Int := k + ((xss.take j).map List.length).sum
def j4j (xss : List (List Int)) : Prop := xss.length ≤ 1048576 ∧ ∀ r ∈ xss, r.length ≤ 1048576

theorem kAt_zero (k : Int) (xss : List (List Int)) : kAt k xss 0 = k := by simp [kAt]
theorem kAt_succ (k : Int) (xss : List (List Int)) {j : Nat} (hj : j < xss.length) : kAt k xss (j + 1) = kAt k xss j + (xss[j]).length := by
 unfold kAt
 rw [List.take_succ_eq_append_getElem hj, List.map_append, List.sum_append]
 simp only [List.map_cons, List.map_nil, List.sum_cons, List.sum_nil, Int.natCast_add]
 omega
theorem kAt_le {k : Int} {xss : List (List Int)} (h : j4j xss) : ∀ j, j ≤ xss.length → k ≤ kAt k xss j ∧ kAt k xss j ≤ k + j * 1048576
 | 0, _ => by simp [kAt]
 | j + 1, hj => by
  have h1 := kAt_le (k := k) h j (by omega)
  have h2 := h.2 _ (List.getElem_mem (show j < xss.length by omega))
  rw [kAt_succ k xss (by omega)]
  simp only [Int.natCast_add]
  omega

def upT (k : Int) (xss : List (List Int)) : List (List Int) := (List.range xss.length).map fun j => up (kAt k xss j) (xss.getD j []).length
@[simp] theorem upT_length (k : Int) (xss : List (List Int)) : (upT k xss).length = xss.length := by simp [upT]
def heldL : List (List Int) → Int → Int
 | [], k => k
 | r :: rs, k => if held r k < 0 then -1 else heldL rs (held r k)

theorem heldL_up : ∀ (n : Nat) (xss : List (List Int)) (k : Int) (j : Nat), 0 ≤ k → j + n = xss.length → heldL ((upT k xss).drop j) (kAt k xss j) = kAt k xss xss.length
 | 0, xss, k, j, _, h => by
  have : j = xss.length := by omega
  subst this
  have : (upT k xss).drop xss.length = [] := by rw [List.drop_eq_nil_iff]; simp
  rw [this]; rfl
 | n + 1, xss, k, j, hk, h => by
  have hj : j < xss.length := by omega
  have hd : (upT k xss).drop j = (upT k xss)[j]'(by simpa using hj) :: (upT k xss).drop (j + 1) := List.drop_eq_getElem_cons (by simpa using hj)
  have hg : (upT k xss)[j]'(by simpa using hj) = up (kAt k xss j) (xss[j]).length := by
   simp [upT, List.getD_eq_getElem?_getD, List.getElem?_eq_getElem hj]
  have hp : 0 ≤ kAt k xss j := by unfold kAt; omega
  rw [hd, hg, heldL, held_up, if_neg (by omega), ← kAt_succ k xss hj]
  exact heldL_up n xss k (j + 1) hk (by omega)
theorem heldL_all (xss : List (List Int)) (k : Int) (hk : 0 ≤ k) : heldL (upT k xss) k = kAt k xss xss.length := by
 have := heldL_up xss.length xss k 0 hk (by omega)
 rwa [kAt_zero, List.drop_zero] at this

def S_heldT (pg : Pg) : Prop := ∀ (a : Rw (Rw Int)) (k : Int), small a → -1 ≤ k → k ≤ 2305843009213693952 → Call pg 24 [rawT a, I k] [rawT a, I k] (I (heldL ((lst a).map lst) k))
def S_markT (pg : Pg) : Prop := ∀ (a : Option (List (List Int))) (k : Int), j4j (lso a) → 0 ≤ k → k ≤ 2305843009213693952 → Call pg 23 [ownT a, I k] [ownT (a.map (upT k)), I k] (I (kAt k (lso a) (lso a).length))
theorem S_markT.at {pg : Pg} (h : S_markT pg) (xss : List (List Int)) (k : Int) (h1 : j4j xss) (h2 : 0 ≤ k) (h3 : k ≤ 2305843009213693952) : Call pg 23 [.mem .own (some 1) (rows xss), I k] [.mem .own (some 1) (rows (upT k xss)), I k] (I (kAt k xss xss.length)) := h (some xss) k h1 h2 h3
end Go.Mch
namespace Go.Mch

def coll (f s : List (List Int)) (a b : Nat) : Prop :=
 a ≠ b ∧ v2 f (a / f.length) (a % f.length) = v2 f (b / f.length) (b % f.length) ∧ v2 s (a / f.length) (a % f.length) = v2 s (b / f.length) (b % f.length)
def Inj (f s : List (List Int)) : Prop := ∀ a, a < f.length * f.length → ∀ b, b < f.length * f.length → ¬ coll f s a b
instance (f s : List (List Int)) (a b : Nat) : Decidable (coll f s a b) := by unfold coll; infer_instance
instance (f s : List (List Int)) : Decidable (Inj f s) := by unfold Inj; infer_instance

structure PM (f s : List (List Int)) : Prop where
 tf : Tab f
 ts : Tab s
 len : s.length = f.length
 pos : 0 < f.length
 small : f.length ≤ 12
theorem PM.of {f s : List (List Int)} (h : j2z f s) : PM f s := ⟨h.1.2.2, h.2.1.2.2, h.2.2.symm, h.1.1, h.1.2.1⟩

theorem dm_lt {n a : Nat} (h : a < n * n) : a / n < n ∧ a % n < n := by
 have hn : 0 < n := by
  rcases Nat.eq_zero_or_pos n with h0 | h0
  · subst h0; simp at h
  · exact h0
 exact ⟨Nat.div_lt_of_lt_mul h, Nat.mod_lt _ hn⟩

def S_coll57 (pg : Pg) : Prop := ∀ f s : List (List Int), PM f s → ∃ l : List Int, (l.length = 0 ↔ Inj f s) ∧ l.length ≤ 4 ∧ Call pg 57 [sol f s] [sol f s] (.mem .own (some 1) (l.map I))
set_option maxRecDepth 10000 in
theorem t_coll57 {pg : Pg} (hp : pg.fn 57 = some j1j) : S_coll57 pg := by
 intro f s h
 have h0 := h.pos
 have h12 := h.small
 have h0' : f.length ≠ 0 := by omega
 have hsq : f.length * f.length ≤ 144 := Nat.mul_le_mul h12 h12
 have hsq' : ((f.length : Int) * f.length) ≤ 144 := by exact_mod_cast hsq
 have hsq0 : 0 ≤ ((f.length : Int) * f.length) := by exact_mod_cast Nat.zero_le _
 have fr' := fun x hx => h.tf.row (x := x) hx
 have sr' : ∀ x (hx : x < s.length), (s[x]).length = f.length := fun x hx => (h.ts.row hx).trans h.len
 have loop : ∀ (a b : Nat), a < f.length * f.length → b < f.length * f.length → coll f s a b → True := fun _ _ _ _ _ => trivial
 by_cases hex : ∃ a, a < f.length * f.length ∧ ∃ b, b < f.length * f.length ∧ coll f s a b
 · obtain ⟨a, ha, hb, hmin⟩ := least hex
   obtain ⟨b, hb, hc, hmin2⟩ := least hb
   have hni : ¬ Inj f s := fun hi => hi a ha b hb hc
   refine ⟨[((a / f.length : Nat) : Int), ((a % f.length : Nat) : Int), ((b / f.length : Nat) : Int), ((b % f.length : Nat) : Int)], by simp [hni], by simp, Call.intro hp rfl (by simp) ?_⟩
   show wp _ _ j1j.body (post [.t 2] _ _ _) _
   simp [j1j]
   refine j0a (fun k e => k ≤ a ∧ e = fr [(1, some (.val (.mem .own none [tb f, tb s]))), (3, some (.val (I f.length))), (4, some (.val (I k)))]) (f.length * f.length) ?_ ?_ 0 _ (by omega) ?_
   · rintro k e hk ⟨h1, rfl⟩
     have hk1 := dm_lt hk
     have hki : (k : Int) < (f.length : Int) * f.length := by exact_mod_cast hk
     have hq1 : 0 ≤ (k : Int) / f.length ∧ (k : Int) / f.length < f.length := ⟨by exact_mod_cast Nat.zero_le _, by exact_mod_cast hk1.1⟩
     have hr1 : 0 ≤ (k : Int) % f.length ∧ (k : Int) % f.length < f.length := ⟨by exact_mod_cast Nat.zero_le _, by exact_mod_cast hk1.2⟩
     have ht1 : ((k : Int) / f.length).toNat = k / f.length := by rw [← Int.natCast_ediv]; exact Int.toNat_natCast _
     have hu1 : ((k : Int) % f.length).toNat = k % f.length := by rw [← Int.natCast_emod]; exact Int.toNat_natCast _
     simp [hki]
     refine ⟨by omega, ?_⟩
     rcases Nat.lt_or_ge k a with hka | hka
     · refine j0a (fun j e => e = fr [(1, some (.val (.mem .own none [tb f, tb s]))), (3, some (.val (I f.length))), (4, some (.val (I k))), (5, some (.val (I j)))]) (f.length * f.length) ?_ ?_ 0 _ (by omega) ?_
       · rintro j e hj rfl
         have hj1 := dm_lt hj
         have hji : (j : Int) < (f.length : Int) * f.length := by exact_mod_cast hj
         have hq2 : 0 ≤ (j : Int) / f.length ∧ (j : Int) / f.length < f.length := ⟨by exact_mod_cast Nat.zero_le _, by exact_mod_cast hj1.1⟩
         have hr2 : 0 ≤ (j : Int) % f.length ∧ (j : Int) % f.length < f.length := ⟨by exact_mod_cast Nat.zero_le _, by exact_mod_cast hj1.2⟩
         have ht2 : ((j : Int) / f.length).toNat = j / f.length := by rw [← Int.natCast_ediv]; exact Int.toNat_natCast _
         have hu2 : ((j : Int) % f.length).toNat = j % f.length := by rw [← Int.natCast_emod]; exact Int.toNat_natCast _
         have hnc : ¬ coll f s k j := fun hcc => hmin k hka ⟨j, hj, hcc⟩
         by_cases hkj : k = j
         · subst hkj
           clear hj hj1 hnc
           simp [hji, h0', j03]
           omega
         · have hkjI : (k : Int) ≠ j := by omega
           by_cases hv1 : v2 f (k / f.length) (k % f.length) = v2 f (j / f.length) (j % f.length)
           · by_cases hv2 : v2 s (k / f.length) (k % f.length) = v2 s (j / f.length) (j % f.length)
             · have hcc : coll f s k j := ⟨hkj, hv1, hv2⟩
               exact (hnc hcc).elim
             · simp [hkjI, hk1, hj1, hq1, hq2, hr1, hr2, ht1, ht2, hu1, hu2, hji, h0', fr', sr', h.len, j3t, hv1, hv2]
               omega
           · simp [hkjI, hk1, hj1, hq1, hq2, hr1, hr2, ht1, ht2, hu1, hu2, hji, h0', fr', j3t, j03, hv1]
             omega
       · rintro e rfl
         simp
         omega
       · simp
     · have hka2 : k = a := by omega
       subst hka2
       refine j0a (fun j e => j ≤ b ∧ e = fr [(1, some (.val (.mem .own none [tb f, tb s]))), (3, some (.val (I f.length))), (4, some (.val (I k))), (5, some (.val (I j)))]) (f.length * f.length) ?_ ?_ 0 _ (by omega) ?_
       · rintro j e hj ⟨hjb, rfl⟩
         have hj1 := dm_lt hj
         have hji : (j : Int) < (f.length : Int) * f.length := by exact_mod_cast hj
         have hq2 : 0 ≤ (j : Int) / f.length ∧ (j : Int) / f.length < f.length := ⟨by exact_mod_cast Nat.zero_le _, by exact_mod_cast hj1.1⟩
         have hr2 : 0 ≤ (j : Int) % f.length ∧ (j : Int) % f.length < f.length := ⟨by exact_mod_cast Nat.zero_le _, by exact_mod_cast hj1.2⟩
         have ht2 : ((j : Int) / f.length).toNat = j / f.length := by rw [← Int.natCast_ediv]; exact Int.toNat_natCast _
         have hu2 : ((j : Int) % f.length).toNat = j % f.length := by rw [← Int.natCast_emod]; exact Int.toNat_natCast _
         rcases Nat.lt_or_ge j b with hlt | hge
         · have hnc : ¬ coll f s k j := hmin2 j hlt
           by_cases hkj : k = j
           · subst hkj
             clear hj hj1 hnc
             simp [hji, h0', j03]
             omega
           · have hkjI : (k : Int) ≠ j := by omega
             by_cases hv1 : v2 f (k / f.length) (k % f.length) = v2 f (j / f.length) (j % f.length)
             · by_cases hv2 : v2 s (k / f.length) (k % f.length) = v2 s (j / f.length) (j % f.length)
               · have hcc : coll f s k j := ⟨hkj, hv1, hv2⟩
                 exact (hnc hcc).elim
               · simp [hkjI, hk1, hj1, hq1, hq2, hr1, hr2, ht1, ht2, hu1, hu2, hji, h0', fr', sr', h.len, j3t, hv1, hv2]
                 omega
             · simp [hkjI, hk1, hj1, hq1, hq2, hr1, hr2, ht1, ht2, hu1, hu2, hji, h0', fr', j3t, j03, hv1]
               omega
         · have hjb2 : j = b := by omega
           subst hjb2
           obtain ⟨hkj, hv1, hv2⟩ := hc
           have hkjI : (k : Int) ≠ j := by omega
           simp [hkjI, hk1, hj1, hq1, hq2, hr1, hr2, ht1, ht2, hu1, hu2, hji, h0', fr', sr', h.len, j3t, hv1, hv2]
           try omega
       · rintro e ⟨h1, rfl⟩
         omega
       · simp
   · rintro e ⟨h1, rfl⟩
     omega
   · simp
 · have hi : Inj f s := fun a ha b hb hc => hex ⟨a, ha, b, hb, hc⟩
   refine ⟨[], by simp [hi], by simp, Call.intro hp rfl (by simp) ?_⟩
   show wp _ _ j1j.body (post [.t 2] _ _ _) _
   simp [j1j]
   refine j0a (fun k e => e = fr [(1, some (.val (.mem .own none [tb f, tb s]))), (3, some (.val (I f.length))), (4, some (.val (I k)))]) (f.length * f.length) ?_ ?_ 0 _ (by omega) ?_
   · rintro k e hk rfl
     have hk1 := dm_lt hk
     have hki : (k : Int) < (f.length : Int) * f.length := by exact_mod_cast hk
     have hq1 : 0 ≤ (k : Int) / f.length ∧ (k : Int) / f.length < f.length := ⟨by exact_mod_cast Nat.zero_le _, by exact_mod_cast hk1.1⟩
     have hr1 : 0 ≤ (k : Int) % f.length ∧ (k : Int) % f.length < f.length := ⟨by exact_mod_cast Nat.zero_le _, by exact_mod_cast hk1.2⟩
     have ht1 : ((k : Int) / f.length).toNat = k / f.length := by rw [← Int.natCast_ediv]; exact Int.toNat_natCast _
     have hu1 : ((k : Int) % f.length).toNat = k % f.length := by rw [← Int.natCast_emod]; exact Int.toNat_natCast _
     simp [hki]
     refine ⟨by omega, ?_⟩
     refine j0a (fun j e => e = fr [(1, some (.val (.mem .own none [tb f, tb s]))), (3, some (.val (I f.length))), (4, some (.val (I k))), (5, some (.val (I j)))]) (f.length * f.length) ?_ ?_ 0 _ (by omega) ?_
     · rintro j e hj rfl
       have hj1 := dm_lt hj
       have hji : (j : Int) < (f.length : Int) * f.length := by exact_mod_cast hj
       have hq2 : 0 ≤ (j : Int) / f.length ∧ (j : Int) / f.length < f.length := ⟨by exact_mod_cast Nat.zero_le _, by exact_mod_cast hj1.1⟩
       have hr2 : 0 ≤ (j : Int) % f.length ∧ (j : Int) % f.length < f.length := ⟨by exact_mod_cast Nat.zero_le _, by exact_mod_cast hj1.2⟩
       have ht2 : ((j : Int) / f.length).toNat = j / f.length := by rw [← Int.natCast_ediv]; exact Int.toNat_natCast _
       have hu2 : ((j : Int) % f.length).toNat = j % f.length := by rw [← Int.natCast_emod]; exact Int.toNat_natCast _
       have hnc : ¬ coll f s k j := hi k hk j hj
       by_cases hkj : k = j
       · subst hkj
         clear hj hj1 hnc
         simp [hji, h0', j03]
         omega
       · have hkjI : (k : Int) ≠ j := by omega
         by_cases hv1 : v2 f (k / f.length) (k % f.length) = v2 f (j / f.length) (j % f.length)
         · by_cases hv2 : v2 s (k / f.length) (k % f.length) = v2 s (j / f.length) (j % f.length)
           · have hcc : coll f s k j := ⟨hkj, hv1, hv2⟩
             exact (hnc hcc).elim
           · simp [hkjI, hk1, hj1, hq1, hq2, hr1, hr2, ht1, ht2, hu1, hu2, hji, h0', fr', sr', h.len, j3t, hv1, hv2]
             omega
         · simp [hkjI, hk1, hj1, hq1, hq2, hr1, hr2, ht1, ht2, hu1, hu2, hji, h0', fr', j3t, j03, hv1]
           omega
     · rintro e rfl
       simp
       omega
     · simp
   · rintro e rfl
     simp
     try omega
   · simp

def S_coll60 (pg : Pg) : Prop := ∀ f s : List (List Int), PM f s → ∃ o : Option (List Int), (o = none ↔ Inj f s) ∧ Call pg 60 [sol f s] [sol f s] (ownI o)
set_option maxRecDepth 10000 in
theorem t_coll60 {pg : Pg} (hp : pg.fn 60 = some j1q) : S_coll60 pg := by
 intro f s h
 have h0 := h.pos
 have h12 := h.small
 have h0' : f.length ≠ 0 := by omega
 have hsq : f.length * f.length ≤ 144 := Nat.mul_le_mul h12 h12
 have hsq' : ((f.length : Int) * f.length) ≤ 144 := by exact_mod_cast hsq
 have hsq0 : 0 ≤ ((f.length : Int) * f.length) := by exact_mod_cast Nat.zero_le _
 have fr' := fun x hx => h.tf.row (x := x) hx
 have sr' : ∀ x (hx : x < s.length), (s[x]).length = f.length := fun x hx => (h.ts.row hx).trans h.len
 have loop : ∀ (a b : Nat), a < f.length * f.length → b < f.length * f.length → coll f s a b → True := fun _ _ _ _ _ => trivial
 by_cases hex : ∃ a, a < f.length * f.length ∧ ∃ b, b < f.length * f.length ∧ coll f s a b
 · obtain ⟨a, ha, hb, hmin⟩ := least hex
   obtain ⟨b, hb, hc, hmin2⟩ := least hb
   have hni : ¬ Inj f s := fun hi => hi a ha b hb hc
   refine ⟨some [((a / f.length : Nat) : Int), ((a % f.length : Nat) : Int), ((b / f.length : Nat) : Int), ((b % f.length : Nat) : Int)], by simp [hni], Call.intro hp rfl (by simp) ?_⟩
   simp only [ownI]
   show wp _ _ j1q.body (post [.t 2] _ _ _) _
   simp [j1q]
   refine ⟨by omega, ?_⟩
   refine j0a (fun k e => k ≤ a ∧ e = fr [(1, some (.val (.mem .own none [tb f, tb s]))), (3, some (.val (I f.length))), (15, some (.val (I ((f.length : Int) * f.length)))), (16, some (.val (I k)))]) (f.length * f.length) ?_ ?_ 0 _ (by omega) ?_
   · rintro k e hk ⟨h1, rfl⟩
     have hk1 := dm_lt hk
     have hki : (k : Int) < (f.length : Int) * f.length := by exact_mod_cast hk
     have hq1 : 0 ≤ (k : Int) / f.length ∧ (k : Int) / f.length < f.length := ⟨by exact_mod_cast Nat.zero_le _, by exact_mod_cast hk1.1⟩
     have hr1 : 0 ≤ (k : Int) % f.length ∧ (k : Int) % f.length < f.length := ⟨by exact_mod_cast Nat.zero_le _, by exact_mod_cast hk1.2⟩
     have ht1 : ((k : Int) / f.length).toNat = k / f.length := by rw [← Int.natCast_ediv]; exact Int.toNat_natCast _
     have hu1 : ((k : Int) % f.length).toNat = k % f.length := by rw [← Int.natCast_emod]; exact Int.toNat_natCast _
     simp [hki, h0']
     refine ⟨by omega, by omega, ?_⟩
     rcases Nat.lt_or_ge k a with hka | hka
     · refine j0a (fun j e => e = fr [(1, some (.val (.mem .own none [tb f, tb s]))), (3, some (.val (I f.length))), (4, some (.val (I k))), (5, some (.val (I ((k / f.length : Nat) : Int)))), (6, some (.val (I ((k % f.length : Nat) : Int)))), (15, some (.val (I ((f.length : Int) * f.length)))), (16, some (.val (I k))), (27, some (.val (I ((f.length : Int) * f.length)))), (28, some (.val (I j)))]) (f.length * f.length) ?_ ?_ 0 _ (by omega) ?_
       · rintro j e hj rfl
         have hj1 := dm_lt hj
         have hji : (j : Int) < (f.length : Int) * f.length := by exact_mod_cast hj
         have hq2 : 0 ≤ (j : Int) / f.length ∧ (j : Int) / f.length < f.length := ⟨by exact_mod_cast Nat.zero_le _, by exact_mod_cast hj1.1⟩
         have hr2 : 0 ≤ (j : Int) % f.length ∧ (j : Int) % f.length < f.length := ⟨by exact_mod_cast Nat.zero_le _, by exact_mod_cast hj1.2⟩
         have ht2 : ((j : Int) / f.length).toNat = j / f.length := by rw [← Int.natCast_ediv]; exact Int.toNat_natCast _
         have hu2 : ((j : Int) % f.length).toNat = j % f.length := by rw [← Int.natCast_emod]; exact Int.toNat_natCast _
         have hnc : ¬ coll f s k j := fun hcc => hmin k hka ⟨j, hj, hcc⟩
         by_cases hkj : k = j
         · subst hkj
           clear hj hj1 hnc
           simp [hji, h0', j03]
           omega
         · have hkjI : (k : Int) ≠ j := by omega
           by_cases hv1 : v2 f (k / f.length) (k % f.length) = v2 f (j / f.length) (j % f.length)
           · by_cases hv2 : v2 s (k / f.length) (k % f.length) = v2 s (j / f.length) (j % f.length)
             · have hcc : coll f s k j := ⟨hkj, hv1, hv2⟩
               exact (hnc hcc).elim
             · simp [hkjI, hk1, hj1, hq1, hq2, hr1, hr2, ht1, ht2, hu1, hu2, hji, h0', fr', sr', h.len, j3t, hv1, hv2]
               omega
           · simp [hkjI, hk1, hj1, hq1, hq2, hr1, hr2, ht1, ht2, hu1, hu2, hji, h0', fr', j3t, j03, hv1]
             omega
       · rintro e rfl
         simp
         omega
       · simp
     · have hka2 : k = a := by omega
       subst hka2
       refine j0a (fun j e => j ≤ b ∧ e = fr [(1, some (.val (.mem .own none [tb f, tb s]))), (3, some (.val (I f.length))), (4, some (.val (I k))), (5, some (.val (I ((k / f.length : Nat) : Int)))), (6, some (.val (I ((k % f.length : Nat) : Int)))), (15, some (.val (I ((f.length : Int) * f.length)))), (16, some (.val (I k))), (27, some (.val (I ((f.length : Int) * f.length)))), (28, some (.val (I j)))]) (f.length * f.length) ?_ ?_ 0 _ (by omega) ?_
       · rintro j e hj ⟨hjb, rfl⟩
         have hj1 := dm_lt hj
         have hji : (j : Int) < (f.length : Int) * f.length := by exact_mod_cast hj
         have hq2 : 0 ≤ (j : Int) / f.length ∧ (j : Int) / f.length < f.length := ⟨by exact_mod_cast Nat.zero_le _, by exact_mod_cast hj1.1⟩
         have hr2 : 0 ≤ (j : Int) % f.length ∧ (j : Int) % f.length < f.length := ⟨by exact_mod_cast Nat.zero_le _, by exact_mod_cast hj1.2⟩
         have ht2 : ((j : Int) / f.length).toNat = j / f.length := by rw [← Int.natCast_ediv]; exact Int.toNat_natCast _
         have hu2 : ((j : Int) % f.length).toNat = j % f.length := by rw [← Int.natCast_emod]; exact Int.toNat_natCast _
         rcases Nat.lt_or_ge j b with hlt | hge
         · have hnc : ¬ coll f s k j := hmin2 j hlt
           by_cases hkj : k = j
           · subst hkj
             clear hj hj1 hnc
             simp [hji, h0', j03]
             omega
           · have hkjI : (k : Int) ≠ j := by omega
             by_cases hv1 : v2 f (k / f.length) (k % f.length) = v2 f (j / f.length) (j % f.length)
             · by_cases hv2 : v2 s (k / f.length) (k % f.length) = v2 s (j / f.length) (j % f.length)
               · have hcc : coll f s k j := ⟨hkj, hv1, hv2⟩
                 exact (hnc hcc).elim
               · simp [hkjI, hk1, hj1, hq1, hq2, hr1, hr2, ht1, ht2, hu1, hu2, hji, h0', fr', sr', h.len, j3t, hv1, hv2]
                 omega
             · simp [hkjI, hk1, hj1, hq1, hq2, hr1, hr2, ht1, ht2, hu1, hu2, hji, h0', fr', j3t, j03, hv1]
               omega
         · have hjb2 : j = b := by omega
           subst hjb2
           obtain ⟨hkj, hv1, hv2⟩ := hc
           have hkjI : (k : Int) ≠ j := by omega
           simp [hkjI, hk1, hj1, hq1, hq2, hr1, hr2, ht1, ht2, hu1, hu2, hji, h0', fr', sr', h.len, j3t, hv1, hv2]
           try omega
       · rintro e ⟨h1, rfl⟩
         omega
       · simp
   · rintro e ⟨h1, rfl⟩
     omega
   · simp
 · have hi : Inj f s := fun a ha b hb hc => hex ⟨a, ha, b, hb, hc⟩
   refine ⟨none, by simp [hi], Call.intro hp rfl (by simp) ?_⟩
   simp only [ownI]
   show wp _ _ j1q.body (post [.t 2] _ _ _) _
   simp [j1q]
   refine ⟨by omega, ?_⟩
   refine j0a (fun k e => e = fr [(1, some (.val (.mem .own none [tb f, tb s]))), (3, some (.val (I f.length))), (15, some (.val (I ((f.length : Int) * f.length)))), (16, some (.val (I k)))]) (f.length * f.length) ?_ ?_ 0 _ (by omega) ?_
   · rintro k e hk rfl
     have hk1 := dm_lt hk
     have hki : (k : Int) < (f.length : Int) * f.length := by exact_mod_cast hk
     have hq1 : 0 ≤ (k : Int) / f.length ∧ (k : Int) / f.length < f.length := ⟨by exact_mod_cast Nat.zero_le _, by exact_mod_cast hk1.1⟩
     have hr1 : 0 ≤ (k : Int) % f.length ∧ (k : Int) % f.length < f.length := ⟨by exact_mod_cast Nat.zero_le _, by exact_mod_cast hk1.2⟩
     have ht1 : ((k : Int) / f.length).toNat = k / f.length := by rw [← Int.natCast_ediv]; exact Int.toNat_natCast _
     have hu1 : ((k : Int) % f.length).toNat = k % f.length := by rw [← Int.natCast_emod]; exact Int.toNat_natCast _
     simp [hki, h0']
     refine ⟨by omega, by omega, ?_⟩
     refine j0a (fun j e => e = fr [(1, some (.val (.mem .own none [tb f, tb s]))), (3, some (.val (I f.length))), (4, some (.val (I k))), (5, some (.val (I ((k / f.length : Nat) : Int)))), (6, some (.val (I ((k % f.length : Nat) : Int)))), (15, some (.val (I ((f.length : Int) * f.length)))), (16, some (.val (I k))), (27, some (.val (I ((f.length : Int) * f.length)))), (28, some (.val (I j)))]) (f.length * f.length) ?_ ?_ 0 _ (by omega) ?_
     · rintro j e hj rfl
       have hj1 := dm_lt hj
       have hji : (j : Int) < (f.length : Int) * f.length := by exact_mod_cast hj
       have hq2 : 0 ≤ (j : Int) / f.length ∧ (j : Int) / f.length < f.length := ⟨by exact_mod_cast Nat.zero_le _, by exact_mod_cast hj1.1⟩
       have hr2 : 0 ≤ (j : Int) % f.length ∧ (j : Int) % f.length < f.length := ⟨by exact_mod_cast Nat.zero_le _, by exact_mod_cast hj1.2⟩
       have ht2 : ((j : Int) / f.length).toNat = j / f.length := by rw [← Int.natCast_ediv]; exact Int.toNat_natCast _
       have hu2 : ((j : Int) % f.length).toNat = j % f.length := by rw [← Int.natCast_emod]; exact Int.toNat_natCast _
       have hnc : ¬ coll f s k j := hi k hk j hj
       by_cases hkj : k = j
       · subst hkj
         clear hj hj1 hnc
         simp [hji, h0', j03]
         omega
       · have hkjI : (k : Int) ≠ j := by omega
         by_cases hv1 : v2 f (k / f.length) (k % f.length) = v2 f (j / f.length) (j % f.length)
         · by_cases hv2 : v2 s (k / f.length) (k % f.length) = v2 s (j / f.length) (j % f.length)
           · have hcc : coll f s k j := ⟨hkj, hv1, hv2⟩
             exact (hnc hcc).elim
           · simp [hkjI, hk1, hj1, hq1, hq2, hr1, hr2, ht1, ht2, hu1, hu2, hji, h0', fr', sr', h.len, j3t, hv1, hv2]
             omega
         · simp [hkjI, hk1, hj1, hq1, hq2, hr1, hr2, ht1, ht2, hu1, hu2, hji, h0', fr', j3t, j03, hv1]
           omega
     · rintro e rfl
       simp
       omega
     · simp
   · rintro e rfl
     simp
     try omega
   · simp


end Go.Mch
namespace Go.Mch

def g2 (t : List (List Int)) (x y : Int) : Int := v2 t x.toNat y.toNat
theorem get_g2 {t : List (List Int)} {x y : Int} (hx : x.toNat < t.length) (hy : y.toNat < (t[x.toNat]).length) : (t[x.toNat])[y.toNat] = g2 t x y := j3t hx hy
def inN (n : Nat) (w : List Int) : Prop := ∀ x ∈ w, 0 ≤ x ∧ x < n
theorem PM.gF {f s : List (List Int)} (h : PM f s) (x y : Int) : 0 ≤ g2 f x y ∧ g2 f x y < f.length := ⟨h.tf.nonneg _ _, h.tf.lt h.pos _ _⟩
theorem PM.gS {f s : List (List Int)} (h : PM f s) (x y : Int) : 0 ≤ g2 s x y ∧ g2 s x y < f.length := ⟨h.ts.nonneg _ _, by have := h.ts.lt (by rw [h.len]; exact h.pos) x.toNat y.toNat; rw [h.len] at this; exact this⟩

def dW (f s : List (List Int)) (w : List Int) (i : Nat) : List Int :=
 (w.set i (g2 f (w.getD i 0) (w.getD (i + 1) 0))).set (i + 1) (g2 s (w.getD i 0) (w.getD (i + 1) 0))
@[simp] theorem dW_length (f s : List (List Int)) (w : List Int) (i : Nat) : (dW f s w i).length = w.length := by simp [dW]
theorem set_in {n : Nat} {w : List Int} (h : inN n w) {i : Nat} {v : Int} (hv : 0 ≤ v ∧ v < n) : inN n (w.set i v) := by
 intro x hx
 rcases List.mem_or_eq_of_mem_set hx with h1 | h1
 · exact h x h1
 · rw [h1]; exact hv
theorem dW_in {f s : List (List Int)} (h : PM f s) {w : List Int} (hw : inN f.length w) (i : Nat) : inN f.length (dW f s w i) := set_in (set_in hw (h.gF _ _)) (h.gS _ _)

def S_do (pg : Pg) (n : Nat) : Prop := ∀ (f s : List (List Int)) (w : List Int) (i : Nat), PM f s → i + 1 < w.length → w.length ≤ 1048576 → inN f.length w →
 Call pg n [sol f s, ix w, I i] [sol f s, ix w, I i] (.mem .own (some 1) ((dW f s w i).map I))
set_option maxRecDepth 10000 in
theorem do_of {pg : Pg} {n : Nat} (hp : pg.fn n = some j6i) (h31 : S_own pg) : S_do pg n := by
 intro f s w i h hi hl hw
 refine Call.intro hp rfl (by simp) ?_
 show wp _ _ j6i.body (post [.t 6] _ _ _) _
 have h1 := hw _ (List.getElem_mem (show i < w.length by omega))
 have h2 := hw _ (List.getElem_mem hi)
 have fr' := fun x hx => h.tf.row (x := x) hx
 have sr' : ∀ x (hx : x < s.length), (s[x]).length = f.length := fun x hx => (h.ts.row hx).trans h.len
 have hi0 : i < w.length := by omega
 have hiI : (i : Int) + 1 < w.length := by omega
 have e1 : ((i : Int) + 1).toNat = i + 1 := by omega
 have t1 : (w[i]).toNat < f.length := by omega
 have t2 : (w[i + 1]).toNat < f.length := by omega
 have hb : -9223372036854775808 ≤ (i : Int) + 1 ∧ (i : Int) + 1 ≤ 9223372036854775807 := by omega
 have hb0 : 0 ≤ (i : Int) + 1 := by omega
 simp [j6i]
 refine j0e (h31 _ hl) rfl rfl (fun _ => by simp) ?_
 simp [hi, hb, hb0, hi0, hiI, e1, h1, h2, t1, t2, fr', sr', h.len, get_g2]
 refine ⟨by omega, by omega, ?_⟩
 simp [dW, hi0, hi]

def ybAt (f s : List (List Int)) (x y z : Nat) : Prop := dW f s (dW f s (dW f s [(x : Int), y, z] 0) 1) 0 = dW f s (dW f s (dW f s [(x : Int), y, z] 1) 0) 1
def YB (f s : List (List Int)) : Prop := ∀ x y z : Nat, x < f.length → y < f.length → z < f.length → ybAt f s x y z
instance (f s : List (List Int)) (x y z : Nat) : Decidable (ybAt f s x y z) := by unfold ybAt; infer_instance

theorem first3 (P : Nat → Nat → Nat → Prop) (n : Nat) : (∀ x y z, x < n → y < n → z < n → ¬ P x y z) ∨
 ∃ a b c, a < n ∧ b < n ∧ c < n ∧ P a b c ∧ ∀ x y z, x < n → y < n → z < n → P x y z → a < x ∨ (a = x ∧ (b < y ∨ (b = y ∧ c ≤ z))) := by
 by_cases h : ∃ a, a < n ∧ ∃ b, b < n ∧ ∃ c, c < n ∧ P a b c
 · right
   obtain ⟨a, ha, hb, h1⟩ := least h
   obtain ⟨b, hb, hc, h2⟩ := least hb
   obtain ⟨c, hc, hp, h3⟩ := least hc
   refine ⟨a, b, c, ha, hb, hc, hp, fun x y z hx hy hz hq => ?_⟩
   rcases Nat.lt_trichotomy a x with g | g | g
   · exact .inl g
   · subst g
     right
     refine ⟨rfl, ?_⟩
     rcases Nat.lt_trichotomy b y with g | g | g
     · exact .inl g
     · subst g
       right
       refine ⟨rfl, ?_⟩
       rcases Nat.lt_or_ge z c with g | g
       · exact absurd hq (h3 z g)
       · exact g
     · exact absurd ⟨z, hz, hq⟩ (h2 y g)
   · exact absurd ⟨y, hy, z, hz, hq⟩ (h1 x g)
 · left
   intro x y z hx hy hz hp
   exact h ⟨x, hx, y, hy, z, hz, hp⟩

theorem fault (f s : List (List Int)) : ∃ (a b c : Nat) (l : List Int), (l.length = 0 ↔ YB f s) ∧ (a < f.length → l = [(a : Int), b, c] ∧ b < f.length ∧ c < f.length ∧ ¬ ybAt f s a b c) ∧ (¬ a < f.length → a = f.length ∧ l = []) ∧ l.length ≤ 3 ∧
 ∀ x y z, x < f.length → y < f.length → z < f.length → ¬ ybAt f s x y z → a < x ∨ (a = x ∧ (b < y ∨ (b = y ∧ c ≤ z))) := by
 rcases first3 (fun x y z => ¬ ybAt f s x y z) f.length with h | ⟨a, b, c, ha, hb, hc, hp, h⟩
 · refine ⟨f.length, 0, 0, [], ⟨fun _ x y z hx hy hz => ?_, fun _ => rfl⟩, fun h => absurd h (Nat.lt_irrefl _), fun _ => ⟨rfl, rfl⟩, by simp, fun x y z hx hy hz hn => absurd hn (h x y z hx hy hz)⟩
   exact Decidable.of_not_not (h x y z hx hy hz)
 · exact ⟨a, b, c, [(a : Int), b, c], ⟨fun h => by simp at h, fun h => absurd (h a b c ha hb hc) hp⟩, fun _ => ⟨rfl, hb, hc, hp⟩, fun h => absurd ha h, by simp, h⟩

def S_fault58 (pg : Pg) : Prop := ∀ f s : List (List Int), PM f s → ∃ l : List Int, (l.length = 0 ↔ YB f s) ∧ l.length ≤ 3 ∧ Call pg 58 [sol f s] [sol f s] (.mem .own (some 1) (l.map I))

theorem w3_in {n x y z : Nat} (hx : x < n) (hy : y < n) (hz : z < n) : inN n [(x : Int), y, z] := by
 intro v hv
 simp at hv
 omega

set_option maxRecDepth 10000 in
theorem t_fault58 {pg : Pg} (hp : pg.fn 58 = some j4m) (h68 : S_do pg 68) (h67 : S_same pg) : S_fault58 pg := by
 intro f s h
 obtain ⟨a, b, c, l, hl, hf1, hf2, hf3, hmin⟩ := fault f s
 have h0 := h.pos
 have h12 := h.small
 refine ⟨l, hl, hf3, Call.intro hp rfl (by simp) ?_⟩
 show wp _ _ j4m.body (post [.t 2] _ _ _) _
 simp [j4m]
 refine j0a (fun x e => x ≤ a ∧ e = fr [(1, some (.val (.mem .own none [tb f, tb s]))), (3, some (.val (I f.length))), (4, some (.val (I x)))]) f.length ?_ ?_ 0 _ (by omega) ?_
 · rintro x e hx ⟨hxa, rfl⟩
   simp [hx]
   refine j0a (fun y e => (x = a → y ≤ b) ∧ e = fr [(1, some (.val (.mem .own none [tb f, tb s]))), (3, some (.val (I f.length))), (4, some (.val (I x))), (5, some (.val (I y)))]) f.length ?_ ?_ 0 _ (by omega) ?_
   · rintro y e hy ⟨hyb, rfl⟩
     simp [hy]
     refine j0a (fun z e => (x = a → y = b → z ≤ c) ∧ e = fr [(1, some (.val (.mem .own none [tb f, tb s]))), (3, some (.val (I f.length))), (4, some (.val (I x))), (5, some (.val (I y))), (6, some (.val (I z)))]) f.length ?_ ?_ 0 _ (by omega) ?_
     · rintro z e hz ⟨hzc, rfl⟩
       have hw := w3_in hx hy hz
       have d1 := dW_in h hw 0
       have d2 := dW_in h d1 1
       have d3 := dW_in h hw 1
       have d4 := dW_in h d3 0
       simp [hz]
       refine j0e (h68 f s [(x : Int), y, z] 0 h (by simp) (by simp) hw) rfl rfl (fun _ => by simp) ?_
       simp
       refine j0e (h68 f s _ 1 h (by simp) (by simp) d1) rfl rfl (fun _ => by simp) ?_
       simp
       refine j0e (h68 f s _ 0 h (by simp) (by simp) d2) rfl rfl (fun _ => by simp) ?_
       simp
       refine j0e (h68 f s [(x : Int), y, z] 1 h (by simp) (by simp) hw) rfl rfl (fun _ => by simp) ?_
       simp
       refine j0e (h68 f s _ 0 h (by simp) (by simp) d3) rfl rfl (fun _ => by simp) ?_
       simp
       refine j0e (h68 f s _ 1 h (by simp) (by simp) d4) rfl rfl (fun _ => by simp) ?_
       simp
       refine j0e (h67 _ _ (by simp)) rfl rfl (fun _ => rfl) ?_
       by_cases hy2 : ybAt f s x y z
       · have hy3 := hy2
         unfold ybAt at hy3
         simp [hy3]
         have : ¬ (x = a ∧ y = b ∧ z = c) := fun ⟨e1, e2, e3⟩ => by
          subst e1 e2 e3
          exact (hf1 hx).2.2.2 hy2
         omega
       · have hy3 := hy2
         unfold ybAt at hy3
         have := hmin x y z hx hy hz hy2
         have e1 : x = a := by omega
         subst e1
         have e2 : y = b := by have := hyb rfl; omega
         subst e2
         have e3 : z = c := by have := hzc rfl rfl; omega
         subst e3
         simp [hy3, (hf1 hx).1]
     · rintro e ⟨hzc, rfl⟩
       simp
       have : ¬ (x = a ∧ y = b) := fun ⟨e1, e2⟩ => by
        have := hzc e1 e2
        have := (hf1 (by omega)).2.2.1
        omega
       omega
     · simp
   · rintro e ⟨hyb, rfl⟩
     simp
     have : ¬ x = a := fun e1 => by
      have := hyb e1
      have := (hf1 (by omega)).2.1
      omega
     omega
   · simp
 · rintro e ⟨h1, rfl⟩
   simp [(hf2 (by omega)).2]
 · simp

theorem yb_v2 (f s : List (List Int)) (x y z : Nat) : ybAt f s x y z ↔
 (v2 f (v2 f x y).toNat (v2 f (v2 s x y).toNat z).toNat = v2 f x (v2 f y z).toNat ∧
  v2 s (v2 f x y).toNat (v2 f (v2 s x y).toNat z).toNat = v2 f (v2 s x (v2 f y z).toNat).toNat (v2 s y z).toNat ∧
  v2 s (v2 s x y).toNat z = v2 s (v2 s x (v2 f y z).toNat).toNat (v2 s y z).toNat) := by
 simp [ybAt, dW, g2]

def S_fault61 (pg : Pg) : Prop := ∀ f s : List (List Int), PM f s → ∃ o : Option (List Int), (o = none ↔ YB f s) ∧ Call pg 61 [sol f s] [sol f s] (ownI o)
set_option maxRecDepth 10000 in
theorem t_fault61 {pg : Pg} (hp : pg.fn 61 = some j2q) : S_fault61 pg := by
 intro f s h
 obtain ⟨a, b, c, l, hl, hf1, hf2, hf3, hmin⟩ := fault f s
 have h0 := h.pos
 have h12 := h.small
 have fr' := fun x hx => h.tf.row (x := x) hx
 have sr' : ∀ x (hx : x < s.length), (s[x]).length = f.length := fun x hx => (h.ts.row hx).trans h.len
 have hF0 : ∀ i j, 0 ≤ v2 f i j := h.tf.nonneg
 have hF1 : ∀ i j, v2 f i j < f.length := h.tf.lt h0
 have hF2 : ∀ i j, (v2 f i j).toNat < f.length := h.tf.ltN h0
 have hS0 : ∀ i j, 0 ≤ v2 s i j := h.ts.nonneg
 have hS1 : ∀ i j, v2 s i j < f.length := fun i j => by have := h.ts.lt (by rw [h.len]; exact h0) i j; rw [h.len] at this; exact this
 have hS2 : ∀ i j, (v2 s i j).toNat < f.length := fun i j => by have := hS0 i j; have := hS1 i j; omega
 refine ⟨if a < f.length then some l else none, ?_, Call.intro hp rfl (by simp) ?_⟩
 · by_cases ha : a < f.length
   · have h1 := (hf1 ha).1
     rw [← hl, if_pos ha, h1]
     simp
   · have h1 := (hf2 ha).2
     rw [← hl, if_neg ha, h1]
     simp
 show wp _ _ j2q.body (post [.t 2] _ _ _) _
 simp [j2q]
 refine j0a (fun x e => x ≤ a ∧ e = fr [(1, some (.val (.mem .own none [tb f, tb s]))), (3, some (.val (I f.length))), (16, some (.val (I f.length))), (17, some (.val (I x)))]) f.length ?_ ?_ 0 _ (by omega) ?_
 · rintro x e hx ⟨hxa, rfl⟩
   simp [hx]
   refine j0a (fun y e => (x = a → y ≤ b) ∧ e = fr [(1, some (.val (.mem .own none [tb f, tb s]))), (3, some (.val (I f.length))), (4, some (.val (I x))), (16, some (.val (I f.length))), (17, some (.val (I x))), (20, some (.val (I f.length))), (21, some (.val (I y)))]) f.length ?_ ?_ 0 _ (by omega) ?_
   · rintro y e hy ⟨hyb, rfl⟩
     simp [hy]
     refine j0a (fun z e => (x = a → y = b → z ≤ c) ∧ e = fr [(1, some (.val (.mem .own none [tb f, tb s]))), (3, some (.val (I f.length))), (4, some (.val (I x))), (5, some (.val (I y))), (16, some (.val (I f.length))), (17, some (.val (I x))), (20, some (.val (I f.length))), (21, some (.val (I y))), (24, some (.val (I f.length))), (25, some (.val (I z)))]) f.length ?_ ?_ 0 _ (by omega) ?_
     · rintro z e hz ⟨hzc, rfl⟩
       have hyb2 := yb_v2 f s x y z
       simp [hx, hy, hz, fr', sr', h.len, j3t, hF0, hF1, hF2, hS0, hS1, hS2]
       have bad : ¬ ybAt f s x y z → x = a ∧ y = b ∧ z = c := fun hn => by
        have := hmin x y z hx hy hz hn
        have e1 : x = a := by omega
        have e2 : y = b := by have := hyb e1; omega
        have e3 : z = c := by have := hzc e1 e2; omega
        exact ⟨e1, e2, e3⟩
       by_cases e1 : v2 f (v2 f x y).toNat (v2 f (v2 s x y).toNat z).toNat = v2 f x (v2 f y z).toNat
       · by_cases e2 : v2 s (v2 f x y).toNat (v2 f (v2 s x y).toNat z).toNat = v2 f (v2 s x (v2 f y z).toNat).toNat (v2 s y z).toNat
         · by_cases e3 : v2 s (v2 s x y).toNat z = v2 s (v2 s x (v2 f y z).toNat).toNat (v2 s y z).toNat
           · simp [e1, e2, e3]
             have : ¬ (x = a ∧ y = b ∧ z = c) := fun ⟨g1, g2, g3⟩ => by
              subst g1 g2 g3
              exact (hf1 hx).2.2.2 (hyb2.2 ⟨e1, e2, e3⟩)
             omega
           · obtain ⟨g1, g2, g3⟩ := bad fun hh => e3 (hyb2.1 hh).2.2
             subst g1 g2 g3
             simp [e1, e2, e3, hx, (hf1 hx).1, ownI]
         · obtain ⟨g1, g2, g3⟩ := bad fun hh => e2 (hyb2.1 hh).2.1
           subst g1 g2 g3
           simp [e1, e2, j03, hx, (hf1 hx).1, ownI]
       · obtain ⟨g1, g2, g3⟩ := bad fun hh => e1 (hyb2.1 hh).1
         subst g1 g2 g3
         simp [e1, j03, hx, (hf1 hx).1, ownI]
     · rintro e ⟨hzc, rfl⟩
       simp
       have : ¬ (x = a ∧ y = b) := fun ⟨e1, e2⟩ => by
        have := hzc e1 e2
        have := (hf1 (by omega)).2.2.1
        omega
       omega
     · simp
   · rintro e ⟨hyb, rfl⟩
     simp
     have : ¬ x = a := fun e1 => by
      have := hyb e1
      have := (hf1 (by omega)).2.1
      omega
     omega
   · simp
 · rintro e ⟨h1, rfl⟩
   have h2 : ¬ a < f.length := by omega
   simp [h2, ownI]
 · simp

def isSol (f s : List (List Int)) : Prop := j2z f s ∧ Inj f s ∧ YB f s

noncomputable def dec (p : Prop) : Bool := @decide p (Classical.propDecidable p)
theorem j0v {p : Prop} (h : p) : dec p = true := by simp [dec, h]
theorem j0n {p : Prop} (h : ¬ p) : dec p = false := by simp [dec, h]

def S_isSol (pg : Pg) (n : Nat) : Prop := ∀ f s : List (List Int), fits f → fits s → Call pg n [sol f s] [sol f s] (B (dec (isSol f s)))
theorem t_l02Is {pg : Pg} (hp : pg.fn 41 = some j6h) (h56 : j6m pg 56) (h57 : S_coll57 pg) (h58 : S_fault58 pg) : S_isSol pg 41 := by
 intro f s hf hs
 refine Call.intro hp rfl (by simp) ?_
 show wp _ _ j6h.body (post [.t 2] _ _ _) _
 simp [j6h]
 refine j0e (h56 f s hf hs) rfl rfl (fun _ => rfl) ?_
 by_cases h1 : j2z f s
 · have hpm := PM.of h1
   obtain ⟨l, hl, hl2, hc⟩ := h57 f s hpm
   simp [h1]
   refine j0e hc rfl rfl (fun _ => by simp) ?_
   by_cases h2 : Inj f s
   · have h3 := hl.2 h2
     obtain ⟨l2, hm, hm2, hc2⟩ := h58 f s hpm
     simp [h3]
     refine j0e hc2 rfl rfl (fun _ => by simp) ?_
     by_cases h4 : YB f s
     · have h5 := hm.2 h4
       simp [h5, j0v (show isSol f s from ⟨h1, h2, h4⟩)]
     · have h5 : ¬ l2.length = 0 := fun h => h4 (hm.1 h)
       have h6 : ¬ ((l2.length : Nat) : Int) = 0 := by omega
       simp [h5, j0n (show ¬ isSol f s from fun h => h4 h.2.2)]
   · have h3 : ¬ l.length = 0 := fun h => h2 (hl.1 h)
     have h6 : ¬ ((l.length : Nat) : Int) = 0 := by omega
     simp [h3, j03, j0n (show ¬ isSol f s from fun h => h2 h.2.1)]
 · simp [h1, j03, j0n (show ¬ isSol f s from fun h => h1 h.1)]

theorem t_IsSolution {pg : Pg} (hp : pg.fn 42 = some j30) (h59 : j6m pg 59) (h60 : S_coll60 pg) (h61 : S_fault61 pg) : S_isSol pg 42 := by
 intro f s hf hs
 refine Call.intro hp rfl (by simp) ?_
 show wp _ _ j30.body (post [.t 2] _ _ _) _
 simp [j30]
 refine j0e (h59 f s hf hs) rfl rfl (fun _ => rfl) ?_
 by_cases h1 : j2z f s
 · have hpm := PM.of h1
   obtain ⟨l, hl, hc⟩ := h60 f s hpm
   simp [h1]
   refine j0e hc rfl rfl (fun _ => by cases l <;> simp [ownI]) ?_
   by_cases h2 : Inj f s
   · have h3 := hl.2 h2
     subst h3
     obtain ⟨l2, hm, hc2⟩ := h61 f s hpm
     simp [ownI]
     refine j0e hc2 rfl rfl (fun _ => by cases l2 <;> simp [ownI]) ?_
     by_cases h4 : YB f s
     · have h5 := hm.2 h4
       subst h5
       simp [ownI, j0v (show isSol f s from ⟨h1, h2, h4⟩)]
     · cases l2 with
       | none => exact absurd (hm.1 rfl) h4
       | some l2 => simp [ownI, j0n (show ¬ isSol f s from fun h => h4 h.2.2)]
   · cases l with
     | none => exact absurd (hl.1 rfl) h2
     | some l => simp [ownI, j03, j0n (show ¬ isSol f s from fun h => h2 h.2.1)]
 · simp [h1, j03, j0n (show ¬ isSol f s from fun h => h1 h.1)]
end Go.Mch
namespace Go.Mch

theorem j66 (a b : List (List Int)) : rows (a ++ b) = rows a ++ rows b := by simp [rows]

def oL (l : List (List Int)) : Option (List (List Int)) := if l = [] then none else some l
end Go.Mch
namespace Go.Mch

def eT : Option (List (List Int)) → T
 | none => nil
 | some X => tb X
def ryT (o : Option (List (List Int))) : Rw (Rw Int) := Rw.ofO (o.map fun X => X.map .of)
theorem rawT_ry (o : Option (List (List Int))) : rawT (ryT o) = eT o := by
 cases o with
 | none => rfl
 | some X => exact rawT_tb X
theorem map_lst_of {α : Type} (X : List (List α)) : (X.map Rw.of).map lst = X := by simp [Function.comp_def]
theorem lst_ry (o : Option (List (List Int))) : (lst (ryT o)).map lst = lso o := by
 cases o with
 | none => rfl
 | some X => exact map_lst_of X
theorem small_ry {o : Option (List (List Int))} (h : j4j (lso o)) : small (ryT o) := by
 cases o with
 | none => exact ⟨by simp [ryT, Rw.ofO, lst], by simp [ryT, Rw.ofO, lst]⟩
 | some X => exact ⟨by simpa [ryT, Rw.ofO] using h.1, by simpa [ryT, Rw.ofO] using h.2⟩
theorem S_eqT.o {pg : Pg} (h : S_eqT pg) (o o' : Option (List (List Int))) (hs : j4j (lso o)) : Call pg 21 [eT o, eT o'] [eT o, eT o'] (B (decide (lso o = lso o'))) := by
 have := h (ryT o) (ryT o') (small_ry hs)
 simp only [rawT_ry, lst_ry] at this
 exact this
theorem S_heldT.o {pg : Pg} (h : S_heldT pg) (o : Option (List (List Int))) (k : Int) (hs : j4j (lso o)) (h1 : -1 ≤ k) (h2 : k ≤ 2305843009213693952) : Call pg 24 [eT o, I k] [eT o, I k] (I (heldL (lso o) k)) := by
 have := h (ryT o) k (small_ry hs) h1 h2
 simp only [rawT_ry, lst_ry] at this
 exact this
theorem S_eqSol.o {pg : Pg} (h : S_eqSol pg) (X Y Z W : List (List Int)) (hX : j4j X) (hY : j4j Y) : Call pg 18 [.agg [tb X, tb Y], .agg [tb Z, tb W]] [.agg [tb X, tb Y], .agg [tb Z, tb W]] (B (decide (X = Z ∧ Y = W))) := by
 have := h (ryT (some X)) (ryT (some Y)) (ryT (some Z)) (ryT (some W)) (small_ry hX) (small_ry hY)
 simp only [rawT_ry, lst_ry] at this
 exact this

theorem upT_small {X : List (List Int)} (h : j4j X) (k : Int) : j4j (upT k X) := by
 refine ⟨by simpa [upT] using h.1, fun r hr => ?_⟩
 simp only [upT, List.mem_map, List.mem_range] at hr
 obtain ⟨j, hj, rfl⟩ := hr
 rw [up_length]
 have := h.2 X[j] (List.getElem_mem hj)
 simpa [List.getD_eq_getElem?_getD, hj] using this

end Go.Mch
namespace Go.Mch

def isTup (n : Int) (xs : List Int) : Prop := xs.length ≤ 12 ∧ inR 0 (n - 1) xs
instance (n : Int) (xs : List Int) : Decidable (isTup n xs) := by unfold isTup; infer_instance
def tmOk (f : List (List Int)) (w : List Int) (p : Int) : Prop := isTup f.length w ∧ 0 ≤ p ∧ p ≤ (w.length : Int) - 2
instance (f : List (List Int)) (w : List Int) (p : Int) : Decidable (tmOk f w p) := by unfold tmOk; infer_instance
end Go.Mch
namespace Go.Mch

def eI : Option (List Int) → T
 | none => nil
 | some X => ix X
theorem rawI_ry (o : Option (List Int)) : rawI (Rw.ofO o) = eI o := by cases o <;> rfl
theorem S_eqI.o {pg : Pg} (h : S_eqI pg) (o o' : Option (List Int)) (hs : (lso o).length ≤ 1048576) : Call pg 9 [eI o, eI o'] [eI o, eI o'] (B (decide (lso o = lso o'))) := by
 have := h (Rw.ofO o) (Rw.ofO o') (by simpa using hs)
 simp only [rawI_ry, lst_ofO] at this
 exact this
theorem S_heldI.o {pg : Pg} (h : S_heldI pg) (o : Option (List Int)) (k : Int) (hs : (lso o).length ≤ 1048576) (h1 : -1 ≤ k) (h2 : k ≤ 4611686018427387904) : Call pg 13 [eI o, I k] [eI o, I k] (I (held (lso o) k)) := by
 have := h (Rw.ofO o) k (by simpa using hs) h1 h2
 simp only [rawI_ry, lst_ofO] at this
 exact this
end Go.Mch
namespace Go.Mch


theorem j4w {α : Type} [DecidableEq α] : ∀ (l p : List α), l.Nodup → (∀ x ∈ l, x ∈ p) → l.length ≤ p.length
 | [], _, _, _ => by simp
 | a :: l, p, hd, hs => by
  have ha : a ∈ p := hs a (by simp)
  have hn := List.nodup_cons.1 hd
  have := j4w l (p.erase a) hn.2 fun x hx => by
   have hne : x ≠ a := fun e => hn.1 (e ▸ hx)
   exact (List.mem_erase_of_ne hne).2 (hs x (by simp [hx]))
  have h2 := List.length_erase_of_mem ha
  have h3 : 0 < p.length := List.length_pos_of_mem ha
  simp only [List.length_cons]
  omega

theorem nodup_of_sub {α : Type} [DecidableEq α] : ∀ (l p : List α), l.Nodup → (∀ x ∈ l, x ∈ p) → p.length = l.length → p.Nodup
 | [], p, _, _, h => by
  have : p = [] := List.eq_nil_of_length_eq_zero (by simpa using h)
  subst this
  exact List.nodup_nil
 | a :: l, p, hd, hs, h => by
  have ha : a ∈ p := hs a (by simp)
  have hn := List.nodup_cons.1 hd
  have h2 := List.length_erase_of_mem ha
  have h4 : (p.erase a).length = l.length := by simp only [List.length_cons] at h; omega
  have hsub : ∀ x ∈ l, x ∈ p.erase a := fun x hx => by
   have hne : x ≠ a := fun e => hn.1 (e ▸ hx)
   exact (List.mem_erase_of_ne hne).2 (hs x (by simp [hx]))
  have hp := nodup_of_sub l (p.erase a) hn.2 hsub h4
  have hna : a ∉ p.erase a := fun hm => by
   have := j4w (a :: l) (p.erase a) hd fun x hx => by
    rcases List.mem_cons.1 hx with rfl | hx
    · exact hm
    · exact hsub x hx
   simp only [List.length_cons] at this
   omega
  exact (List.perm_cons_erase ha).nodup_iff.2 (List.nodup_cons.2 ⟨hna, hp⟩)

def nums (n : Nat) : List Int := (List.range n).map Int.ofNat
theorem nums_nodup (n : Nat) : (nums n).Nodup := by
 refine List.Pairwise.map _ (fun a b h => ?_) (List.nodup_range (n := n))
 intro e
 exact h (Int.ofNat.inj e)
theorem perm_permuted {p : List Int} (h1 : 1 ≤ p.length) (h2 : p.length ≤ 12) (hr : ∀ x ∈ p, 0 ≤ x ∧ x < p.length) : isPerm p ↔ j1z p := by
 constructor
 · intro h
   refine ⟨hr, nodup_of_sub (nums p.length) p (nums_nodup _) (fun x hx => ?_) (by simp [nums])⟩
   simp only [nums, List.mem_map, List.mem_range] at hx
   obtain ⟨k, hk, rfl⟩ := hx
   exact h.2.2 k hk
 · intro h
   refine ⟨h1, h2, fun x hx => ?_⟩
   by_cases hm : (x : Int) ∈ p
   · exact hm
   · have := j4w p ((nums p.length).erase x) h.2 fun y hy => by
      have hy2 := hr y hy
      have hne : y ≠ (x : Int) := fun e => hm (e ▸ hy)
      refine (List.mem_erase_of_ne hne).2 ?_
      simp only [nums, List.mem_map, List.mem_range]
      exact ⟨y.toNat, by omega, by show ((y.toNat : Nat) : Int) = y; omega⟩
     have hx2 : (x : Int) ∈ nums p.length := by
      simp only [nums, List.mem_map, List.mem_range]
      exact ⟨x, hx, rfl⟩
     have h3 := List.length_erase_of_mem hx2
     have h4 : (nums p.length).length = p.length := by simp [nums]
     omega
end Go.Mch
namespace Go.Mch

def sdAt (t : List (List Int)) (x y z : Nat) : Prop := v2 t x (v2 t y z).toNat = v2 t (v2 t x y).toNat (v2 t x z).toNat
instance (t : List (List Int)) (x y z : Nat) : Decidable (sdAt t x y z) := by unfold sdAt; infer_instance
end Go.Mch
namespace Go.Mch

theorem S_eqRack.o {pg : Pg} (h : S_eqRack pg) (X Z : List (List Int)) (hX : j4j X) : Call pg 10 [.agg [tb X], .agg [tb Z]] [.agg [tb X], .agg [tb Z]] (B (decide (X = Z))) := by
 have := h (ryT (some X)) (ryT (some Z)) (small_ry hX)
 simp only [rawT_ry, lst_ry] at this
 exact this

end Go.Mch
namespace Go.Mch

@[simp] theorem frzL_mapI (k : K) (xs : List Int) : T.frzL k (xs.map I) = xs.map I := by
 induction xs with
 | nil => rfl
 | cons x xs ih => simp [ih]
@[simp] theorem frzL_tbL (k : K) (t : List (List Int)) : T.frzL k (tbL t) = tbL t := by
 induction t with
 | nil => rfl
 | cons x xs ih => simp only [tbL, List.map_cons] at ih ⊢; simp [ih]
theorem j6c {α : Type} (f : Nat → α) (k : Nat) : (List.range (k + 1)).map f = (List.range k).map f ++ [f k] := by simp [List.range_succ]

def tabL (n : Nat) (g : Nat → Nat → Int) : List (List Int) := (List.range n).map fun x => (List.range n).map fun y => g x y
@[simp] theorem tabL_length (n : Nat) (g : Nat → Nat → Int) : (tabL n g).length = n := by simp [tabL]
theorem j7e {n : Nat} {g : Nat → Nat → Int} {r : List Int} (h : r ∈ tabL n g) : r.length = n := by
 simp only [tabL, List.mem_map] at h
 obtain ⟨x, _, rfl⟩ := h
 simp
theorem v2_tabL {n : Nat} {g : Nat → Nat → Int} {x y : Nat} (hx : x < n) (hy : y < n) : v2 (tabL n g) x y = g x y := by
 simp [v2, tabL, hx, hy]
theorem tab_of {n : Nat} {g : Nat → Nat → Int} (h : ∀ x y, x < n → y < n → 0 ≤ g x y ∧ g x y < n) : Tab (tabL n g) := by
 intro r hr
 refine ⟨by rw [j7e hr]; simp, fun v hv => ?_⟩
 simp only [tabL, List.mem_map, List.mem_range] at hr
 obtain ⟨x, hx, rfl⟩ := hr
 simp only [List.mem_map, List.mem_range] at hv
 obtain ⟨y, hy, rfl⟩ := hv
 simpa using h x y hx hy
theorem tabL_congr {n : Nat} {g g' : Nat → Nat → Int} (h : ∀ x y, x < n → y < n → g x y = g' x y) : tabL n g = tabL n g' := by
 unfold tabL
 apply List.map_congr_left
 intro x hx
 apply List.map_congr_left
 intro y hy
 exact h x y (by simpa using hx) (by simpa using hy)
def colL (t : List (List Int)) (y : Nat) : List Int := (List.range t.length).map fun x => v2 t x y
def j1b (t : List (List Int)) : List (List Int) := tabL t.length fun x y => v2 t y x
@[simp] theorem colL_length (t : List (List Int)) (y : Nat) : (colL t y).length = t.length := by simp [colL]
@[simp] theorem turnL_length (t : List (List Int)) : (j1b t).length = t.length := by simp [j1b]
theorem turnL_tab {t : List (List Int)} (h : Tab t) (h0 : 0 < t.length) : Tab (j1b t) := by
 apply tab_of
 intro x y hx hy
 exact ⟨h.nonneg _ _, h.lt h0 _ _⟩

def S_column (pg : Pg) : Prop := ∀ (t : List (List Int)) (y : Nat), t.length ≤ 1048576 → (∀ r ∈ t, y < r.length) → Call pg 375 [tb t, I y] [tb t, I y] (.mem .own (some 1) ((colL t y).map I))
theorem t_column {pg : Pg} (hp : pg.fn 375 = some j37) : S_column pg := by
 intro t y hl hr
 refine Call.intro hp rfl (by simp) ?_
 show wp _ _ j37.body (post [.t 4] _ _ _) _
 simp [j37]
 refine j0a (fun k e => e = fr [(0, some (.val (tb t))), (1, some (.val (I y))), (5, some (.val (.mem .own (some 1) (((List.range k).map fun x => v2 t x y).map I)))), (6, some (.val (I k)))]) t.length ?_ ?_ 0 _ (by omega) ?_
 · rintro k e hk rfl
   have hy := hr _ (List.getElem_mem hk)
   simp [hk, hy, j3t, j6c, roomy]
   omega
 · rintro e rfl
   simp [colL]
 · simp

def S_turn (pg : Pg) (n : Nat) : Prop := ∀ t : List (List Int), Tab t → t.length ≤ 12 → Call pg n [tb t] [tb t] (.mem .own (some 1) (rows (j1b t)))
theorem turnL_rows (t : List (List Int)) : j1b t = (List.range t.length).map fun y => colL t y := rfl
theorem t_l01Turn {pg : Pg} (hp : pg.fn 265 = some j46) (h375 : S_column pg) : S_turn pg 265 := by
 intro t ht hl
 refine Call.intro hp rfl (by simp) ?_
 show wp _ _ j46.body (post [.t 2] _ _ _) _
 simp [j46]
 refine j0a (fun k e => e = fr [(0, some (.val (tb t))), (3, some (.val (.mem .own (some 1) (rows ((List.range k).map fun y => colL t y))))), (4, some (.val (I k)))]) t.length ?_ ?_ 0 _ (by omega) ?_
 · rintro k e hk rfl
   simp [hk]
   refine j0e (h375 t k (by omega) (fun r hr => by rw [(ht r hr).1]; exact hk)) rfl rfl (fun _ => by simp) ?_
   simp [j6c, j66, roomy]
   simp [rows]
   omega
 · rintro e rfl
   simp [turnL_rows]
 · simp [rows]

def S_tableBy (pg : Pg) : Prop := ∀ (n : Nat) (g : Nat → Nat → Int) (f : Nat) (caps : List T), n ≤ 1048576 → T.eryL .old caps = caps → T.j0l caps = true →
 (∀ x y : Nat, x < n → y < n → Call pg f (I x :: I y :: caps) (I x :: I y :: caps) (I (g x y))) → Call pg 376 [I n, .fn f caps] [I n, .fn f caps] (.mem .own (some 1) (rows (tabL n g)))

theorem set_mid {α : Type} {l : List α} {r : List α} {k : Nat} {z v : α} (h : l.length = k) : (l ++ z :: r).set k v = l ++ v :: r := by
 subst h; simp
theorem fill_succ {α : Type} {n k : Nat} (z : α) (h : k < n) : List.replicate (n - k) z = z :: List.replicate (n - (k + 1)) z := by
 rw [show n - k = (n - (k + 1)) + 1 from by omega, List.replicate_succ]

set_option maxRecDepth 10000 in
theorem t_tableBy {pg : Pg} (hp : pg.fn 376 = some j5d) : S_tableBy pg := by
 intro n g f caps hn hc1 hc2 hc
 refine Call.intro hp rfl (by simp [hc2]) ?_
 show wp _ _ j5d.body (post [.t 4] _ _ _) _
 simp [j5d]
 refine ⟨by unfold roomy; omega, ?_⟩
 refine j0a (fun x e => e = fr [(0, some (.val (I n))), (1, some (.val (.fn f caps))), (5, some (.val (.mem .own (some 1) (rows ((List.range x).map fun i => (List.range n).map (g i)) ++ List.replicate (n - x) nil)))), (11, some (.val (I n))), (12, some (.val (I x)))]) n ?_ ?_ 0 _ (by omega) ?_
 · rintro x e hx rfl
   have hlen : (rows ((List.range x).map fun i => (List.range n).map (g i))).length = x := by simp
   rw [fill_succ nil hx]
   simp [hx, set_mid hlen]
   refine ⟨by unfold roomy; omega, by omega, ?_⟩
   refine j0a (fun y e => e = fr [(0, some (.val (I n))), (1, some (.val (.fn f caps))), (5, some (.val (.mem .own (some 1) (rows ((List.range x).map fun i => (List.range n).map (g i)) ++ .mem .own (some 1) (((List.range y).map (g x)).map I ++ List.replicate (n - y) (I 0)) :: List.replicate (n - (x + 1)) nil)))), (6, some (.val (I x))), (11, some (.val (I n))), (12, some (.val (I x))), (24, some (.val (I n))), (25, some (.val (I y)))]) n ?_ ?_ 0 _ (by omega) ?_
   · rintro y e hy rfl
     have hlen2 : (((List.range y).map (g x)).map I).length = y := by simp
     rw [fill_succ (I 0) hy]
     simp [hy]
     refine ⟨by omega, ?_⟩
     refine j0e (by simpa [hc1] using hc x y hx hy) rfl rfl (fun _ => by simp) ?_
     simp [set_mid hlen, j6c]
     omega
   · rintro e rfl
     simp [j6c, j66]
     simp [rows]
     omega
   · simp
 · rintro e rfl
   simp [tabL, hc2]
 · simp [rows]

def S_turn1 (pg : Pg) : Prop := ∀ (t : List (List Int)) (x y : Nat) (hx : x < t.length) (hy : y < t.length), (t[y]).length = t.length → Call pg 377 [I x, I y, .mem .old none [tb t]] [I x, I y, .mem .old none [tb t]] (I (v2 t y x))
theorem t_turn1 {pg : Pg} (hp : pg.fn 377 = some j25) : S_turn1 pg := by
 intro t x y hx hy hr
 refine Call.intro hp rfl (by simp) ?_
 show wp _ _ j25.body (post [.t 5] _ _ _) _
 simp [j25, hx, hy, hr, j3t]
theorem t_transposed {pg : Pg} (hp : pg.fn 267 = some j3w) (h376 : S_tableBy pg) (h377 : S_turn1 pg) : S_turn pg 267 := by
 intro t ht hl
 refine Call.intro hp rfl (by simp) ?_
 show wp _ _ j3w.body (post [.t 2] _ _ _) _
 simp [j3w]
 refine j0e (h376 t.length (fun x y => v2 t y x) 377 [.mem .old none [tb t]] (by omega) (by simp) (by simp) (fun x y hx hy => h377 t x y hx hy (ht.row hy))) rfl rfl (fun _ => by simp) ?_
 simp [j1b]

def j52 (f s : List (List Int)) : Prop := j4v f ∧ j4v (j1b s)
instance (f s : List (List Int)) : Decidable (j52 f s) := by unfold j52; infer_instance
def S_nonDeg (pg : Pg) (n : Nat) : Prop := ∀ f s : List (List Int), PM f s → Call pg n [sol f s] [sol f s] (B (decide (j52 f s)))
theorem turnL_fits {t : List (List Int)} (h : t.length ≤ 12) : ∀ r ∈ j1b t, r.length ≤ 1048576 := fun r hr => by
 have := j7e hr
 omega

theorem t_isNondeg {pg : Pg} (hp : pg.fn 285 = some j1v) (h51 : S_permRows pg) (h267 : S_turn pg 267) : S_nonDeg pg 285 := by
 intro f s h
 have h0 := h.pos
 have h12 := h.small
 have hl := h.len
 refine Call.intro hp rfl (by simp) ?_
 show wp _ _ j1v.body (post [.t 2] _ _ _) _
 simp [j1v]
 refine j0e (h51 f (by omega) (fun r hr => by have := (h.tf r hr).1; omega)) rfl rfl (fun _ => rfl) ?_
 by_cases h1 : j4v f
 · simp [h1]
   refine j0e (h267 s h.ts (by omega)) rfl rfl (fun _ => by simp) ?_
   simp
   refine j0e (h51 (j1b s) (by simp; omega) (turnL_fits (by omega))) rfl rfl (fun _ => rfl) ?_
   simp [j52, h1]
 · simp [h1, j52, j03]

theorem permRows_spec {t : List (List Int)} (h : Tab t) (h0 : 0 < t.length) (h12 : t.length ≤ 12) : (∀ r ∈ t, isPerm r) ↔ j4v t := by
 constructor
 · intro g r hr
   have := h r hr
   exact (perm_permuted (by omega) (by omega) (fun x hx => by have := this.2 x hx; omega)).1 (g r hr)
 · intro g r hr
   have := h r hr
   exact (perm_permuted (by omega) (by omega) (fun x hx => by have := this.2 x hx; omega)).2 (g r hr)

def S_l01Rows (pg : Pg) : Prop := ∀ t : List (List Int), Tab t → 0 < t.length → t.length ≤ 12 → Call pg 410 [tb t] [tb t] (B (decide (j4v t)))
theorem t_l01Rows {pg : Pg} (hp : pg.fn 410 = some j48) (h47 : S_perm pg 47) : S_l01Rows pg := by
 intro t ht h0 h12
 refine Call.intro hp rfl (by simp) ?_
 show wp _ _ j48.body (post [.t 2] _ _ _) _
 have hsp := permRows_spec ht h0 h12
 simp [j48]
 refine j0a (fun k e => (∀ i (h : i < t.length), i < k → isPerm t[i]) ∧ e = fr [(0, some (.val (tb t))), (3, some (.val (I k)))]) t.length ?_ ?_ 0 _ (by omega) ?_
 · rintro k e hk ⟨h1, rfl⟩
   simp [hk]
   refine j0e (h47 _ (by have := ht.row hk; omega)) rfl rfl (fun _ => rfl) ?_
   by_cases hm : isPerm t[k]
   · simp [hm]
     refine ⟨by omega, fun i hi hik => ?_⟩
     rcases Nat.lt_or_ge i k with h2 | h2
     · exact h1 i hi h2
     · have : i = k := by omega
       subst this; exact hm
   · have : ¬ j4v t := fun h => hm (hsp.2 h _ (List.getElem_mem hk))
     simp [hm, this]
 · rintro e ⟨h1, rfl⟩
   have : j4v t := hsp.1 fun x hx => by
    obtain ⟨i, hi, rfl⟩ := List.getElem_of_mem hx
    exact h1 i hi hi
   simp [this]
 · simp

theorem t_l02Good {pg : Pg} (hp : pg.fn 350 = some j43) (h410 : S_l01Rows pg) (h265 : S_turn pg 265) : S_nonDeg pg 350 := by
 intro f s h
 have h0 := h.pos
 have h12 := h.small
 have hl := h.len
 refine Call.intro hp rfl (by simp) ?_
 show wp _ _ j43.body (post [.t 2] _ _ _) _
 simp [j43]
 refine j0e (h410 f h.tf h0 h12) rfl rfl (fun _ => rfl) ?_
 by_cases h1 : j4v f
 · simp [h1]
   refine j0e (h265 s h.ts (by omega)) rfl rfl (fun _ => by simp) ?_
   simp
   refine j0e (h410 (j1b s) (turnL_tab h.ts (by omega)) (by simp; omega) (by simp; omega)) rfl rfl (fun _ => rfl) ?_
   simp [j52, h1]
 · simp [h1, j52, j03]

def isReg (f s : List (List Int)) : Prop := isSol f s ∧ j52 f s
def S_reg (pg : Pg) (n : Nat) : Prop := ∀ f s : List (List Int), fits f → fits s → Call pg n [sol f s] [sol f s] (B (dec (isReg f s)))
theorem t_l07Is {pg : Pg} (hp : pg.fn 264 = some j6g) (h41 : S_isSol pg 41) (h350 : S_nonDeg pg 350) : S_reg pg 264 := by
 intro f s hf hs
 refine Call.intro hp rfl (by simp) ?_
 show wp _ _ j6g.body (post [.t 2] _ _ _) _
 simp [j6g]
 refine j0e (h41 f s hf hs) rfl rfl (fun _ => rfl) ?_
 by_cases h1 : isSol f s
 · simp [j0v h1]
   refine j0e (h350 f s (PM.of h1.1)) rfl rfl (fun _ => rfl) ?_
   by_cases h2 : j52 f s
   · simp [h2, j0v (show isReg f s from ⟨h1, h2⟩)]
   · simp [h2, j0n (show ¬ isReg f s from fun h => h2 h.2)]
 · simp [j0n h1, j03, j0n (show ¬ isReg f s from fun h => h1 h.1)]
theorem t_isRegular {pg : Pg} (hp : pg.fn 266 = some j38) (h42 : S_isSol pg 42) (h285 : S_nonDeg pg 285) : S_reg pg 266 := by
 intro f s hf hs
 refine Call.intro hp rfl (by simp) ?_
 show wp _ _ j38.body (post [.t 2] _ _ _) _
 simp [j38]
 refine j0e (h42 f s hf hs) rfl rfl (fun _ => rfl) ?_
 by_cases h1 : isSol f s
 · simp [j0v h1]
   refine j0e (h285 f s (PM.of h1.1)) rfl rfl (fun _ => rfl) ?_
   by_cases h2 : j52 f s
   · simp [h2, j0v (show isReg f s from ⟨h1, h2⟩)]
   · simp [h2, j0n (show ¬ isReg f s from fun h => h2 h.2)]
 · simp [j0n h1, j03, j0n (show ¬ isReg f s from fun h => h1 h.1)]

end Go.Mch
namespace Go.Mch

def j6n (p q : List Int) : List Int := p.map fun x => q.getD x.toNat 0
@[simp] theorem thenL_length (p q : List Int) : (j6n p q).length = p.length := by simp [j6n]
def S_then (pg : Pg) (n : Nat) : Prop := ∀ p q : List Int, p.length ≤ 1048576 → inN q.length p → Call pg n [ix p, ix q] [ix p, ix q] (.mem .own (some 1) ((j6n p q).map I))
theorem thenL_take {p q : List Int} {k : Nat} (hk : k < p.length) (h : (p[k]).toNat < q.length) : (j6n p q).take (k + 1) = (j6n p q).take k ++ [q[(p[k]).toNat]] := by
 rw [List.take_succ_eq_append_getElem (by simpa using hk)]
 simp [j6n, h]
theorem t_l01Then {pg : Pg} (hp : pg.fn 279 = some j47) : S_then pg 279 := by
 intro p q hl hi
 refine Call.intro hp rfl (by simp) ?_
 show wp _ _ j47.body (post [.t 4] _ _ _) _
 simp [j47]
 refine j0a (fun k e => e = fr [(0, some (.val (ix p))), (1, some (.val (ix q))), (5, some (.val (.mem .own (some 1) (((j6n p q).take k).map I)))), (6, some (.val (I k)))]) p.length ?_ ?_ 0 _ (by omega) ?_
 · rintro k e hk rfl
   have h1 := hi _ (List.getElem_mem hk)
   have h2 : (p[k]).toNat < q.length := by omega
   simp [hk, h1, h2, thenL_take hk h2, roomy]
   omega
 · rintro e rfl
   simp [take_len]
 · simp

def S_copyT (pg : Pg) (n : Nat) : Prop := ∀ t : List (List Int), fits t → Call pg n [tb t] [tb t] (.mem .own (some 1) (rows t))
theorem rows_take_succ {t : List (List Int)} {k : Nat} (hk : k < t.length) : rows (t.take (k + 1)) = rows (t.take k) ++ [.mem .own (some 1) ((t[k]).map I)] := by
 rw [List.take_succ_eq_append_getElem hk, j66]; rfl
theorem t_l01Own2 {pg : Pg} (hp : pg.fn 280 = some j5a) (h31 : S_own pg) : S_copyT pg 280 := by
 intro t ht
 have hl := ht.1
 refine Call.intro hp rfl (by simp) ?_
 show wp _ _ j5a.body (post [.t 2] _ _ _) _
 simp [j5a]
 refine j0a (fun k e => e = fr [(0, some (.val (tb t))), (3, some (.val (.mem .own (some 1) (rows (t.take k))))), (4, some (.val (I k)))]) t.length ?_ ?_ 0 _ (by omega) ?_
 · rintro k e hk rfl
   simp [hk]
   refine j0e (h31 _ (ht.2 _ (List.getElem_mem hk))) rfl rfl (fun _ => by simp) ?_
   simp [rows_take_succ hk, roomy]
   omega
 · rintro e rfl
   simp [take_len]
 · simp [rows]

abbrev RI := List (List Int) → List (List Int) → Int
def S_solB (pg : Pg) (n : Nat) (R : List (List Int) → List (List Int) → Bool) (C : RI) : Prop := ∀ f s : List (List Int), fits f → fits s → Call pg n [sol f s] [sol f s] (.tup [B (R f s), I (C f s)])
noncomputable def onReg {α : Type} (z : α) (X : List (List Int) → List (List Int) → α) (f s : List (List Int)) : α := if dec (isReg f s) then X f s else z
theorem j5o {α : Type} {z : α} {X : List (List Int) → List (List Int) → α} {f s : List (List Int)} (h : isReg f s) : onReg z X f s = X f s := by simp [onReg, j0v h]
theorem j5m {α : Type} {z : α} {X : List (List Int) → List (List Int) → α} {f s : List (List Int)} (h : ¬ isReg f s) : onReg z X f s = z := by simp [onReg, j0n h]


def abel (f : List (List Int)) : Prop := ∀ x y : Nat, x < f.length → y < f.length → j6n (f.getD x []) (f.getD y []) = j6n (f.getD y []) (f.getD x [])
instance (f : List (List Int)) : Decidable (abel f) := by
 have : abel f ↔ ∀ x ∈ List.range f.length, ∀ y ∈ List.range f.length, j6n (f.getD x []) (f.getD y []) = j6n (f.getD y []) (f.getD x []) := by
  simp only [abel, List.mem_range]
  exact ⟨fun h x hx y hy => h x y hx hy, fun h x y hx hy => h x hx y hy⟩
 exact decidable_of_iff _ this.symm
theorem Tab.inN {t : List (List Int)} (h : Tab t) {x : Nat} (hx : x < t.length) : inN t.length t[x] := fun v hv => (h _ (List.getElem_mem hx)).2 v hv

end Go.Mch
namespace Go.Mch

def act (p : List Int) (x : Int) : Int := p.getD x.toNat 0
def Cl (ms : List (List Int)) (S : Int → Prop) : Prop := ∀ x, S x → ∀ p ∈ ms, S (act p x)
def Rch (ms : List (List Int)) (i x : Int) : Prop := ∀ S : Int → Prop, S i → Cl ms S → S x
theorem rch_refl (ms : List (List Int)) (i : Int) : Rch ms i i := fun _ h _ => h
theorem rch_step {ms : List (List Int)} {i x : Int} (h : Rch ms i x) {p : List Int} (hp : p ∈ ms) : Rch ms i (act p x) := fun S h1 h2 => h2 x (h S h1 h2) p hp
theorem rch_list {ms : List (List Int)} {i : Int} {l : List Int} (hi : i ∈ l) (hr : ∀ x ∈ l, Rch ms i x) (hc : ∀ x ∈ l, ∀ p ∈ ms, act p x ∈ l) (x : Int) : x ∈ l ↔ Rch ms i x :=
 ⟨hr x, fun h => h (· ∈ l) hi hc⟩

def Prms (n : Nat) (ms : List (List Int)) : Prop := ∀ p ∈ ms, p.length = n ∧ j1z p
theorem act_rng {n : Nat} {ms : List (List Int)} (h : Prms n ms) {p : List Int} (hp : p ∈ ms) {x : Int} (hx : 0 ≤ x ∧ x < n) : 0 ≤ act p x ∧ act p x < n := by
 obtain ⟨h1, h2⟩ := h p hp
 have hl : x.toNat < p.length := by omega
 have := h2.1 _ (List.getElem_mem hl)
 simp only [act, List.getD_eq_getElem?_getD, List.getElem?_eq_getElem hl, Option.getD_some]
 omega
theorem act_inj {n : Nat} {ms : List (List Int)} (h : Prms n ms) {p : List Int} (hp : p ∈ ms) {x y : Int} (hx : 0 ≤ x ∧ x < n) (hy : 0 ≤ y ∧ y < n) (he : act p x = act p y) : x = y := by
 obtain ⟨h1, h2⟩ := h p hp
 have hl : x.toNat < p.length := by omega
 have hl2 : y.toNat < p.length := by omega
 simp only [act, List.getD_eq_getElem?_getD, List.getElem?_eq_getElem hl, List.getElem?_eq_getElem hl2, Option.getD_some] at he
 have := (List.getElem_inj h2.2).1 he
 omega
theorem rch_rng {n : Nat} {ms : List (List Int)} (h : Prms n ms) {i x : Int} (hi : 0 ≤ i ∧ i < n) (hx : Rch ms i x) : 0 ≤ x ∧ x < n :=
 hx (fun x => 0 ≤ x ∧ x < n) hi fun _ hy _ hp => act_rng h hp hy
theorem mem_nums {n : Nat} {x : Int} : x ∈ nums n ↔ 0 ≤ x ∧ x < n := by
 simp only [nums, List.mem_map, List.mem_range]
 constructor
 · rintro ⟨k, hk, rfl⟩
   simp only [Int.ofNat_eq_natCast]
   omega
 · rintro ⟨h1, h2⟩
   exact ⟨x.toNat, by omega, by simp only [Int.ofNat_eq_natCast]; omega⟩
theorem compl_closed {n : Nat} {ms : List (List Int)} (h : Prms n ms) {S : Int → Prop} (hS : Cl ms S) {x : Int} (hx : 0 ≤ x ∧ x < n) (hn : ¬ S x) {p : List Int} (hp : p ∈ ms) : ¬ S (act p x) := by
 intro hy
 have hL : ∀ y, y ∈ (nums n).filter (fun y => dec (S y)) ↔ (0 ≤ y ∧ y < n) ∧ S y := fun y => by
  rw [List.mem_filter, mem_nums]
  refine ⟨fun hh => ⟨hh.1, ?_⟩, fun hh => ⟨hh.1, j0v hh.2⟩⟩
  by_cases hs : S y
  · exact hs
  · have := hh.2; rw [j0n hs] at this; cases this
 have hdL : ((nums n).filter (fun y => dec (S y))).Nodup := (nums_nodup n).sublist List.filter_sublist
 generalize (nums n).filter (fun y => dec (S y)) = L at hL hdL
 have hM : (L.map (act p)).Nodup := by
  rw [List.Nodup, List.pairwise_map]
  refine hdL.imp_of_mem ?_
  intro a b ha hb hab he
  exact hab (act_inj h hp ((hL a).1 ha).1 ((hL b).1 hb).1 he)
 have hyM : act p x ∉ L.map (act p) := by
  intro hm
  obtain ⟨z, hz, he⟩ := List.mem_map.1 hm
  have := act_inj h hp ((hL z).1 hz).1 hx he
  subst this
  exact hn ((hL z).1 hz).2
 have := j4w (act p x :: L.map (act p)) L (List.nodup_cons.2 ⟨hyM, hM⟩) fun y hm => by
  rcases List.mem_cons.1 hm with rfl | hm
  · exact (hL _).2 ⟨act_rng h hp hx, hy⟩
  · obtain ⟨z, hz, rfl⟩ := List.mem_map.1 hm
    exact (hL _).2 ⟨act_rng h hp ((hL z).1 hz).1, hS z ((hL z).1 hz).2 p hp⟩
 simp at this
 omega
theorem j5s {n : Nat} {l : List Int} (h : l.Nodup) (hr : ∀ x ∈ l, 0 ≤ x ∧ x < n) : l.length ≤ n := by
 have := j4w l (nums n) h fun x hx => mem_nums.2 (hr x hx)
 simpa [nums] using this


noncomputable def markO (ms : List (List Int)) (i : Int) (lab : List Int) (c : Int) : List Int := (List.range lab.length).map fun x : Nat => if dec (Rch ms i x) then c else lab.getD x 0
@[simp] theorem markO_length (ms : List (List Int)) (i : Int) (lab : List Int) (c : Int) : (markO ms i lab c).length = lab.length := by simp [markO]
theorem j3e {ms : List (List Int)} {i : Int} {lab : List Int} {c : Int} {x : Nat} (hx : x < lab.length) : (markO ms i lab c).getD x 0 = if dec (Rch ms i x) then c else lab.getD x 0 := by
 simp [markO, hx]
noncomputable def orbS (ms : List (List Int)) (n : Nat) : Nat → List Int × Int
 | 0 => (List.replicate n (-1), 0)
 | k + 1 => if 0 ≤ (orbS ms n k).1.getD k 0 then orbS ms n k else (markO ms k (orbS ms n k).1 (orbS ms n k).2, (orbS ms n k).2 + 1)
noncomputable def orbL (ms : List (List Int)) (n : Nat) : List Int := (orbS ms n n).1
@[simp] theorem orbS_length (ms : List (List Int)) (n k : Nat) : (orbS ms n k).1.length = n := by
 induction k with
 | zero => simp [orbS]
 | succ k ih => unfold orbS; split <;> simp [ih]
@[simp] theorem orbL_length (ms : List (List Int)) (n : Nat) : (orbL ms n).length = n := by simp [orbL]

theorem orbS_cnt (ms : List (List Int)) (n k : Nat) : 0 ≤ (orbS ms n k).2 ∧ (orbS ms n k).2 ≤ k := by
 induction k with
 | zero => simp [orbS]
 | succ k ih => unfold orbS; split <;> simp <;> omega
theorem orbS_rng (ms : List (List Int)) (n k : Nat) : ∀ x, x < n → -1 ≤ (orbS ms n k).1.getD x 0 ∧ (orbS ms n k).1.getD x 0 < (orbS ms n k).2 := by
 induction k with
 | zero => intro x hx; simp [orbS, hx]
 | succ k ih =>
  intro x hx
  have h1 := ih x hx
  have h2 := orbS_cnt ms n k
  unfold orbS
  split
  · exact h1
  · rw [j3e (by simpa using hx)]
    simp only
    split <;> omega
theorem orbS_done (ms : List (List Int)) (n k : Nat) (hk : k ≤ n) : ∀ x, x < k → 0 ≤ (orbS ms n k).1.getD x 0 := by
 induction k with
 | zero => intro x hx; omega
 | succ k ih =>
  intro x hx
  have ih := ih (by omega)
  have h2 := orbS_cnt ms n k
  unfold orbS
  split
  · rename_i h3
    rcases Nat.lt_or_ge x k with h | h
    · exact ih x h
    · have : x = k := by omega
      subst this; exact h3
  · rw [j3e (by simp; omega)]
    split
    · exact h2.1
    · rename_i hr
      rcases Nat.lt_or_ge x k with h | h
      · exact ih x h
      · have : x = k := by omega
        subst this
        rw [j0v (rch_refl ms _)] at hr
        simp at hr
theorem orbS_closed {ms : List (List Int)} {n : Nat} (h : Prms n ms) (k : Nat) (hk : k ≤ n) : Cl ms (fun x => (0 ≤ x ∧ x < n) ∧ 0 ≤ (orbS ms n k).1.getD x.toNat 0) := by
 induction k with
 | zero =>
  rintro x ⟨hx, h0⟩ p hp
  have : x.toNat < n := by omega
  simp [orbS, this] at h0
 | succ k ih =>
  have ih := ih (by omega)
  have h2 := orbS_cnt ms n k
  rintro x ⟨hx, h0⟩ p hp
  have hr := act_rng h hp hx
  refine ⟨hr, ?_⟩
  unfold orbS at h0 ⊢
  split at h0
  · rename_i h3
    rw [if_pos h3]
    exact (ih x ⟨hx, h0⟩ p hp).2
  · rename_i h3
    rw [if_neg h3]
    have e1 : ((x.toNat : Nat) : Int) = x := by omega
    have e2 : (((act p x).toNat : Nat) : Int) = act p x := by omega
    simp only at h0 ⊢
    rw [j3e (by simp; omega), e1] at h0
    rw [j3e (by simp; omega), e2]
    by_cases hR : Rch ms k x
    · rw [j0v (rch_step hR hp)]
      simp only [if_true]; exact h2.1
    · rw [j0n hR] at h0
      simp only [Bool.false_eq_true, if_false] at h0
      split
      · exact h2.1
      · exact (ih x ⟨hx, h0⟩ p hp).2
end Go.Mch
namespace Go.Mch

theorem bx {α β : Type} {o : Option α} {f : α → Prop} {g : β → α → Prop} (hf : ∀ a, f a → ∃ r, g r a) (h : j0c o f) : ∃ r, j0c o (g r) := by
 obtain ⟨a, h1, h2⟩ := h
 obtain ⟨r, h3⟩ := hf a h2
 exact ⟨r, a, h1, h3⟩
theorem ax {β : Type} {p : Prop} {K : β → Prop} (h : p ∧ ∃ r, K r) : ∃ r, p ∧ K r := by
 obtain ⟨h1, r, h2⟩ := h
 exact ⟨r, h1, h2⟩

theorem stepQ_ex {β : Type} {G : Rl} {m : K} {d : Option Nat} {q : Q} {k : β → Env → Prop} {e : Env} (h : j0m G m d q (fun e => ∃ r, k r e) e) : ∃ r, j0m G m d q (k r) e := by
 cases q <;> simp only [j0m] at h ⊢
 case mv => exact bx (fun _ h => h) h
 case mvw => exact bx (fun _ h => ax h) h
 case stsw => exact bx (fun _ h => bx (fun _ h => bx (fun _ h => ax ⟨h.1, bx (fun _ h => h) h.2⟩) h) h) h
 case sts x y =>
  refine bx (fun a ha => bx (fun v hv => ?_) ha) h
  split at hv
  · split at hv
    · exact ax hv
    · exact hv.elim
  · exact hv.elim
 case asg x =>
  refine bx (fun v hv => ?_) h
  cases v
  case val t => exact hv
  all_goals exact bx (fun _ h => h) hv
 case pick => exact bx (fun _ h => bx (fun _ h => h) h) h
 case bin => exact bx (fun _ h => bx (fun _ h => bx (fun _ h => h) h) h) h
 case beq => exact bx (fun _ h => bx (fun _ h => h) h) h
 case isnil => exact bx (fun _ h => h) h
 case fncl => exact bx (fun _ h => bx (fun _ h => h) h) h
 case slen => exact bx (fun _ h => h) h
 case un => exact bx (fun _ h => bx (fun _ h => h) h) h
 case conv => exact bx (fun _ h => h) h
 case len => exact bx (fun _ h => h) h
 case idx => exact bx (fun _ h => bx (fun _ h => bx (fun _ h => h) h) h) h
 case fld => exact bx (fun _ h => bx (fun _ h => h) h) h
 case fldv => exact bx (fun _ h => bx (fun _ h => h) h) h
 case ld => exact bx (fun _ h => bx (fun _ h => h) h) h
 case st =>
  refine bx (fun a ha => bx (fun v hv => bx (fun y hy => ?_) hv) ha) h
  split at hy
  · split at hy
    · exact ax hy
    · exact hy.elim
  · exact hy.elim
 case nilck =>
  refine bx (fun a ha => ?_) h
  split at ha
  · exact ha
  · exact ha
  · exact ha.elim
 case alloc => exact h
 case box => exact bx (fun _ h => bx (fun _ h => ax h) h) h
 case build => exact bx (fun _ h => bx (fun _ h => h) h) h
 case mks => exact bx (fun _ h => ax h) h
 case bsl => exact bx (fun _ h => bx (fun _ h => ax h) h) h
 case app =>
  refine bx (fun a ha => bx (fun b hb => bx (fun z hz => bx (fun u hu => ?_) hz) hb) ha) h
  have h2 := hu.2
  split at h2
  · by_cases h0 : u.1 = []
    · obtain ⟨r, h3⟩ := h2.1 h0
      exact ⟨r, hu.1, fun _ => h3, fun h4 => (h4 h0).elim⟩
    · obtain ⟨r, h3⟩ := h2.2 h0
      exact ⟨r, hu.1, fun h4 => (h0 h4).elim, fun _ => h3⟩
  · obtain ⟨r, h3⟩ := h2
    exact ⟨r, hu.1, h3⟩
 case sl => exact bx (fun _ h => bx (fun _ h => bx (fun _ h => bx (fun _ h => h) h) h) h) h
 case ext => exact bx (fun _ h => bx (fun _ h => h) h) h
 case fnc => exact bx (fun _ h => h) h
 case call f args =>
  refine bx (fun fv hv => ?_) h
  split at hv
  · refine bx (fun ts ht => ?_) hv
    obtain ⟨ts', r, h1, h2, h3, h4⟩ := ht
    obtain ⟨y, h5⟩ := bx (fun _ h => h) h4
    exact ⟨y, ts', r, h1, h2, h3, h5⟩
  · exact hv.elim
 case freeze => exact bx (fun _ h => h) h
 case settle => exact bx (fun _ h => h) h
 case mm => exact bx (fun _ h => bx (fun _ h => bx (fun _ h => h) h) h) h
 case cap0 => exact bx (fun _ h => bx (fun _ h => h) h) h
 case bstr => exact bx (fun _ h => bx (fun _ h => h) h) h
 case bsls => exact bx (fun _ h => bx (fun _ h => ax h) h) h
 case bslv => exact bx (fun _ h => bx (fun _ h => h) h) h
 case tk1 => exact bx (fun _ h => bx (fun _ h => ax h) h) h
 case exts => exact bx (fun _ h => bx (fun _ h => h) h) h
 case mvs => exact bx (fun _ h => bx (fun _ h => h) h) h
 case bslw => exact bx (fun _ h => bx (fun _ h => h) h) h
 case calls => exact bx (fun _ h => bx (fun _ h => bx (fun _ h => bx (fun _ h => bx (fun _ h => bx (fun _ h => bx (fun _ h => by
  obtain ⟨h0, ts', r, h1, x, h2⟩ := h
  exact ⟨x, h0, ts', r, h1, h2⟩) h) h) h) h) h) h) h
 case bsl1 n =>
  refine bx (fun v hv => ?_) h
  split at hv
  · exact ax hv
  · exact hv.elim
 case apz =>
  refine bx (fun v hv => bx (fun _ hv => ?_) hv) h
  split at hv
  · exact ax hv
  · exact hv.elim
 case arr => exact bx (fun _ h => bx (fun _ h => bx (fun _ h => h) h) h) h
 case mkset => exact h
 case look => exact bx (fun _ h => bx (fun _ h => bx (fun _ h => h) h) h) h
 case upd => exact bx (fun _ h => bx (fun _ h => bx (fun _ h => h) h) h) h
 case bslk x n =>
  refine bx (fun v hv => bx (fun u hu => ?_) hv) h
  split at hu
  · exact ax hu
  · exact hu.elim
 case appk x y n =>
  refine bx (fun v hv => bx (fun v hv => bx (fun v hv => bx (fun v hv => bx (fun u hu => ?_) hv) hv) hv) hv) h
  split at hu
  · exact ax hu
  · exact hu.elim
 case boxk s =>
  refine bx (fun v hv => ?_) h
  split at hv
  · exact ax hv
  · exact hv.elim
 case callm f args ks =>
  refine bx (fun fv hv => ?_) h
  cases fv <;> try exact hv.elim
  rename_i t
  cases t <;> try exact hv.elim
  refine bx (fun vs hv => ax ⟨hv.1, bx (fun y hy => ?_) hv.2⟩) hv
  obtain ⟨h0, ts', r, h1, h2, h3⟩ := hy
  obtain ⟨z, h4⟩ := bx (fun _ h => bx (fun _ h => h) h) h3
  exact ⟨z, h0, ts', r, h1, h2, h4⟩
 refine bx (fun a ha => bx (fun n hn => ?_) ha) h
 split at hn
 · exact bx (fun _ h => h) hn
 · exact hn.elim

theorem stepO_ex {β : Type} {G : Rl} {m : K} {o : O} {k : β → Env → Prop} {e : Env} (h : j1c G m o (fun e => ∃ r, k r e) e) : ∃ r, j1c G m o (k r) e := by
 unfold j1c at *
 split
 · rename_i hg; simp only [hg] at h; exact stepQ_ex h
 · rename_i s b hg
   simp only [hg] at h
   split at h
   · split at h
     · rename_i h1; simp only [if_pos h1]; exact stepQ_ex h
     · rename_i h1; simp only [if_neg h1]; exact h
   · exact h
   · exact h.elim

theorem wpL_ex {β : Type} {G : Rl} {m : K} : ∀ (l : List O) {k : β → Env → Prop} {e : Env}, wpL G m l (fun e => ∃ r, k r e) e → ∃ r, wpL G m l (k r) e
 | [], _, _, h => h
 | _ :: l, k, _, h => stepO_ex (k := fun r => wpL G m l (k r)) (stepO_mono (fun _ _ _ _ h => h) (fun _ h => wpL_ex l h) h)

theorem after_ex {β : Type} {n : β → Env → Prop} {R : β → X → Env → Prop} : ∀ x e, X.after (fun e => ∃ r, n r e) (fun x e => ∃ r, R r x e) x e → ∃ r, X.after (n r) (R r) x e
 | .nrm, _, h => h
 | .ext _, _, h => h
 | .ret, _, h => h

theorem wp_ex {β : Type} {G : Rl} {m : K} (c : C) : ∀ {R : β → X → Env → Prop} {e : Env}, wp G m c (fun x e => ∃ r, R r x e) e → ∃ r, wp G m c (R r) e := by
 induction c with
 | skip => exact fun h => h
 | region dr ops ks => exact fun h => wpL_ex ops h
 | seq a b iha ihb =>
  intro R e h
  exact iha (wp_mono (fun _ _ _ _ h => h) a (fun x e hx => after_ex x e (j58 (fun _ h => ihb h) (fun _ _ h => h) x e hx)) h)
 | cond c a b iha ihb =>
  intro R e h
  refine bx (fun t ht => ?_) h
  cases t
  · exact ihb ht
  · exact iha ht
 | block id b ih =>
  intro R e h
  refine ih (wp_mono (fun _ _ _ _ h => h) b (fun x e hx => ?_) h)
  cases x
  · exact hx
  · simp only [X.out] at hx ⊢
    split at hx
    · rename_i h1; simp only [if_pos h1]; exact hx
    · rename_i h1; simp only [if_neg h1]; exact hx
  · exact hx
 | loop b ih =>
  intro R e h
  refine h (fun e => ∃ r, wp G m (.loop b) (R r) e) fun e he => ?_
  obtain ⟨r, hr⟩ := ih (R := fun r => X.after (wp G m (.loop b) (R r)) (R r)) (wp_mono (fun _ _ _ _ h => h) b (fun x e hx => after_ex x e hx) he)
  exact ⟨r, j2u hr⟩
 | exit id => exact fun h => h
 | ret => exact fun h => h
 | stuck => exact fun h => h.elim

theorem Call.find {α : Type} {pg : Pg} {f : Nat} {args : List T} {fn : F} {r : α → T} {Q : α → Prop} (hf : pg.fn f = some fn) (hn : fn.np = args.length) (hl : T.j0l args = true)
 (h : wp (Call pg) .fresh fn.body (fun x e => ∃ l, Q l ∧ post fn.rs args args (r l) x e) (init args)) : ∃ l, Q l ∧ Call pg f args args (r l) := by
 obtain ⟨⟨l, hq⟩, hl2⟩ := wp_ex (β := { l // Q l }) (R := fun l x e => post fn.rs args args (r l.1) x e) fn.body (wp_mono (fun _ _ _ _ h => h) _ (fun _ _ ⟨l, hq, hp⟩ => ⟨⟨l, hq⟩, hp⟩) h)
 exact ⟨l, hq, Call.intro hf hn hl hl2⟩
end Go.Mch
namespace Go.Mch

@[simp] theorem dec_True : dec True = true := j0v trivial
@[simp] theorem dec_False : dec False = false := j0n id

end Go.Mch
namespace Go.Mch

def j7b (pg : Pg) (n : Nat) : Prop := ∀ (xs : List Int) (v : Int), xs.length ≤ 1048576 → Call pg n [ix xs, I v] [ix xs, I v] (I (ixOf xs v))
theorem t_slicesIndex {pg : Pg} (hp : pg.fn 384 = some j08) : j7b pg 384 := by
 intro xs v hl
 refine Call.intro hp rfl (by simp) ?_
 show wp _ _ j08.body (post [.t 4] _ _ _) _
 simp [j08]
 refine j0a (fun k e => (∀ i (h : i < xs.length), i < k → xs[i] ≠ v) ∧ e = fr [(0, some (.val (ix xs))), (1, some (.val (I v))), (7, some (.val (I xs.length))), (8, some (.val (I k)))]) xs.length ?_ ?_ 0 _ (by omega) ?_
 · rintro k e hk ⟨h1, rfl⟩
   by_cases hm : xs[k] = v
   · have := ixOf_at hk (fun i hi => h1 i (by omega) hi) hm
     simp [hk, hm, this]
   · have hm2 : ¬ v = xs[k] := fun h => hm h.symm
     simp [hk, hm2]
     refine ⟨by omega, fun i hi hik => ?_⟩
     rcases Nat.lt_or_ge i k with h2 | h2
     · exact h1 i hi h2
     · have : i = k := by omega
       subst this; exact hm
 · rintro e ⟨h1, rfl⟩
   have := ixOf_none (xs := xs) (n := v) (fun i hi => h1 i hi hi)
   simp [this]
 · simp
theorem t_indexIn {pg : Pg} (hp : pg.fn 287 = some j5e) (h384 : j7b pg 384) : j7b pg 287 := by
 intro xs v hl
 refine Call.intro hp rfl (by simp) ?_
 show wp _ _ j5e.body (post [.t 4] _ _ _) _
 have := ixOf_le xs v
 simp [j5e]
 refine j0e (h384 xs v hl) rfl rfl (fun _ => rfl) ?_
 simp

end Go.Mch
namespace Go.Mch

def uniqs (xs : List Int) : List Int := xs.foldl (fun s x => if x ∈ s then s else s ++ [x]) []
def renum (xs : List Int) : List Int := (List.range xs.length).map fun k => ixOf (uniqs (xs.take (k + 1))) (xs.getD k 0)
@[simp] theorem renum_length (xs : List Int) : (renum xs).length = xs.length := by simp [renum]

end Go.Mch
namespace Go.Mch

def S_both (pg : Pg) : Prop := ∀ f s : List (List Int), PM f s → Call pg 273 [sol f s] [sol f s] (.mem .own (some 1) (rows (f ++ j1b s)))
theorem PM.fitsF {f s : List (List Int)} (h : PM f s) : fits f := ⟨by have := h.small; omega, fun r hr => by have := (h.tf r hr).1; have := h.small; omega⟩
theorem t_l07Both {pg : Pg} (hp : pg.fn 273 = some j42) (h280 : S_copyT pg 280) (h265 : S_turn pg 265) : S_both pg := by
 intro f s h
 have h12 := h.small
 have hls := h.len
 refine Call.intro hp rfl (by simp) ?_
 show wp _ _ j42.body (post [.t 2] _ _ _) _
 simp [j42]
 refine j0e (h280 f h.fitsF) rfl rfl (fun _ => by simp) ?_
 simp
 refine j0e (h265 s h.ts (by omega)) rfl rfl (fun _ => by simp) ?_
 have e1 : ∀ x ∈ rows (j1b s), x.j01 = true := fun x hx => by
  simp only [rows, List.mem_map] at hx
  obtain ⟨_, _, rfl⟩ := hx
  rfl
 simp [j66, roomy]
 exact ⟨by omega, e1⟩

theorem slV_nil0 : slV 1 (.val (.sc (.slice none 0 0))) none (some 0) = some (.val (.sc (.slice none 0 0))) := by simp [slV]
theorem tbL_cell (a : List (List Int)) : ∀ x ∈ tbL a, x.j01 = true := fun x hx => by
 simp only [tbL, List.mem_map] at hx
 obtain ⟨_, _, rfl⟩ := hx
 rfl
theorem tbL_append (a b : List (List Int)) : tbL (a ++ b) = tbL a ++ tbL b := by simp [tbL]

def S_grow (pg : Pg) : Prop := ∀ n : Nat, 0 < n → n ≤ 1048576 → Call pg 429 [nil, I n] [nil, I n] (.mem .own (some 1) [])
theorem t_grow {pg : Pg} (hp : pg.fn 429 = some j0z) : S_grow pg := by
 intro n h0 hn
 refine Call.intro hp rfl (by simp) ?_
 show wp _ _ j0z.body (post [.t 4] _ _ _) _
 have h1 : ¬ (n : Int) < 0 := by omega
 simp [j0z, h1, slV_nil0, h0]
 exact ⟨by omega, by unfold roomy; omega, by simp [win]⟩

def S_concat (pg : Pg) : Prop := ∀ a b : List (List Int), 0 < a.length → a.length ≤ 100 → b.length ≤ 100 → Call pg 381 [.mem .old (some 1) [tb a, tb b]] [.mem .old (some 1) [tb a, tb b]] (.mem .own (some 1) (tbL (a ++ b)))
theorem t_concat {pg : Pg} (hp : pg.fn 381 = some j0x) (h429 : S_grow pg) : S_concat pg := by
 intro a b h0 ha hb
 refine Call.intro hp rfl (by simp) ?_
 show wp _ _ j0x.body (post [.t 2] _ _ _) _
 simp [j0x]
 have h1 : ¬ ((a.length : Int) < 0) := by omega
 have h2 : ¬ ((a.length : Int) + b.length < 0) := by omega
 refine j2u ?_
 simp [h1]
 refine ⟨by omega, ?_⟩
 refine j2u ?_
 simp [h2]
 refine ⟨by omega, ?_⟩
 refine j2u ?_
 simp
 refine j0e (by simpa using h429 (a.length + b.length) (by omega) (by omega)) rfl rfl (fun _ => by simp) ?_
 simp
 refine j2u ?_
 simp
 refine ⟨by omega, ⟨by unfold roomy; omega, tbL_cell a⟩, ?_⟩
 refine j2u ?_
 simp
 refine ⟨by omega, ⟨by unfold roomy; omega, tbL_cell b⟩, ?_⟩
 refine j2u ?_
 simp [tbL_append]

theorem frzL_rows (k : K) (t : List (List Int)) : T.frzL k (rows t) = t.map fun xs => .mem k (some 1) (xs.map I) := by
 have hI : ∀ xs : List Int, T.frzL k (xs.map I) = xs.map I := fun xs => by
  induction xs with
  | nil => rfl
  | cons x xs ih => simp [ih]
 induction t with
 | nil => rfl
 | cons r t ih =>
  show T.frz k _ :: T.frzL k (rows t) = _
  rw [ih]
  simp [hI]
theorem frz_rows_old (t : List (List Int)) : T.j0l (T.frzL .fresh (rows t)) = true ∧ T.eryL .old (T.frzL .fresh (rows t)) = tbL t := by
 rw [frzL_rows]
 induction t with
 | nil => exact ⟨rfl, rfl⟩
 | cons r t ih => exact ⟨by simp [ih.1], by simp [ih.2, tbL]⟩
def S_whole (pg : Pg) : Prop := ∀ f s : List (List Int), PM f s → Call pg 271 [sol f s] [sol f s] (.mem .own (some 1) (tbL (f ++ j1b s)))
theorem t_whole {pg : Pg} (hp : pg.fn 271 = some j3k) (h267 : S_turn pg 267) (h381 : S_concat pg) : S_whole pg := by
 intro f s h
 have h0 := h.pos
 have h12 := h.small
 have hls := h.len
 refine Call.intro hp rfl (by simp) ?_
 show wp _ _ j3k.body (post [.t 2] _ _ _) _
 simp [j3k]
 refine j0e (h267 s h.ts (by omega)) rfl rfl (fun _ => by simp) ?_
 obtain ⟨e1, e2⟩ := frz_rows_old (j1b s)
 simp [e1, e2]
 refine j0e (h381 f (j1b s) h0 (by omega) (by simp; omega)) rfl rfl (fun hh => by simp at hh) ?_
 simp


def S_orbit (pg : Pg) : Prop := ∀ (ms : List (List Int)) (n i : Nat), Prms n ms → ms.length ≤ 1048576 → n ≤ 1048576 → i < n → ∃ l : List Int, ((∀ x, x ∈ l ↔ Rch ms i x) ∧ l.Nodup) ∧ Call pg 430 [tb ms, I i] [tb ms, I i] (.mem .own (some 1) (l.map I))
set_option maxRecDepth 10000 in
theorem t_l01Orbit {pg : Pg} (hp : pg.fn 430 = some j4p) (h62 : S_has pg) : S_orbit pg := by
 intro ms n i hm hml hn hi
 refine Call.find hp rfl (by simp) ?_
 show wp _ _ j4p.body (fun x e => ∃ l : List Int, _ ∧ post [.t 4] _ _ _ x e) _
 simp [j4p]
 refine j6d (α := List Int × Nat) (fun y => n - y.2) (fun y e => (i : Int) ∈ y.1 ∧ y.1.Nodup ∧ (∀ x ∈ y.1, Rch ms i x) ∧ y.2 ≤ y.1.length ∧ (∀ a (ha : a < y.1.length), a < y.2 → ∀ p ∈ ms, act p y.1[a] ∈ y.1) ∧
  e = fr [(0, some (.val (tb ms))), (5, some (.val (.mem .own (some 1) (y.1.map I)))), (6, some (.val (I y.2)))]) ?_ ([(i : Int)], 0) _ ⟨by simp, by simp, by simp [rch_refl], by simp, by simp, by simp⟩
 rintro ⟨l, j⟩ e ⟨g1, g2, g3, g4, g5, rfl⟩
 simp only at g1 g2 g3 g4 g5
 have hrng : ∀ x ∈ l, 0 ≤ x ∧ x < n := fun x hx => rch_rng hm (by omega) (g3 x hx)
 have hlen := j5s g2 hrng
 by_cases hj : j < l.length
 · simp [hj]
   refine j0a (fun q e => ∃ r : List Int, (l ++ r).Nodup ∧ (∀ x ∈ r, Rch ms i x) ∧ (∀ p ∈ ms.take q, act p l[j] ∈ l ++ r) ∧ e = fr [(0, some (.val (tb ms))), (5, some (.val (.mem .own (some 1) ((l ++ r).map I)))), (6, some (.val (I j))), (7, some (.val (I q)))]) ms.length ?_ ?_ 0 _ (by omega) ⟨[], by simpa using g2, by simp, by simp, by simp⟩
   · rintro q e hq ⟨r, k1, k2, k3, rfl⟩
     have hx := hrng _ (List.getElem_mem hj)
     have hpm : ms[q] ∈ ms := List.getElem_mem hq
     have hpl := (hm _ hpm).1
     have hxl : (l[j]).toNat < (ms[q]).length := by omega
     have hact : act ms[q] l[j] = (ms[q])[(l[j]).toNat] := by simp [act, hxl]
     have hlr := j5s k1 (fun x hx => by
      rcases List.mem_append.1 hx with h | h
      · exact hrng x h
      · exact rch_rng hm (by omega) (k2 x h))
     have hgj : ∀ h : j < (l ++ r).length, (l ++ r)[j] = l[j] := fun h => List.getElem_append_left hj
     have hjl : j < (l ++ r).length := by simp; omega
     have hrr : Rch ms i (act ms[q] l[j]) := rch_step (g3 _ (List.getElem_mem hj)) hpm
     have hadd : act ms[q] l[j] ∉ l ++ r → (l ++ (r ++ [act ms[q] l[j]])).Nodup := fun hh => by
      rw [← List.append_assoc, List.nodup_append]
      exact ⟨k1, by simp, fun a ha b hb => by simp only [List.mem_singleton] at hb; subst hb; exact fun e => hh (e ▸ ha)⟩
     have hnext : ∀ r', (∀ x ∈ l ++ r, x ∈ l ++ r') → act ms[q] l[j] ∈ l ++ r' → ∀ p ∈ ms.take (q + 1), act p l[j] ∈ l ++ r' := fun r' h1 h2 p hp => by
      rw [List.take_succ_eq_append_getElem hq] at hp
      rcases List.mem_append.1 hp with h | h
      · exact h1 _ (k3 p h)
      · simp only [List.mem_singleton] at h; subst h; exact h2
     have hh := h62 (l ++ r) (act ms[q] l[j]) (by omega)
     have hinr : ∀ x, x ∈ r ++ [act ms[q] l[j]] → Rch ms i x := fun x hx => by
      rcases List.mem_append.1 hx with h | h
      · exact k2 x h
      · simp only [List.mem_singleton] at h; subst h; exact hrr
     have hx2 : l[j] < ((ms[q]).length : Int) := by omega
     by_cases hm2 : act ms[q] l[j] ∈ l ++ r
     · have hfin : ∃ r' : List Int, (l ++ r').Nodup ∧ (∀ x ∈ r', Rch ms i x) ∧ (∀ p ∈ ms.take (q + 1), act p l[j] ∈ l ++ r') ∧ l ++ r = l ++ r' := ⟨r, k1, k2, hnext r (fun _ h => h) hm2, rfl⟩
       clear hnext hadd hinr
       generalize l ++ r = L at *
       simp [hq, hjl, hgj, hx, hx2, hxl, ← hact]
       refine j0e hh rfl rfl (fun _ => rfl) ?_
       simp [hm2]
       refine ⟨by omega, ?_⟩
       obtain ⟨r', f1, f2, f3, f4⟩ := hfin
       exact ⟨r', f1, f2, fun p hp => List.mem_append.1 (f3 p hp), by rw [f4]; simp⟩
     · have hfin : ∃ r' : List Int, (l ++ r').Nodup ∧ (∀ x ∈ r', Rch ms i x) ∧ (∀ p ∈ ms.take (q + 1), act p l[j] ∈ l ++ r') ∧ (l ++ r) ++ [act ms[q] l[j]] = l ++ r' :=
        ⟨r ++ [act ms[q] l[j]], hadd hm2, hinr, hnext _ (fun x hx => by rw [← List.append_assoc]; exact List.mem_append_left _ hx) (by rw [← List.append_assoc]; simp), by simp⟩
       clear hnext hadd hinr
       generalize l ++ r = L at *
       simp [hq, hjl, hgj, hx, hx2, hxl, ← hact]
       refine j0e hh rfl rfl (fun _ => rfl) ?_
       simp [hm2, hq, hjl, hgj, hx, hx2, hxl, ← hact, roomy]
       refine ⟨by omega, by omega, ?_⟩
       obtain ⟨r', f1, f2, f3, f4⟩ := hfin
       exact ⟨r', f1, f2, fun p hp => List.mem_append.1 (f3 p hp), by rw [← List.map_append, ← f4]; simp⟩
   · rintro e ⟨r, k1, k2, k3, rfl⟩
     rw [List.take_length] at k3
     have g5' : ∀ (a : Nat) (ha : a < (l ++ r).length), a < j + 1 → ∀ p ∈ ms, act p (l ++ r)[a] ∈ l ++ r := fun a ha ha2 p hp => by
      have hal : a < l.length := by omega
      rw [List.getElem_append_left hal]
      by_cases haj : a = j
      · subst haj; exact k3 p hp
      · exact List.mem_append_left _ (g5 a hal (by omega) p hp)
     have g3' : ∀ x ∈ l ++ r, Rch ms i x := fun x hx => by
      rcases List.mem_append.1 hx with h | h
      · exact g3 x h
      · exact k2 x h
     have g1' : (i : Int) ∈ l ++ r := List.mem_append_left _ g1
     have hlr : j + 1 ≤ (l ++ r).length := by simp; omega
     generalize l ++ r = L at *
     simp
     exact ⟨by omega, L, j + 1, by omega, g1', k1, g3', hlr, g5', by simp⟩
 · simp [hj]
   exact ⟨l, ⟨rch_list g1 g3 fun x hx p hp => by
    obtain ⟨a, ha, rfl⟩ := List.getElem_of_mem hx
    exact g5 a ha (by omega) p hp, g2⟩, rfl⟩
end Go.Mch
namespace Go.Mch

def greatest (xs : List Int) : Int := xs.foldl (fun a x => if a ≤ x then x + 1 else a) 0
theorem greatest_succ {xs : List Int} {k : Nat} (hk : k < xs.length) : greatest (xs.take (k + 1)) = if greatest (xs.take k) ≤ xs[k] then xs[k] + 1 else greatest (xs.take k) := by
 rw [List.take_succ_eq_append_getElem hk]
 simp only [greatest, List.foldl_append, List.foldl_cons, List.foldl_nil]
 rfl
def S_greatest (pg : Pg) : Prop := ∀ xs : List Int, xs.length ≤ 1048576 → (∀ x ∈ xs, 0 ≤ x ∧ x ≤ 1048576) → Call pg 288 [ix xs] [ix xs] (I (greatest xs))
theorem t_greatest {pg : Pg} (hp : pg.fn 288 = some j3i) : S_greatest pg := by
 intro xs hl hx
 refine Call.intro hp rfl (by simp) ?_
 show wp _ _ j3i.body (post [.t 2] _ _ _) _
 simp [j3i]
 refine j0a (fun k e => e = fr [(0, some (.val (ix xs))), (3, some (.val (I (greatest (xs.take k))))), (4, some (.val (I k)))]) xs.length ?_ ?_ 0 _ (by omega) ?_
 · rintro k e hk rfl
   have h1 := hx _ (List.getElem_mem hk)
   have hs := greatest_succ hk
   by_cases hg : greatest (xs.take k) ≤ xs[k]
   · rw [if_pos hg] at hs
     simp [hk, hg, hs]
     omega
   · rw [if_neg hg] at hs
     simp [hk, hg, hs]
     omega
 · rintro e rfl
   simp
 · simp [greatest]
def maxL : List Int → Int
 | [] => 0
 | x :: xs => xs.foldl (mmI true) x
theorem maxL_succ {xs : List Int} {k : Nat} (hk : k < xs.length) (h0 : 0 < k) : maxL (xs.take (k + 1)) = mmI true (maxL (xs.take k)) xs[k] := by
 cases xs with
 | nil => simp at hk
 | cons x xs =>
  cases k with
  | zero => omega
  | succ k =>
   have := List.take_succ_eq_append_getElem (show k < xs.length by simpa using hk)
   simp only [List.take_succ_cons, maxL, this, List.foldl_append, List.foldl_cons, List.foldl_nil, List.getElem_cons_succ]
def S_maxL (pg : Pg) : Prop := ∀ xs : List Int, xs.length ≤ 1048576 → 0 < xs.length → Call pg 290 [ix xs] [ix xs] (I (maxL xs))
theorem t_max {pg : Pg} (hp : pg.fn 290 = some j1a) : S_maxL pg := by
 intro xs hl h0
 refine Call.intro hp rfl (by simp) ?_
 show wp _ _ j1a.body (post [.t 2] _ _ _) _
 have h1 : ¬ (xs.length : Int) < 1 := by omega
 have h0' : (0 : Int) < xs.length := by omega
 simp [j1a, h1, h0]
 refine j0a (fun k e => 0 < k ∧ e = fr [(0, some (.val (ix xs))), (3, some (.val (I (maxL (xs.take k))))), (4, some (.val (I k)))]) xs.length ?_ ?_ 1 _ (by omega) ?_
 · rintro k e hk ⟨hk0, rfl⟩
   have hs := maxL_succ hk hk0
   simp [hk, hs]
   omega
 · rintro e ⟨hk0, rfl⟩
   simp
 · cases xs with
   | nil => simp at h0
   | cons x xs => simp [maxL]
theorem greatest_max : ∀ xs : List Int, 0 < xs.length → (∀ x ∈ xs, 0 ≤ x) → greatest xs = maxL xs + 1 := by
 intro xs h0 hx
 have key : ∀ k, 0 < k → k ≤ xs.length → greatest (xs.take k) = maxL (xs.take k) + 1 := by
  intro k
  induction k with
  | zero => intro h; omega
  | succ k ih =>
   intro _ hk
   rcases Nat.eq_zero_or_pos k with h | h
   · subst h
     cases xs with
     | nil => simp at h0
     | cons x xs =>
      have := hx x (by simp)
      simp [greatest, maxL, this]
   · rw [greatest_succ (by omega), maxL_succ (by omega) h, ih h (by omega)]
     unfold mmI
     simp only [if_true]
     split <;> split <;> omega
 have := key xs.length h0 (Nat.le_refl _)
 simpa using this

def eqv (a b : List (List Int)) (i j : Nat) : Prop := a.getD i [] = a.getD j [] ∧ b.getD i [] = b.getD j []
instance (a b : List (List Int)) (i j : Nat) : Decidable (eqv a b i j) := by unfold eqv; infer_instance
def lab (a b : List (List Int)) (i : Nat) : Nat := ((List.range i).find? fun j => decide (eqv a b i j)).getD i
def classes (f s : List (List Int)) : List Int := renum ((List.range f.length).map fun i => (lab f (j1b s) i : Int))
@[simp] theorem classes_length (f s : List (List Int)) : (classes f s).length = f.length := by simp [classes]
def idL (n : Nat) : List Int := (List.range n).map fun i : Nat => (i : Int)
@[simp] theorem idL_length (n : Nat) : (idL n).length = n := by simp [idL]
theorem idL_succ (n : Nat) : idL (n + 1) = idL n ++ [(n : Int)] := by simp [idL, List.range_succ]

end Go.Mch
namespace Go.Mch

def S_orbits (pg : Pg) : Prop := ∀ (ms : List (List Int)) (n : Nat), Prms n ms → ms.length ≤ 1048576 → n ≤ 1048576 → Call pg 387 [I n, tb ms] [I n, tb ms] (.mem .own (some 1) ((orbL ms n).map I))
def putL (lab : List Int) (l : List Int) (c : Int) : List Int := (List.range lab.length).map fun x : Nat => if (x : Int) ∈ l then c else lab.getD x 0
@[simp] theorem putL_length (lab l : List Int) (c : Int) : (putL lab l c).length = lab.length := by simp [putL]
theorem putL_nil (lab : List Int) (c : Int) : putL lab [] c = lab := by
 apply List.ext_getElem
 · simp
 · intro i h1 h2
   simp [putL, h2]
theorem putL_get {lab l : List Int} {c : Int} {x : Nat} (h : x < lab.length) : (putL lab l c).getD x 0 = if (x : Int) ∈ l then c else lab.getD x 0 := by
 simp [putL, h]
theorem putL_snoc (lab l : List Int) (c y : Int) (hy : 0 ≤ y) : (putL lab l c).set y.toNat c = putL lab (l ++ [y]) c := by
 apply List.ext_getElem
 · simp
 · intro i h1 h2
   simp only [List.getElem_set, putL, List.getElem_map, List.getElem_range, List.mem_append, List.mem_singleton]
   by_cases hi : y.toNat = i
   · have : (i : Int) = y := by omega
     simp [hi, this]
   · have : ¬ (i : Int) = y := by omega
     simp [hi, this]
theorem putL_mark {ms : List (List Int)} {i : Int} {l lab : List Int} {c : Int} (h : ∀ x, x ∈ l ↔ Rch ms i x) : putL lab l c = markO ms i lab c := by
 apply List.map_congr_left
 intro x _
 by_cases hx : (x : Int) ∈ l
 · simp [hx, j0v ((h x).1 hx)]
 · simp [hx, j0n (fun hh => hx ((h x).2 hh))]

set_option maxRecDepth 10000 in
theorem t_l01Orbits {pg : Pg} (hp : pg.fn 387 = some j36) (h430 : S_orbit pg) : S_orbits pg := by
 intro ms n hm hml hn
 refine Call.intro hp rfl (by simp) ?_
 show wp _ _ j36.body (post [.t 4] _ _ _) _
 simp [j36]
 refine j0a (fun k e => e = fr [(0, some (.val (I n))), (1, some (.val (tb ms))), (5, some (.val (.mem .own (some 1) (List.replicate k (I (-1)))))), (6, some (.val (I k)))]) n ?_ ?_ 0 _ (by omega) ?_
 · rintro k e hk rfl
   simp [hk, roomy, List.replicate_succ']
   omega
 · rintro e rfl
   simp
   refine j0a (fun k e => e = fr [(0, some (.val (I n))), (1, some (.val (tb ms))), (5, some (.val (.mem .own (some 1) ((orbS ms n k).1.map I)))), (7, some (.val (I (orbS ms n k).2))), (8, some (.val (I k)))]) n ?_ ?_ 0 _ (by omega) ?_
   · rintro k e hk rfl
     have hl := orbS_length ms n k
     have hc := orbS_cnt ms n k
     have hkl : k < (orbS ms n k).1.length := by omega
     have hg : (orbS ms n k).1.getD k 0 = (orbS ms n k).1[k] := by rw [List.getD_eq_getElem?_getD, List.getElem?_eq_getElem hkl]; rfl
     by_cases h0 : 0 ≤ (orbS ms n k).1[k]
     · have hs : orbS ms n (k + 1) = orbS ms n k := by rw [orbS, hg, if_pos h0]
       simp [hk, h0, hs]
       omega
     · obtain ⟨l, ⟨q1, q2⟩, q3⟩ := h430 ms n k hm hml hn hk
       have hs : orbS ms n (k + 1) = (putL (orbS ms n k).1 l (orbS ms n k).2, (orbS ms n k).2 + 1) := by rw [orbS, hg, if_neg h0, putL_mark q1]
       have hrng : ∀ x ∈ l, 0 ≤ x ∧ x < n := fun x hx => rch_rng hm (by omega) ((q1 x).1 hx)
       have hll := j5s q2 hrng
       rw [hs]
       generalize orbS ms n k = S at *
       simp [hk, hkl, h0]
       refine j0e q3 rfl rfl (fun _ => by simp) ?_
       simp
       refine j0a (fun c e => e = fr [(0, some (.val (I n))), (1, some (.val (tb ms))), (5, some (.val (.mem .own (some 1) ((putL S.1 (l.take c) S.2).map I)))), (7, some (.val (I S.2))), (8, some (.val (I k))), (9, some (.val (.mem .own (some 1) (l.map I)))), (10, some (.val (I c)))]) l.length ?_ ?_ 0 _ (by omega) ?_
       · rintro c e hc2 rfl
         have hx := hrng _ (List.getElem_mem hc2)
         have hxn : (l[c]).toNat < n := by omega
         have hp := putL_snoc S.1 (l.take c) S.2 l[c] hx.1
         rw [← List.take_succ_eq_append_getElem hc2] at hp
         rw [← hp]
         simp [hc2, hx, hl, hxn]
         omega
       · rintro e rfl
         simp
         omega
       · simp [putL_nil]
   · rintro e rfl
     simp [orbL]
   · simp [orbS]
 · simp

theorem orbS_open {ms : List (List Int)} {n : Nat} (h : Prms n ms) {k : Nat} (hk : k < n) (h0 : ¬ 0 ≤ (orbS ms n k).1.getD k 0) {x : Int} (hx : Rch ms k x) : ¬ 0 ≤ (orbS ms n k).1.getD x.toNat 0 := by
 have := hx (fun x => (0 ≤ x ∧ x < n) ∧ ¬ ((0 ≤ x ∧ x < n) ∧ 0 ≤ (orbS ms n k).1.getD x.toNat 0)) ⟨by omega, fun hh => h0 (by simpa using hh.2)⟩ fun y hy p hp =>
  ⟨act_rng h hp hy.1, compl_closed h (orbS_closed h k (by omega)) hy.1 hy.2 hp⟩
 exact fun hh => this.2 ⟨this.1, hh⟩
def S_labels (pg : Pg) : Prop := ∀ (ms : List (List Int)) (n : Nat), Prms n ms → ms.length ≤ 1048576 → n ≤ 1048576 → Call pg 388 [I n, tb ms] [I n, tb ms] (.mem .own (some 1) ((orbL ms n).map I))
set_option maxRecDepth 10000 in
theorem t_orbitLabels {pg : Pg} (hp : pg.fn 388 = some j3l) : S_labels pg := by
 intro ms n hm hml hn
 refine Call.intro hp rfl (by simp) ?_
 show wp _ _ j3l.body (post [.t 4] _ _ _) _
 simp [j3l]
 refine ⟨by unfold roomy; omega, ?_⟩
 refine j0a (fun k e => e = fr [(1, some (.val (tb ms))), (5, some (.val (.mem .own (some 1) (List.replicate k (I (-1)) ++ List.replicate (n - k) (I 0))))), (16, some (.val (I n))), (17, some (.val (I k)))]) n ?_ ?_ 0 _ (by omega) ?_
 · rintro k e hk rfl
   have hlen : (List.replicate k (I (-1))).length = k := by simp
   rw [fill_succ (I 0) hk]
   simp [hk, set_mid hlen, List.replicate_succ']
   omega
 · rintro e rfl
   simp
   refine j0a (fun k e => e = fr [(1, some (.val (tb ms))), (5, some (.val (.mem .own (some 1) ((orbS ms n k).1.map I)))), (7, some (.val (I (orbS ms n k).2))), (25, some (.val (I n))), (26, some (.val (I k)))]) n ?_ ?_ 0 _ (by omega) ?_
   · rintro k e hk rfl
     have hl := orbS_length ms n k
     have hc := orbS_cnt ms n k
     have hkl : k < (orbS ms n k).1.length := by omega
     have hg : (orbS ms n k).1.getD k 0 = (orbS ms n k).1[k] := by rw [List.getD_eq_getElem?_getD, List.getElem?_eq_getElem hkl]; rfl
     by_cases h0 : 0 ≤ (orbS ms n k).1[k]
     · have hs : orbS ms n (k + 1) = orbS ms n k := by rw [orbS, hg, if_pos h0]
       simp [hk, h0, hs]
       omega
     · have hopen := fun {x : Int} (hx : Rch ms k x) => orbS_open hm hk (by rw [hg]; exact h0) hx
       have hs : orbS ms n (k + 1) = (markO ms k (orbS ms n k).1 (orbS ms n k).2, (orbS ms n k).2 + 1) := by rw [orbS, hg, if_neg h0]
       rw [hs]
       generalize orbS ms n k = S at *
       have hput : S.1.set k S.2 = putL S.1 [(k : Int)] S.2 := by
        have := putL_snoc S.1 [] S.2 k (by omega)
        rw [putL_nil] at this
        exact this
       simp [hk, hkl, h0]
       refine ⟨by omega, ?_⟩
       refine j6d (α := List Int × Nat) (fun y => n - y.2) (fun y e => (k : Int) ∈ y.1 ∧ y.1.Nodup ∧ (∀ x ∈ y.1, Rch ms k x) ∧ y.2 ≤ y.1.length ∧ (∀ a (ha : a < y.1.length), a < y.2 → ∀ p ∈ ms, act p y.1[a] ∈ y.1) ∧
        e = fr [(1, some (.val (tb ms))), (5, some (.val (.mem .own (some 1) ((putL S.1 y.1 S.2).map I)))), (7, some (.val (I S.2))), (9, some (.val (.mem .own (some 1) ((y.1.drop y.2).map I)))), (25, some (.val (I n))), (26, some (.val (I k)))]) ?_ ([(k : Int)], 0) _ ⟨by simp, by simp, by simp [rch_refl], by simp, by simp, ?_⟩
       case refine_2 => simp [← hput]
       rintro ⟨V, d⟩ e ⟨g1, g2, g3, g4, g5, rfl⟩
       simp only at g1 g2 g3 g4 g5
       have hrng : ∀ x ∈ V, 0 ≤ x ∧ x < n := fun x hx => rch_rng hm (by omega) (g3 x hx)
       have hlen := j5s g2 hrng
       by_cases hd : d < V.length
       · have hx := hrng _ (List.getElem_mem hd)
         have hdn : ∀ r : List Int, (V ++ r).drop (d + 1) = V.drop (d + 1) ++ r := fun r => List.drop_append_of_le_length (by omega)
         rw [List.drop_eq_getElem_cons hd]
         generalize V.drop (d + 1) = Q at *
         simp
         refine j0a (fun q e => ∃ r : List Int, (V ++ r).Nodup ∧ (∀ x ∈ V ++ r, Rch ms k x) ∧ (∀ p ∈ ms.take q, act p V[d] ∈ V ++ r) ∧
          e = fr [(1, some (.val (tb ms))), (5, some (.val (.mem .own (some 1) ((putL S.1 (V ++ r) S.2).map I)))), (7, some (.val (I S.2))), (9, some (.val (.mem .own (some 1) (I V[d] :: (Q ++ r).map I)))), (25, some (.val (I n))), (26, some (.val (I k))), (45, some (.val (tb ms))), (46, some (.val (I ms.length))), (47, some (.val (I q)))]) ms.length ?_ ?_ 0 _ (by omega) ⟨[], by simpa using g2, by simpa using g3, by simp, by simp⟩
         · rintro q e hq ⟨r, k1, k2, k3, rfl⟩
           have hpm : ms[q] ∈ ms := List.getElem_mem hq
           have hpl := (hm _ hpm).1
           have hxl : (V[d]).toNat < (ms[q]).length := by omega
           have hact : act ms[q] V[d] = (ms[q])[(V[d]).toNat] := by simp [act, hxl]
           have hrr : Rch ms k (act ms[q] V[d]) := rch_step (g3 _ (List.getElem_mem hd)) hpm
           have hyr := act_rng hm hpm hx
           have hyo := hopen hrr
           have hx2 : V[d] < ((ms[q]).length : Int) := by omega
           have hnext : ∀ r', (∀ x ∈ V ++ r, x ∈ V ++ r') → act ms[q] V[d] ∈ V ++ r' → ∀ p ∈ ms.take (q + 1), act p V[d] ∈ V ++ r' := fun r' h1 h2 p hp => by
            rw [List.take_succ_eq_append_getElem hq] at hp
            rcases List.mem_append.1 hp with h | h
            · exact h1 _ (k3 p h)
            · simp only [List.mem_singleton] at h; subst h; exact h2
           have hpg := putL_get (lab := S.1) (l := V ++ r) (c := S.2) (x := (act ms[q] V[d]).toNat) (by omega)
           rw [show (((act ms[q] V[d]).toNat : Nat) : Int) = act ms[q] V[d] from by omega] at hpg
           have hyl : (act ms[q] V[d]).toNat < S.1.length := by omega
           have hyl2 : act ms[q] V[d] < S.1.length := by omega
           have hpe : ∀ h : (act ms[q] V[d]).toNat < (putL S.1 (V ++ r) S.2).length, (putL S.1 (V ++ r) S.2)[(act ms[q] V[d]).toNat] = (putL S.1 (V ++ r) S.2).getD (act ms[q] V[d]).toNat 0 := fun h => by
            rw [List.getD_eq_getElem?_getD, List.getElem?_eq_getElem h]; rfl
           rw [hpg] at hpe
           have hsnoc := putL_snoc S.1 (V ++ r) S.2 (act ms[q] V[d]) hyr.1
           by_cases hm2 : act ms[q] V[d] ∈ V ++ r
           · have hfin : ∃ r' : List Int, (V ++ r').Nodup ∧ (∀ x ∈ V ++ r', Rch ms k x) ∧ (∀ p ∈ ms.take (q + 1), act p V[d] ∈ V ++ r') ∧ V ++ r = V ++ r' ∧ Q ++ r = Q ++ r' := ⟨r, k1, k2, hnext r (fun _ h => h) hm2, rfl, rfl⟩
             rw [if_pos hm2] at hpe
             have hc0 : ¬ S.2 < 0 := by omega
             clear hnext hpg hsnoc
             generalize V ++ r = L at *
             generalize Q ++ r = Q' at *
             simp [hq, hx, hx2, hxl, ← hact, hyr, hyl, hyl2, hpe, hc0]
             refine ⟨by omega, ?_⟩
             obtain ⟨r', f1, f2, f3, f4, f5⟩ := hfin
             exact ⟨r', f1, fun x hx => f2 x (List.mem_append.2 hx), fun p hp => List.mem_append.1 (f3 p hp), by rw [f4, f5]; simp⟩
           · have hfin : ∃ r' : List Int, (V ++ r').Nodup ∧ (∀ x ∈ V ++ r', Rch ms k x) ∧ (∀ p ∈ ms.take (q + 1), act p V[d] ∈ V ++ r') ∧ (V ++ r) ++ [act ms[q] V[d]] = V ++ r' ∧ (Q ++ r) ++ [act ms[q] V[d]] = Q ++ r' := by
              refine ⟨r ++ [act ms[q] V[d]], ?_, ?_, hnext _ (fun x hx => by rw [← List.append_assoc]; exact List.mem_append_left _ hx) (by rw [← List.append_assoc]; simp), by simp, by simp⟩
              · rw [← List.append_assoc, List.nodup_append]
                exact ⟨k1, by simp, fun a ha b hb => by simp only [List.mem_singleton] at hb; subst hb; exact fun e => hm2 (e ▸ ha)⟩
              · intro x hx
                rw [← List.append_assoc] at hx
                rcases List.mem_append.1 hx with h | h
                · exact k2 x h
                · simp only [List.mem_singleton] at h; subst h; exact hrr
             rw [if_neg hm2] at hpe
             have hc0 : S.1.getD (act ms[q] V[d]).toNat 0 < 0 := by omega
             have hlr := j5s k1 fun x hx => rch_rng hm (by omega) (k2 x hx)
             have hQl : (Q ++ r).length ≤ (V ++ r).length := by
              have := congrArg List.length (hdn r)
              rw [List.length_drop] at this
              omega
             clear hnext hpg
             generalize V ++ r = L at *
             generalize Q ++ r = Q' at *
             generalize S.1.getD (act ms[q] V[d]).toNat 0 = z at *
             simp [hq, hx, hx2, hxl, ← hact, hyr, hyl, hyl2, hpe, hc0, roomy]
             refine ⟨by omega, by omega, by omega, ?_⟩
             obtain ⟨r', f1, f2, f3, f4, f5⟩ := hfin
             refine ⟨r', f1, fun x hx => f2 x (List.mem_append.2 hx), fun p hp => List.mem_append.1 (f3 p hp), ?_⟩
             rw [← f4, ← hsnoc, ← List.map_append, ← f5]
             simp
         · rintro e ⟨r, k1, k2, k3, rfl⟩
           rw [List.take_length] at k3
           have g5' : ∀ (a : Nat) (ha : a < (V ++ r).length), a < d + 1 → ∀ p ∈ ms, act p (V ++ r)[a] ∈ V ++ r := fun a ha ha2 p hp => by
            have hal : a < V.length := by omega
            rw [List.getElem_append_left hal]
            by_cases had : a = d
            · subst had; exact k3 p hp
            · exact List.mem_append_left _ (g5 a hal (by omega) p hp)
           have g1' : (k : Int) ∈ V ++ r := List.mem_append_left _ g1
           have hlr : d + 1 ≤ (V ++ r).length := by simp; omega
           have hdn' := hdn r
           clear hdn
           generalize V ++ r = L at *
           generalize Q ++ r = Q' at *
           simp
           refine ⟨by omega, by omega, L, d + 1, by omega, g1', k1, k2, hlr, g5', ?_⟩
           rw [← List.map_drop, hdn']
           simp [win]
       · have hcl := rch_list g1 g3 fun x hx p hp => by
          obtain ⟨a, ha, rfl⟩ := List.getElem_of_mem hx
          exact g5 a ha (by omega) p hp
         have hd2 : V.length - d = 0 := by omega
         have hpm := putL_mark (lab := S.1) (c := S.2) hcl
         simp [hd2, hpm]
         omega
   · rintro e rfl
     simp [orbL]
   · simp [orbS]
 · simp
end Go.Mch
namespace Go.Mch

noncomputable def solO (f s : List (List Int)) : List Int := orbL (f ++ j1b s) f.length
@[simp] theorem solO_length (f s : List (List Int)) : (solO f s).length = f.length := by simp [solO]
theorem prms_of {f s : List (List Int)} (h : PM f s) (hn : j52 f s) : Prms f.length (f ++ j1b s) := fun p hp => by
 rcases List.mem_append.1 hp with h1 | h1
 · exact ⟨by have := (h.tf p h1).1; omega, hn.1 p h1⟩
 · exact ⟨by rw [j7e h1, h.len], hn.2 p h1⟩
theorem orbL_rng {ms : List (List Int)} {n : Nat} {x : Int} (hx : x ∈ orbL ms n) : 0 ≤ x ∧ x < n := by
 obtain ⟨i, hi, rfl⟩ := List.getElem_of_mem hx
 simp only [orbL_length] at hi
 have h1 := orbS_done ms n n (Nat.le_refl _) i hi
 have h2 := orbS_rng ms n n i hi
 have h3 := orbS_cnt ms n n
 have : (orbS ms n n).1.getD i 0 = (orbL ms n)[i] := by
  rw [List.getD_eq_getElem?_getD, List.getElem?_eq_getElem (by simpa using hi)]; rfl
 omega
theorem j5i {f s : List (List Int)} {x : Int} (hx : x ∈ solO f s) : 0 ≤ x ∧ x < f.length := orbL_rng hx

def S_solO (pg : Pg) (n : Nat) : Prop := ∀ f s : List (List Int), PM f s → j52 f s → Call pg n [sol f s] [sol f s] (.mem .own (some 1) ((solO f s).map I))
theorem t_l07Orbits {pg : Pg} (hp : pg.fn 299 = some j33) (h273 : S_both pg) (h387 : S_orbits pg) : S_solO pg 299 := by
 intro f s h hn
 have h12 := h.small
 have hl := h.len
 refine Call.intro hp rfl (by simp) ?_
 show wp _ _ j33.body (post [.t 2] _ _ _) _
 simp [j33]
 refine j0e (h273 f s h) rfl rfl (fun _ => by simp) ?_
 simp
 refine j0e (h387 (f ++ j1b s) f.length (prms_of h hn) (by simp; omega) (by omega)) rfl rfl (fun _ => by simp) ?_
 simp [solO]
theorem t_solutionOrbits {pg : Pg} (hp : pg.fn 301 = some j2h) (h271 : S_whole pg) (h388 : S_labels pg) : S_solO pg 301 := by
 intro f s h hn
 have h12 := h.small
 have hl := h.len
 refine Call.intro hp rfl (by simp) ?_
 show wp _ _ j2h.body (post [.t 2] _ _ _) _
 simp [j2h]
 refine j0e (h271 f s h) rfl rfl (fun hh => by simp at hh) ?_
 simp
 refine j0e (h388 (f ++ j1b s) f.length (prms_of h hn) (by simp; omega) (by omega)) rfl rfl (fun _ => by simp) ?_
 simp [solO]

def S_orbOf (pg : Pg) (n : Nat) : Prop := ∀ f s : List (List Int), fits f → fits s → ∃ o, lso o = onReg [] solO f s ∧ Call pg n [sol f s] [sol f s] (.tup [ownI o, I (onReg 1 (fun _ _ => 0) f s)])
theorem t_orbOf_impl {pg : Pg} (hp : pg.fn 169 = some j05) (h266 : S_reg pg 266) (h301 : S_solO pg 301) : S_orbOf pg 169 := by
 intro f s hf hs
 by_cases h : isReg f s
 · refine ⟨some (solO f s), by simp [j5o h], Call.intro hp rfl (by simp) ?_⟩
   show wp _ _ j05.body (post [.t 2, .t 3] _ _ _) _
   simp [j05]
   refine j0e (h266 f s hf hs) rfl rfl (fun _ => rfl) ?_
   simp [j0v h, j5o h]
   refine j0e (h301 f s (PM.of h.1.1) h.2) rfl rfl (fun _ => by simp) ?_
   simp [ownI]
 · refine ⟨none, by simp [j5m h], Call.intro hp rfl (by simp) ?_⟩
   show wp _ _ j05.body (post [.t 2, .t 3] _ _ _) _
   simp [j05]
   refine j0e (h266 f s hf hs) rfl rfl (fun _ => rfl) ?_
   simp [j0n h, j5m h, ownI]

def S_indec (pg : Pg) (n : Nat) : Prop := S_solB pg n (onReg false fun f s => decide (maxL (solO f s) = 0)) (onReg 1 fun _ _ => 0)
def S_isIndec (pg : Pg) : Prop := ∀ f s : List (List Int), PM f s → j52 f s → Call pg 300 [sol f s] [sol f s] (B (decide (maxL (solO f s) = 0)))
theorem t_isIndec {pg : Pg} (hp : pg.fn 300 = some j1p) (h301 : S_solO pg 301) (h290 : S_maxL pg) : S_isIndec pg := by
 intro f s h hn
 have h0 := h.pos
 have h12 := h.small
 refine Call.intro hp rfl (by simp) ?_
 show wp _ _ j1p.body (post [.t 2] _ _ _) _
 simp [j1p]
 refine j0e (h301 f s h hn) rfl rfl (fun _ => by simp) ?_
 simp
 refine j0e (h290 (solO f s) (by simp; omega) (by simpa using h0)) rfl rfl (fun _ => rfl) ?_
 simp
theorem t_indec_impl {pg : Pg} (hp : pg.fn 165 = some j1r) (h266 : S_reg pg 266) (h300 : S_isIndec pg) : S_indec pg 165 := by
 intro f s hf hs
 refine Call.intro hp rfl (by simp) ?_
 show wp _ _ j1r.body (post [.t 2, .t 3] _ _ _) _
 simp [j1r]
 refine j0e (h266 f s hf hs) rfl rfl (fun _ => rfl) ?_
 by_cases h : isReg f s
 · simp [j0v h, j5o h]
   refine j0e (h300 f s (PM.of h.1.1) h.2) rfl rfl (fun _ => rfl) ?_
   simp
 · simp [j0n h, j5m h]
end Go.Mch
namespace Go.Mch

structure Nd (n : Nat) (σ τ : Nat → Nat → Nat) : Prop where
 rs : ∀ x y, x < n → y < n → σ x y < n
 rt : ∀ x y, x < n → y < n → τ x y < n
 is : ∀ x y y', x < n → y < n → y' < n → σ x y = σ x y' → y = y'
 it : ∀ x y y', x < n → y < n → y' < n → τ x y = τ x y' → y = y'
 ss : ∀ x w, x < n → w < n → ∃ y, y < n ∧ σ x y = w
 st : ∀ x w, x < n → w < n → ∃ y, y < n ∧ τ x y = w
 e1 : ∀ x y z, x < n → y < n → z < n → σ (σ x y) (σ (τ y x) z) = σ x (σ y z)
 e2 : ∀ x y z, x < n → y < n → z < n → τ (σ (τ y x) z) (σ x y) = σ (τ (σ y z) x) (τ z y)
 e3 : ∀ x y z, x < n → y < n → z < n → τ z (τ y x) = τ (τ z y) (τ (σ y z) x)

def Alk (n : Nat) (σ τ : Nat → Nat → Nat) (x x' : Nat) : Prop := ∀ y, y < n → σ x y = σ x' y ∧ τ x y = τ x' y
theorem Nd.c1 {n : Nat} {σ τ : Nat → Nat → Nat} (h : Nd n σ τ) {x y y' : Nat} (hx : x < n) (hy : y < n) (hy' : y' < n) (ha : Alk n σ τ y y') : Alk n σ τ (σ x y) (σ x y') := by
 intro w hw
 have ht := (ha x hx).2
 constructor
 · obtain ⟨z, hz, rfl⟩ := h.ss (τ y x) w (h.rt _ _ hy hx) hw
   have a1 := h.e1 x y z hx hy hz
   have a2 := h.e1 x y' z hx hy' hz
   rw [← ht] at a2
   rw [a1, a2, (ha z hz).1]
 · have a1 := h.e3 w x y hw hx hy
   have a2 := h.e3 w x y' hw hx hy'
   rw [← (ha _ (h.rt x w hx hw)).2, a1, ← ht] at a2
   exact h.it _ _ _ (h.rt _ _ hy hx) (h.rt _ _ (h.rs _ _ hx hy) hw) (h.rt _ _ (h.rs _ _ hx hy') hw) a2
theorem Nd.c2 {n : Nat} {σ τ : Nat → Nat → Nat} (h : Nd n σ τ) {x x' y : Nat} (hx : x < n) (hx' : x' < n) (hy : y < n) (ha : Alk n σ τ x x') : Alk n σ τ (τ y x) (τ y x') := by
 intro w hw
 have hs := (ha y hy).1
 constructor
 · have a1 := h.e1 x y w hx hy hw
   have a2 := h.e1 x' y w hx' hy hw
   rw [← (ha _ (h.rs y w hy hw)).1, ← a1, ← hs] at a2
   exact (h.is _ _ _ (h.rs _ _ hx hy) (h.rs _ _ (h.rt _ _ hy hx') hw) (h.rs _ _ (h.rt _ _ hy hx) hw) a2).symm
 · obtain ⟨u, hu, rfl⟩ := h.st (σ x y) w (h.rs _ _ hx hy) hw
   have a1 := h.e3 u x y hu hx hy
   have a2 := h.e3 u x' y hu hx' hy
   rw [← (ha u hu).2, a1, ← hs] at a2
   exact a2

structure Quo (n m : Nat) (σ τ : Nat → Nat → Nat) (c d : Nat → Nat) : Prop where
 cm : ∀ x, x < n → c x < m
 dn : ∀ i, i < m → d i < n
 cd : ∀ i, i < m → c (d i) = i
 ca : ∀ x x', x < n → x' < n → (c x = c x' ↔ Alk n σ τ x x')
theorem Quo.al {n m : Nat} {σ τ : Nat → Nat → Nat} {c d : Nat → Nat} (q : Quo n m σ τ c d) {x : Nat} (hx : x < n) : Alk n σ τ (d (c x)) x :=
 (q.ca _ _ (q.dn _ (q.cm x hx)) hx).1 (q.cd _ (q.cm x hx))
theorem Quo.fs {n m : Nat} {σ τ : Nat → Nat → Nat} {c d : Nat → Nat} (h : Nd n σ τ) (q : Quo n m σ τ c d) {x y : Nat} (hx : x < n) (hy : y < n) : c (σ (d (c x)) (d (c y))) = c (σ x y) := by
 have h1 := q.dn _ (q.cm x hx)
 have h2 := q.dn _ (q.cm y hy)
 rw [(q.al hx _ h2).1]
 exact (q.ca _ _ (h.rs _ _ hx h2) (h.rs _ _ hx hy)).2 (h.c1 hx h2 hy (q.al hy))
theorem Quo.ft {n m : Nat} {σ τ : Nat → Nat → Nat} {c d : Nat → Nat} (h : Nd n σ τ) (q : Quo n m σ τ c d) {x y : Nat} (hx : x < n) (hy : y < n) : c (τ (d (c y)) (d (c x))) = c (τ y x) := by
 have h1 := q.dn _ (q.cm x hx)
 have h2 := q.dn _ (q.cm y hy)
 rw [(q.al hy _ h1).2]
 exact (q.ca _ _ (h.rt _ _ hy h1) (h.rt _ _ hy hx)).2 (h.c2 h1 hx hy (q.al hx))

theorem inj_of_surj {m : Nat} {g : Nat → Nat} (hs : ∀ w, w < m → ∃ j, j < m ∧ g j = w) : ∀ j j', j < m → j' < m → g j = g j' → j = j' := by
 have hnd : ((List.range m).map g).Nodup := nodup_of_sub (List.range m) ((List.range m).map g) List.nodup_range (fun x hx => by
  obtain ⟨j, hj, rfl⟩ := hs x (by simpa using hx)
  exact List.mem_map.2 ⟨j, by simpa using hj, rfl⟩) (by simp)
 intro j j' hj hj' he
 have := (List.getElem_inj (xs := (List.range m).map g) (i := j) (j := j') (h₀ := by simpa using hj) (h₁ := by simpa using hj') hnd).1 (by simpa using he)
 exact this

theorem Quo.nd {n m : Nat} {σ τ : Nat → Nat → Nat} {c d : Nat → Nat} (h : Nd n σ τ) (q : Quo n m σ τ c d) : Nd m (fun i j => c (σ (d i) (d j))) (fun i j => c (τ (d i) (d j))) := by
 have rs : ∀ x y, x < m → y < m → c (σ (d x) (d y)) < m := fun x y hx hy => q.cm _ (h.rs _ _ (q.dn _ hx) (q.dn _ hy))
 have rt : ∀ x y, x < m → y < m → c (τ (d x) (d y)) < m := fun x y hx hy => q.cm _ (h.rt _ _ (q.dn _ hx) (q.dn _ hy))
 have ss : ∀ x w, x < m → w < m → ∃ y, y < m ∧ c (σ (d x) (d y)) = w := fun x w hx hw => by
  obtain ⟨y, hy, he⟩ := h.ss (d x) (d w) (q.dn _ hx) (q.dn _ hw)
  refine ⟨c y, q.cm _ hy, ?_⟩
  have := q.fs h (q.dn _ hx) hy
  rw [q.cd _ hx] at this
  rw [this, he, q.cd _ hw]
 have st : ∀ x w, x < m → w < m → ∃ y, y < m ∧ c (τ (d x) (d y)) = w := fun x w hx hw => by
  obtain ⟨y, hy, he⟩ := h.st (d x) (d w) (q.dn _ hx) (q.dn _ hw)
  refine ⟨c y, q.cm _ hy, ?_⟩
  have := q.ft h hy (q.dn _ hx)
  rw [q.cd _ hx] at this
  rw [this, he, q.cd _ hw]
 -- the class of a map of elements is the quotient's map of the classes
 have ks : ∀ u v, u < n → v < n → c (σ (d (c u)) (d (c v))) = c (σ u v) := fun u v hu hv => q.fs h hu hv
 have kt : ∀ u v, u < n → v < n → c (τ (d (c u)) (d (c v))) = c (τ u v) := fun u v hu hv => q.ft h hv hu
 constructor
 · exact rs
 · exact rt
 · exact fun x y y' hx hy hy' he => inj_of_surj (fun w hw => ss x w hx hw) y y' hy hy' he
 · exact fun x y y' hx hy hy' he => inj_of_surj (fun w hw => st x w hx hw) y y' hy hy' he
 · exact ss
 · exact st
 · intro x y z hx hy hz
   have dx := q.dn _ hx
   have dy := q.dn _ hy
   have dz := q.dn _ hz
   have a1 := h.e1 _ _ _ dx dy dz
   have l1 := ks _ _ (h.rt _ _ dy dx) dz
   rw [q.cd _ hz] at l1
   have l2 := ks _ _ (h.rs _ _ dx dy) (h.rs _ _ (h.rt _ _ dy dx) dz)
   have l3 := ks _ _ dx (h.rs _ _ dy dz)
   rw [q.cd _ hx] at l3
   rw [l1, l2, l3, a1]
 · intro x y z hx hy hz
   have dx := q.dn _ hx
   have dy := q.dn _ hy
   have dz := q.dn _ hz
   have a1 := h.e2 _ _ _ dx dy dz
   have l1 := ks _ _ (h.rt _ _ dy dx) dz
   rw [q.cd _ hz] at l1
   have l2 := kt _ _ (h.rs _ _ (h.rt _ _ dy dx) dz) (h.rs _ _ dx dy)
   have l3 := kt _ _ (h.rs _ _ dy dz) dx
   rw [q.cd _ hx] at l3
   have l4 := ks _ _ (h.rt _ _ (h.rs _ _ dy dz) dx) (h.rt _ _ dz dy)
   rw [l1, l2, l3, l4, a1]
 · intro x y z hx hy hz
   have dx := q.dn _ hx
   have dy := q.dn _ hy
   have dz := q.dn _ hz
   have a1 := h.e3 _ _ _ dx dy dz
   have l1 := kt _ _ dz (h.rt _ _ dy dx)
   rw [q.cd _ hz] at l1
   have l2 := kt _ _ (h.rs _ _ dy dz) dx
   rw [q.cd _ hx] at l2
   have l3 := kt _ _ (h.rt _ _ dz dy) (h.rt _ _ (h.rs _ _ dy dz) dx)
   rw [l1, l2, l3, a1]
end Go.Mch
namespace Go.Mch

def plK (xs : List Int) (P : Int → Bool) (k : Nat) : List Int := ((List.range k).filter fun i => P (xs.getD i 0)).map fun i : Nat => (i : Int)
def pl (xs : List Int) (P : Int → Bool) : List Int := plK xs P xs.length
theorem j6u {xs : List Int} {P : Int → Bool} {k : Nat} (hk : k < xs.length) : plK xs P (k + 1) = if P xs[k] then plK xs P k ++ [(k : Int)] else plK xs P k := by
 have hg : xs.getD k 0 = xs[k] := by rw [List.getD_eq_getElem?_getD, List.getElem?_eq_getElem hk]; rfl
 simp only [plK, List.range_succ, List.filter_append, List.filter_cons, List.filter_nil, hg]
 by_cases h : P xs[k] = true
 · simp [h]
 · simp [h]
theorem plK_len (xs : List Int) (P : Int → Bool) (k : Nat) : (plK xs P k).length ≤ k := by
 have := List.length_filter_le (fun i => P (xs.getD i 0)) (List.range k)
 simpa [plK] using this
theorem pl_mem {xs : List Int} {P : Int → Bool} {i : Nat} (hi : i < xs.length) (h : P xs[i] = true) : (i : Int) ∈ pl xs P := by
 simp only [pl, plK, List.mem_map, List.mem_filter, List.mem_range]
 refine ⟨i, ⟨hi, ?_⟩, rfl⟩
 rw [List.getD_eq_getElem?_getD, List.getElem?_eq_getElem hi]; exact h
def ownN (xs : List Int) : T := if xs = [] then nil else .mem .own (some 1) (xs.map I)
theorem j5r {xs : List Int} (h : xs ≠ []) : ownN xs = .mem .own (some 1) (xs.map I) := by simp [ownN, h]

def S_places (pg : Pg) : Prop := ∀ (xs : List Int) (v : Int), xs.length ≤ 1048576 → Call pg 318 [ix xs, I v] [ix xs, I v] (ownN (pl xs fun x => decide (x = v)))
theorem t_placesOf {pg : Pg} (hp : pg.fn 318 = some j4r) : S_places pg := by
 intro xs v hl
 refine Call.intro hp rfl (by simp) ?_
 show wp _ _ j4r.body (post [.t 4] _ _ _) _
 simp [j4r]
 refine j0a (fun k e => e = fr [(1, some (.val (I v))), (5, some (.val (ownN (plK xs (fun x => decide (x = v)) k)))), (8, some (.val (ix xs))), (9, some (.val (I xs.length))), (10, some (.val (I k)))]) xs.length ?_ ?_ 0 _ (by omega) ?_
 · rintro k e hk rfl
   have hs := j6u (P := fun x => decide (x = v)) hk
   have hl2 := plK_len xs (fun x => decide (x = v)) k
   generalize plK xs (fun x => decide (x = v)) k = L at *
   generalize plK xs (fun x => decide (x = v)) (k + 1) = L' at *
   by_cases hv : xs[k] = v
   · simp [hv] at hs
     subst hs
     by_cases hL : L = []
     · subst hL
       simp [hk, hv, ownN, roomy]
       omega
     · have hL' : L ++ [(k : Int)] ≠ [] := by simp
       simp [hk, hv, j5r hL, j5r hL', roomy]
       omega
   · simp [hv] at hs
     subst hs
     by_cases hL : L' = []
     · subst hL
       simp [hk, hv, ownN]
       omega
     · simp [hk, hv, j5r hL]
       omega
 · rintro e rfl
   have hpl : pl xs (fun x => decide (x = v)) = plK xs (fun x => decide (x = v)) xs.length := rfl
   rw [hpl]
   generalize plK xs (fun x => decide (x = v)) xs.length = L
   by_cases hL : L = []
   · subst hL
     simp [ownN]
   · simp [j5r hL]
 · simp [plK, ownN]

theorem orbS_keep {ms : List (List Int)} {n : Nat} (h : Prms n ms) {k x : Nat} (hk : k < n) (hx : x < n) (h0 : 0 ≤ (orbS ms n k).1.getD x 0) : (orbS ms n (k + 1)).1.getD x 0 = (orbS ms n k).1.getD x 0 := by
 have hs : orbS ms n (k + 1) = if 0 ≤ (orbS ms n k).1.getD k 0 then orbS ms n k else (markO ms k (orbS ms n k).1 (orbS ms n k).2, (orbS ms n k).2 + 1) := rfl
 rw [hs]
 split
 · rfl
 · rename_i hn
   rw [j3e (by simpa using hx)]
   have : ¬ Rch ms k x := fun hr => orbS_open h hk hn hr (by simpa using h0)
   rw [j0n this]
   rfl
theorem orbL_first {ms : List (List Int)} {n : Nat} (h : Prms n ms) (hn : 0 < n) : (orbL ms n).getD 0 0 = 0 := by
 have key : ∀ k, 0 < k → k ≤ n → (orbS ms n k).1.getD 0 0 = 0 := by
  intro k
  induction k with
  | zero => intro h; omega
  | succ k ih =>
   intro _ hk
   rcases Nat.eq_zero_or_pos k with h0 | h0
   · subst h0
     have hz : (orbS ms n 0).1.getD 0 0 = -1 := by simp [orbS, hn]
     rw [orbS, hz, if_neg (by omega), j3e (by simpa using hn)]
     rw [show ((0 : Nat) : Int) = 0 from rfl, j0v (rch_refl ms 0)]
     rfl
   · have := ih h0 (by omega)
     rw [orbS_keep h (by omega) hn (by omega)]
     exact this
 exact key n hn (Nat.le_refl _)
theorem maxL_zero {xs : List Int} (h : ∀ x ∈ xs, x = 0) : maxL xs = 0 := by
 cases xs with
 | nil => rfl
 | cons x xs =>
  have hx : x = 0 := h x (by simp)
  subst hx
  have : ∀ l : List Int, (∀ y ∈ l, y = 0) → l.foldl (mmI true) 0 = 0 := by
   intro l
   induction l with
   | nil => intro _; rfl
   | cons y l ih =>
    intro hl
    have hy : y = 0 := hl y (by simp)
    subst hy
    simp only [List.foldl_cons]
    exact ih fun z hz => hl z (by simp [hz])
  exact this xs fun y hy => h y (by simp [hy])

def dcs (f s : List (List Int)) : Prop := isReg f s ∧ maxL (solO f s) ≠ 0
open Classical in
noncomputable def dcA (f s : List (List Int)) : Option (List Int) := if dcs f s then some (pl (solO f s) fun x => decide (x = 0)) else none
open Classical in
noncomputable def dcB (f s : List (List Int)) : Option (List Int) := if dcs f s then some (pl (solO f s) fun x => !decide (x = 0)) else none
open Classical in
noncomputable def dcC (f s : List (List Int)) : Int := if isReg f s then if maxL (solO f s) = 0 then 4 else 0 else 1
def S_dec (pg : Pg) (n : Nat) : Prop := ∀ f s : List (List Int), fits f → fits s → Call pg n [sol f s] [sol f s] (.tup [ownI (dcA f s), ownI (dcB f s), I (dcC f s)])
set_option maxRecDepth 10000 in
theorem t_dec_impl {pg : Pg} (hp : pg.fn 183 = some j1x) (h266 : S_reg pg 266) (h301 : S_solO pg 301) (h290 : S_maxL pg) (h318 : S_places pg) : S_dec pg 183 := by
 intro f s hf hs
 refine Call.intro hp rfl (by simp) ?_
 show wp _ _ j1x.body (post [.t 2, .t 3, .t 4] _ _ _) _
 simp [j1x]
 refine j0e (h266 f s hf hs) rfl rfl (fun _ => rfl) ?_
 by_cases h : isReg f s
 · have hpm := PM.of h.1.1
   have h0 := hpm.pos
   have h12 := hpm.small
   simp [j0v h]
   refine j0e (h301 f s hpm h.2) rfl rfl (fun _ => by simp) ?_
   simp
   refine j0e (h290 (solO f s) (by simp; omega) (by simpa using h0)) rfl rfl (fun _ => rfl) ?_
   by_cases hm : maxL (solO f s) = 0
   · have e0 : ¬ dcs f s := fun hh => hh.2 hm
     simp [hm, dcA, dcB, dcC, e0, h, ownI]
   · have e0 : dcs f s := ⟨h, hm⟩
     have hls := solO_length f s
     have hrg : ∀ x ∈ solO f s, 0 ≤ x := fun x hx => (j5i hx).1
     have hfi : (solO f s).getD 0 0 = 0 := orbL_first (prms_of hpm h.2) h0
     have hne : ∃ x ∈ solO f s, x ≠ 0 := Classical.byContradiction fun hh => hm (maxL_zero fun x hx => Classical.byContradiction fun h3 => hh ⟨x, hx, h3⟩)
     simp only [dcA, dcB, dcC, if_pos e0, if_pos h, if_neg hm, ownI]
     generalize solO f s = L at *
     have hL0 : 0 < L.length := by omega
     have hg0 : L[0] = 0 := by
      rw [List.getD_eq_getElem?_getD, List.getElem?_eq_getElem hL0] at hfi; exact hfi
     have hA : pl L (fun x => decide (x = 0)) ≠ [] := fun hh => by
      have := pl_mem (P := fun x => decide (x = 0)) hL0 (by simp [hg0])
      rw [hh] at this; simp at this
     have hB : pl L (fun x => !decide (x = 0)) ≠ [] := fun hh => by
      obtain ⟨x, hx, hx0⟩ := hne
      obtain ⟨i, hi, rfl⟩ := List.getElem_of_mem hx
      have := pl_mem (P := fun x => !decide (x = 0)) hi (by simp [hx0])
      rw [hh] at this; simp at this
     have hpq : h318 = h318 := rfl
     have hcl := h318 L 0 (by omega)
     rw [j5r hA] at hcl
     simp [hm]
     refine j0a (fun k e => e = fr [(5, some (.val (.mem .own (some 1) (L.map I)))), (6, some (.val (ownN (plK L (fun x => !decide (x = 0)) k)))), (17, some (.sref 5 [] 1 0 L.length)), (18, some (.val (I L.length))), (19, some (.val (I k)))]) L.length ?_ ?_ 0 _ (by omega) ?_
     · rintro k e hk rfl
       have q2 := j6u (P := fun x => !decide (x = 0)) hk
       have q4 := plK_len L (fun x => !decide (x = 0)) k
       have hk0 := hrg _ (List.getElem_mem hk)
       generalize plK L (fun x => !decide (x = 0)) k = M at *
       generalize plK L (fun x => !decide (x = 0)) (k + 1) = M' at *
       by_cases hz : L[k] = 0
       · have hz2 : ¬ 0 < L[k] := by omega
         simp [hz] at q2
         subst q2
         by_cases hM : M' = []
         · subst hM
           simp [hk, hz, ownN]
           omega
         · simp [hk, hz, j5r hM]
           omega
       · have hz2 : 0 < L[k] := by omega
         simp [hz] at q2
         subst q2
         by_cases hM : M = []
         · subst hM
           simp [hk, hz2, ownN, roomy]
           omega
         · have hM' : M ++ [(k : Int)] ≠ [] := by simp
           simp [hk, hz2, j5r hM, j5r hM', roomy]
           omega
     · rintro e rfl
       have hpl : pl L (fun x => !decide (x = 0)) = plK L (fun x => !decide (x = 0)) L.length := rfl
       rw [← hpl, j5r hB]
       simp
       refine j0e hcl rfl rfl (fun _ => by simp) ?_
       simp
     · simp [plK, ownN]
 · have e0 : ¬ dcs f s := fun hh => h hh.1
   simp [dcA, dcB, dcC, e0, h, ownI]
end Go.Mch
namespace Go.Mch

def σN (f : List (List Int)) (x y : Nat) : Nat := (v2 f x y).toNat
def τN (s : List (List Int)) (y x : Nat) : Nat := (v2 s x y).toNat
theorem PM.v2f {f s : List (List Int)} (h : PM f s) (x y : Nat) : ((σN f x y : Nat) : Int) = v2 f x y ∧ σN f x y < f.length := by
 have h1 := h.tf.nonneg x y
 have h2 := h.tf.lt h.pos x y
 unfold σN
 omega
theorem PM.v2s {f s : List (List Int)} (h : PM f s) (x y : Nat) : ((τN s y x : Nat) : Int) = v2 s x y ∧ τN s y x < f.length := by
 have h1 := h.ts.nonneg x y
 have h2 := h.ts.lt (by rw [h.len]; exact h.pos) x y
 rw [h.len] at h2
 unfold τN
 omega
theorem surj_of_inj {n : Nat} {g : Nat → Nat} (hr : ∀ y, y < n → g y < n) (hi : ∀ y y', y < n → y' < n → g y = g y' → y = y') : ∀ w, w < n → ∃ y, y < n ∧ g y = w := by
 intro w hw
 apply Classical.byContradiction
 intro hno
 have hnd : (w :: (List.range n).map g).Nodup := by
  rw [List.nodup_cons]
  constructor
  · intro hm
    obtain ⟨y, hy, he⟩ := List.mem_map.1 hm
    exact hno ⟨y, by simpa using hy, he⟩
  · rw [List.Nodup, List.pairwise_map]
    refine (List.nodup_range (n := n)).imp_of_mem ?_
    intro a b ha hb hab he
    exact hab (hi a b (by simpa using ha) (by simpa using hb) he)
 have := j4w (w :: (List.range n).map g) (List.range n) hnd fun x hx => by
  rcases List.mem_cons.1 hx with rfl | hx
  · simpa using hw
  · obtain ⟨y, hy, rfl⟩ := List.mem_map.1 hx
    simpa using hr y (by simpa using hy)
 simp at this
 omega


end Go.Mch
namespace Go.Mch


def S_heldRack (pg : Pg) : Prop := ∀ (o : Option (List (List Int))) (k : Int), j4j (lso o) → 0 ≤ k → k ≤ 2305843009213693952 → heldL (lso o) k ≤ 4611686018427387904 → Call pg 149 [.agg [eT o], I k] [.agg [eT o], I k] (I (if heldL (lso o) k < 0 then -1 else heldL (lso o) k))
end Go.Mch
namespace Go.Mch

@[simp] theorem isPrefixOf_cons2 (a b : Nat) (as bs : List Nat) : (a :: as).isPrefixOf (b :: bs) = (a == b && as.isPrefixOf bs) := rfl

def eS : Option (List (List Int) × List (List Int)) → T
 | none => .agg [nil, nil]
 | some (X, Y) => sol X Y

theorem S_heldRack.at {pg : Pg} (h : S_heldRack pg) (Y : List (List Int)) (m : Int) (hY : j4j Y) (h1 : 0 ≤ m) (h2 : m ≤ 1152921504606846976) : Call pg 149 [.agg [tb (upT m Y)], I m] [.agg [tb (upT m Y)], I m] (I (kAt m Y Y.length)) := by
 have hk := kAt_le (k := m) hY Y.length (Nat.le_refl _)
 have hl := hY.1
 have := h (some (upT m Y)) m (upT_small hY m) h1 (by omega) (by simp [heldL_all _ _ h1]; omega)
 simp only [lso_some, heldL_all _ _ h1] at this
 rw [if_neg (by omega)] at this
 exact this
def S_heldSol (pg : Pg) : Prop := ∀ (o o' : Option (List (List Int))) (k m : Int), j4j (lso o) → j4j (lso o') → 0 ≤ k → k ≤ 1152921504606846976 → 0 ≤ heldL (lso o) k → heldL (lso o) k ≤ 1152921504606846976 → heldL (lso o') (heldL (lso o) k) = m → 0 ≤ m → Call pg 172 [.agg [eT o, eT o'], I k] [.agg [eT o, eT o'], I k] (I m)
theorem S_heldSol.at {pg : Pg} (h : S_heldSol pg) (X Y : List (List Int)) (m : Int) (hX : j4j X) (hY : j4j Y) (h1 : 0 ≤ m) (h2 : m ≤ 1048576) : Call pg 172 [.agg [tb (upT m X), tb (upT (kAt m X X.length) Y)], I m] [.agg [tb (upT m X), tb (upT (kAt m X X.length) Y)], I m] (I (kAt (kAt m X X.length) Y Y.length)) := by
 have hk := kAt_le (k := m) hX X.length (Nat.le_refl _)
 have hk2 := kAt_le (k := kAt m X X.length) hY Y.length (Nat.le_refl _)
 have hl := hX.1
 have e1 := heldL_all X m h1
 have e2 := heldL_all Y (kAt m X X.length) (by omega)
 exact h (some (upT m X)) (some (upT _ Y)) m _ (upT_small hX m) (upT_small hY _) h1 (by omega) (by simp [e1]; omega) (by simp [e1]; omega) (by simp [e1, e2]) (by omega)
end Go.Mch
namespace Go.Mch


def S_sol1 (pg : Pg) (n : Nat) (snd : Bool) : Prop := ∀ (x y g1 g2 : Int) (f : Nat) (caps : List T), T.eryL .old caps = caps → T.j0l caps = true → Call pg f (I x :: I y :: caps) (I x :: I y :: caps) (.tup [I g1, I g2]) →
 Call pg n [I x, I y, .mem .old none [.fn f caps]] [I x, I y, .mem .old none [.fn f caps]] (I (if snd then g2 else g1))
theorem t_solutionBy1 {pg : Pg} (hp : pg.fn 391 = some j27) : S_sol1 pg 391 false := by
 intro x y g1 g2 f caps hc1 hc2 hc
 refine Call.intro hp rfl (by simp [hc2]) ?_
 show wp _ _ j27.body (post [.t 5] _ _ _) _
 simp [j27]
 refine j0e (by simpa [hc1] using hc) rfl rfl (fun _ => by simp) ?_
 simp [hc2]
theorem t_solutionBy2 {pg : Pg} (hp : pg.fn 392 = some j26) : S_sol1 pg 392 true := by
 intro x y g1 g2 f caps hc1 hc2 hc
 refine Call.intro hp rfl (by simp [hc2]) ?_
 show wp _ _ j26.body (post [.t 5] _ _ _) _
 simp [j26]
 refine j0e (by simpa [hc1] using hc) rfl rfl (fun _ => by simp) ?_
 simp [hc2]
def S_solBy (pg : Pg) : Prop := ∀ (n : Nat) (g1 g2 : Nat → Nat → Int) (f : Nat) (caps : List T), n ≤ 1048576 → T.eryL .old caps = caps → T.j0l caps = true →
 (∀ x y : Nat, x < n → y < n → Call pg f (I x :: I y :: caps) (I x :: I y :: caps) (.tup [I (g1 x y), I (g2 x y)])) →
 Call pg 308 [I n, .fn f caps] [I n, .fn f caps] (.agg [.mem .own (some 1) (rows (tabL n g1)), .mem .own (some 1) (rows (tabL n g2))])
theorem t_solutionBy {pg : Pg} (hp : pg.fn 308 = some j3x) (h376 : S_tableBy pg) (h391 : S_sol1 pg 391 false) (h392 : S_sol1 pg 392 true) : S_solBy pg := by
 intro n g1 g2 f caps hn hc1 hc2 hc
 refine Call.intro hp rfl (by simp [hc2]) ?_
 show wp _ _ j3x.body (post [.cell 4 (some 2)] _ _ _) _
 simp [j3x, hc1, hc2]
 have k1 : ∀ x y : Nat, x < n → y < n → Call pg 391 (I x :: I y :: [.mem .old none [.fn f caps]]) (I x :: I y :: [.mem .old none [.fn f caps]]) (I (g1 x y)) := fun x y hx hy => h391 x y (g1 x y) (g2 x y) f caps hc1 hc2 (hc x y hx hy)
 have k2 : ∀ x y : Nat, x < n → y < n → Call pg 392 (I x :: I y :: [.mem .old none [.fn f caps]]) (I x :: I y :: [.mem .old none [.fn f caps]]) (I (g2 x y)) := fun x y hx hy => h392 x y (g1 x y) (g2 x y) f caps hc1 hc2 (hc x y hx hy)
 refine j0e (h376 n g1 391 [.mem .old none [.fn f caps]] hn (by simp [hc1]) (by simp [hc2]) k1) rfl rfl (fun _ => by simp) ?_
 simp [hc1, hc2]
 refine j0e (h376 n g2 392 [.mem .old none [.fn f caps]] hn (by simp [hc1]) (by simp [hc2]) k2) rfl rfl (fun _ => by simp) ?_
 simp [hc2]



end Go.Mch
namespace Go.Mch

def cmpI (a b : Int) : Int := if a < b then -1 else if b < a then 1 else 0
def cmpW {α : Type} (c : α → α → Int) : List α → List α → Int
 | [], [] => 0
 | [], _ :: _ => -1
 | _ :: _, [] => 1
 | a :: as, b :: bs => if c a b ≠ 0 then c a b else cmpW c as bs
theorem cmpI_zero (a b : Int) : cmpI a b = 0 ↔ a = b := by
 unfold cmpI
 constructor
 · intro h
   split at h
   · omega
   · split at h <;> omega
 · rintro rfl; simp
theorem cmpW_zero {α : Type} {c : α → α → Int} (hc : ∀ a b, c a b = 0 ↔ a = b) : ∀ as bs : List α, cmpW c as bs = 0 ↔ as = bs
 | [], [] => by simp [cmpW]
 | [], _ :: _ => by simp [cmpW]
 | _ :: _, [] => by simp [cmpW]
 | a :: as, b :: bs => by
  have ih := cmpW_zero hc as bs
  unfold cmpW
  by_cases h : c a b = 0
  · have := (hc a b).1 h
    subst this
    simp [h, ih]
  · have : a ≠ b := fun he => h ((hc a b).2 he)
    simp [h, this]
abbrev cmpL : List Int → List Int → Int := cmpW cmpI
theorem cmpL_zero (a b : List Int) : cmpL a b = 0 ↔ a = b := cmpW_zero cmpI_zero a b
end Go.Mch
namespace Go.Mch

def atV (k : Env → Prop) (e : Env) (d : Option Nat) (n : Int) : V → Prop
 | .val (.sc (.string s)) => j0c (if 0 ≤ n then s[n.toNat]? else none) fun b => k (e.setD d (.val (.sc (.int .u8 b.toNat))))
 | _ => False
section
variable (G : Rl) (m : K) (d : Option Nat) (k : Env → Prop) (e : Env)
@[simp] theorem q_at (x i : Opd) : j0m G m d (.at x i) k e = j0c (e.opd x) fun a => j0c ((e.opd i).bind asI) fun n => atV k e d n a := by
 unfold j0m atV
 rfl
@[simp ↓, simp] theorem asgV_same (r : Nat) : asgV e d k (.same r) = j0c (e.take (.same r)) fun y => k (y.2.setD d (.val y.1)) := rfl
@[simp ↓, simp] theorem atV_str (n : Int) (s : ByteArray) : atV k e d n (.val (.sc (.string s))) = j0c (if 0 ≤ n then s[n.toNat]? else none) fun b => k (e.setD d (.val (.sc (.int .u8 b.toNat)))) := rfl
end

theorem cmpI_neg (a b : Int) : cmpI b a = - cmpI a b := by
 unfold cmpI
 split
 · rw [if_neg (by omega)]
 · split <;> rfl
theorem cmpL_neg : ∀ a b : List Int, cmpL b a = - cmpL a b
 | [], [] => rfl
 | [], _ :: _ => rfl
 | _ :: _, [] => rfl
 | a :: as, b :: bs => by
  have ih := cmpL_neg as bs
  have h := cmpI_neg a b
  simp only [cmpW]
  by_cases hz : cmpI a b = 0
  · have hz2 : cmpI b a = 0 := by omega
    simp only [hz, hz2, ne_eq, not_true_eq_false, if_false]
    exact ih
  · have hz2 : cmpI b a ≠ 0 := by omega
    simp only [ne_eq, hz, hz2, not_false_eq_true, if_true]
    exact h
theorem cmpI_lt {a b : Int} : cmpI a b < 0 ↔ a < b := by
 unfold cmpI
 by_cases h : a < b
 · simp [h]
 · by_cases h2 : b < a
   · simp [h, h2]
   · simp [h, h2]
theorem cmpL_trans : ∀ a b c : List Int, cmpL a b < 0 → cmpL b c < 0 → cmpL a c < 0
 | [], [], _, h, _ => by simp [cmpW] at h
 | [], _ :: _, [], _, h => by simp [cmpW] at h
 | [], _ :: _, _ :: _, _, _ => by simp [cmpW]
 | _ :: _, [], _, h, _ => by simp [cmpW] at h
 | _ :: _, _ :: _, [], _, h => by simp [cmpW] at h
 | a :: as, b :: bs, c :: cs, h1, h2 => by
  have ih := cmpL_trans as bs cs
  simp only [cmpW] at h1 h2 ⊢
  have z1 := cmpI_zero a b
  have z2 := cmpI_zero b c
  have l1 := @cmpI_lt a b
  have l2 := @cmpI_lt b c
  have l3 := @cmpI_lt a c
  have z3 := cmpI_zero a c
  by_cases e1 : cmpI a b = 0
  · have := z1.1 e1
    subst this
    by_cases e2 : cmpI a c = 0
    · simp [e1, e2] at h1 h2 ⊢
      exact ih h1 h2
    · simp only [ne_eq, e2, not_false_eq_true, if_true] at h2 ⊢
      exact h2
  · by_cases e2 : cmpI b c = 0
    · have := z2.1 e2
      subst this
      simp only [ne_eq, e1, not_false_eq_true, if_true] at h1 ⊢
      exact h1
    · simp only [ne_eq, e1, e2, not_false_eq_true, if_true] at h1 h2
      have : cmpI a c < 0 := l3.2 (by have := l1.1 h1; have := l2.1 h2; omega)
      rw [if_pos (by omega)]
      exact this
def Srt (X : List (List Int)) : Prop := X.Pairwise fun a b => cmpL a b < 0
theorem Srt.lt {X : List (List Int)} (h : Srt X) {i j : Nat} (hj : j < X.length) (hij : i < j) : cmpL (X[i]'(by omega)) X[j] < 0 :=
 List.pairwise_iff_getElem.1 h i j (by omega) hj hij
end Go.Mch
namespace Go.Mch

def gt (X : List (List Int)) (k : Nat) : List Int := X.getD k []
theorem gt_at {X : List (List Int)} {k : Nat} (h : k < X.length) : X[k] = gt X k := by simp [gt, h]
def tau (i j k : Nat) : Nat := if k = j then i else if k = i then j else k
theorem tau_inj {i j k k' : Nat} (h : tau i j k = tau i j k') : k = k' := by
 unfold tau at h
 split at h <;> split at h <;> (try split at h) <;> (try split at h) <;> omega
theorem tau_tau (i j k : Nat) : tau i j (tau i j k) = k := by
 unfold tau
 split <;> (try split) <;> (try split) <;> (try split) <;> omega
theorem tau_in {i j k a b : Nat} (hi : a ≤ i ∧ i < b) (hj : a ≤ j ∧ j < b) (hk : a ≤ k ∧ k < b) : a ≤ tau i j k ∧ tau i j k < b := by
 unfold tau
 split <;> (try split) <;> omega
def swL (X : List (List Int)) (i j : Nat) : List (List Int) := (X.set i (gt X j)).set j (gt X i)
@[simp] theorem swL_length (X : List (List Int)) (i j : Nat) : (swL X i j).length = X.length := by simp [swL]
theorem gt_swL {X : List (List Int)} {i j : Nat} (hi : i < X.length) (hj : j < X.length) (k : Nat) : gt (swL X i j) k = gt X (tau i j k) := by
 unfold tau
 simp only [gt, swL, List.getD_eq_getElem?_getD, List.getElem?_set, List.length_set]
 by_cases h1 : j = k
 · subst h1; simp [hj]
 · have h1' : ¬ k = j := fun h => h1 h.symm
   by_cases h2 : i = k
   · subst h2; simp [h1, h1', hi]
   · have h2' : ¬ k = i := fun h => h2 h.symm
     simp [h1, h2, h1', h2']
def Dj (X : List (List Int)) : Prop := ∀ k k', k < X.length → k' < X.length → gt X k = gt X k' → k = k'
def bef (x y : List Int) : Prop := cmpL x y < 0
instance (x y : List Int) : Decidable (bef x y) := by unfold bef; infer_instance
theorem bef_trans {x y z : List Int} (h1 : bef x y) (h2 : bef y z) : bef x z := cmpL_trans _ _ _ h1 h2
theorem bef_irr (x : List Int) : ¬ bef x x := by
 have := (cmpL_zero x x).2 rfl
 unfold bef
 omega
theorem bef_not {x y : List Int} (h : bef x y) : ¬ bef y x := fun h2 => bef_irr x (bef_trans h h2)
theorem bef_or {x y : List Int} (hne : x ≠ y) (h : ¬ bef x y) : bef y x := by
 have h1 := cmpL_neg x y
 have h2 : cmpL x y ≠ 0 := fun hz => hne ((cmpL_zero x y).1 hz)
 unfold bef at h ⊢
 omega
theorem Dj.or {X : List (List Int)} (h : Dj X) {i j : Nat} (hi : i < X.length) (hj : j < X.length) (hij : i ≠ j) (hn : ¬ bef (gt X i) (gt X j)) : bef (gt X j) (gt X i) :=
 bef_or (fun he => hij (h i j hi hj he)) hn
theorem Dj.swap {X : List (List Int)} (h : Dj X) {i j : Nat} (hi : i < X.length) (hj : j < X.length) : Dj (swL X i j) := by
 intro k k' hk hk' he
 rw [swL_length] at hk hk'
 rw [gt_swL hi hj, gt_swL hi hj] at he
 have h1 := tau_in (i := i) (j := j) (a := 0) (b := X.length) (k := k) (by omega) (by omega) (by omega)
 have h2 := tau_in (i := i) (j := j) (a := 0) (b := X.length) (k := k') (by omega) (by omega) (by omega)
 exact tau_inj (h _ _ h1.2 h2.2 he)
structure PI (X Y : List (List Int)) (a b : Nat) : Prop where
 len : Y.length = X.length
 out : ∀ k, k < a ∨ b ≤ k → gt Y k = gt X k
 fwd : ∀ k, a ≤ k → k < b → ∃ k', a ≤ k' ∧ k' < b ∧ gt Y k = gt X k'
 bwd : ∀ k, a ≤ k → k < b → ∃ k', a ≤ k' ∧ k' < b ∧ gt X k = gt Y k'
 dj : Dj Y
theorem PI.refl {X : List (List Int)} (h : Dj X) (a b : Nat) : PI X X a b := ⟨rfl, fun _ _ => rfl, fun k h1 h2 => ⟨k, h1, h2, rfl⟩, fun k h1 h2 => ⟨k, h1, h2, rfl⟩, h⟩
theorem PI.trans {X Y Z : List (List Int)} {a b : Nat} (h : PI X Y a b) (g : PI Y Z a b) : PI X Z a b :=
 ⟨g.len.trans h.len, fun k hk => (g.out k hk).trans (h.out k hk), fun k h1 h2 => by
  obtain ⟨k', p1, p2, p3⟩ := g.fwd k h1 h2
  obtain ⟨k'', q1, q2, q3⟩ := h.fwd k' p1 p2
  exact ⟨k'', q1, q2, p3.trans q3⟩, fun k h1 h2 => by
  obtain ⟨k', p1, p2, p3⟩ := h.bwd k h1 h2
  obtain ⟨k'', q1, q2, q3⟩ := g.bwd k' p1 p2
  exact ⟨k'', q1, q2, p3.trans q3⟩, g.dj⟩
theorem PI.swap {X Y : List (List Int)} {a b i j : Nat} (h : PI X Y a b) (hb : b ≤ X.length) (hi : a ≤ i ∧ i < b) (hj : a ≤ j ∧ j < b) : PI X (swL Y i j) a b := by
 have hl := h.len
 have hg := gt_swL (X := Y) (i := i) (j := j) (by omega) (by omega)
 refine ⟨by simp [hl], fun k hk => ?_, fun k h1 h2 => ?_, fun k h1 h2 => ?_, h.dj.swap (by omega) (by omega)⟩
 · rw [hg]
   have : tau i j k = k := by unfold tau; split <;> (try split) <;> omega
   rw [this]
   exact h.out k hk
 · rw [hg]
   have := tau_in hi hj ⟨h1, h2⟩
   exact h.fwd _ this.1 this.2
 · obtain ⟨k', p1, p2, p3⟩ := h.bwd k h1 h2
   have := tau_in hi hj ⟨p1, p2⟩
   exact ⟨tau i j k', this.1, this.2, by rw [hg, tau_tau]; exact p3⟩
def SI (X : List (List Int)) (a b : Nat) : Prop := ∀ p q, a ≤ p → p < q → q < b → bef (gt X p) (gt X q)
theorem SI.one (X : List (List Int)) {a b : Nat} (h : b ≤ a + 1) : SI X a b := fun p q h1 h2 h3 => by omega
def SJ (X : List (List Int)) (a j i : Nat) : Prop := ∀ p q, a ≤ p → p < q → q < i → q ≠ j → bef (gt X p) (gt X q)
theorem SJ.done {X : List (List Int)} {a j i : Nat} (h : SJ X a j i) (hj : j = a ∨ bef (gt X (j - 1)) (gt X j)) : SI X a i := fun p q h1 h2 h3 => by
 by_cases hq : q = j
 · subst hq
   rcases hj with hj | hj
   · omega
   · by_cases hp : p = q - 1
     · subst hp; exact hj
     · exact bef_trans (h p (q - 1) h1 (by omega) (by omega) (by omega)) hj
 · exact h p q h1 h2 h3 hq
theorem SJ.step {X : List (List Int)} {a j i : Nat} (h : SJ X a (j + 1) i) (haj : a ≤ j) (hji : j + 1 < i) (hi : i ≤ X.length) (hb : bef (gt X (j + 1)) (gt X j)) : SJ (swL X (j + 1) j) a j i := by
 have hg := gt_swL (X := X) (i := j + 1) (j := j) (by omega) (by omega)
 intro p q h1 h2 h3 h4
 rw [hg, hg]
 unfold tau
 by_cases hq : q = j + 1
 · subst hq
   rw [if_neg h4, if_pos rfl]
   by_cases hp : p = j
   · rw [if_pos hp]; exact hb
   · rw [if_neg hp, if_neg (by omega)]
     exact h p j h1 (by omega) (by omega) (by omega)
 · rw [if_neg h4, if_neg hq]
   by_cases hp : p = j
   · rw [if_pos hp]; exact h (j + 1) q (by omega) (by omega) h3 hq
   · rw [if_neg hp]
     by_cases hp2 : p = j + 1
     · rw [if_pos hp2]; exact h j q (by omega) (by omega) h3 hq
     · rw [if_neg hp2]; exact h p q h1 h2 h3 hq
theorem SI.srt {X : List (List Int)} (h : SI X 0 X.length) : Srt X := by
 refine List.pairwise_iff_getElem.2 fun i j hi hj hij => ?_
 have := h i j (by omega) hij hj
 rw [← gt_at hi, ← gt_at hj] at this
 exact this
theorem PI.mem {X Y : List (List Int)} (h : PI X Y 0 X.length) (x : List Int) : x ∈ Y ↔ x ∈ X := by
 have hl := h.len
 constructor
 · intro hm
   obtain ⟨k, hk, rfl⟩ := List.getElem_of_mem hm
   obtain ⟨k', _, p2, p3⟩ := h.fwd k (by omega) (by omega)
   rw [gt_at hk, p3, ← gt_at p2]
   exact List.getElem_mem p2
 · intro hm
   obtain ⟨k, hk, rfl⟩ := List.getElem_of_mem hm
   obtain ⟨k', _, p2, p3⟩ := h.bwd k (by omega) hk
   have hk' : k' < Y.length := by omega
   rw [gt_at hk, p3, ← gt_at hk']
   exact List.getElem_mem hk'
end Go.Mch
namespace Go.Mch

def Sm (X : List (List Int)) : Prop := X.length ≤ 1000000 ∧ ∀ k, (gt X k).length ≤ 1048576
theorem Sm.pi {X Y : List (List Int)} {a b : Nat} (h : Sm X) (p : PI X Y a b) : Sm Y := ⟨by rw [p.len]; exact h.1, fun k => by
 by_cases hk : a ≤ k ∧ k < b
 · obtain ⟨k', _, _, q⟩ := p.fwd k hk.1 hk.2
   rw [q]; exact h.2 k'
 · rw [p.out k (by omega)]; exact h.2 k⟩
def j6o {α : Type} (Q : α → Prop) (rs : List RV) (args : List T) (args' : α → List T) (r : α → T) : X → Env → Prop := fun x e => ∃ l, Q l ∧ post rs args (args' l) (r l) x e
theorem Call.findA {α : Type} {pg : Pg} {f : Nat} {args : List T} {fn : F} {args' : α → List T} {r : α → T} {Q : α → Prop} (hf : pg.fn f = some fn) (hn : fn.np = args.length) (hl : fn.lets args = true) (hk : kindOf args = .old)
 (h : wp (Call pg) .old fn.body (j6o Q fn.rs args args' r) (init args)) : ∃ l, Q l ∧ Call pg f args (args' l) (r l) := by
 obtain ⟨⟨l, hq⟩, hl2⟩ := wp_ex (β := { l // Q l }) (R := fun l x e => post fn.rs args (args' l.1) (r l.1) x e) fn.body (wp_mono (fun _ _ _ _ h => h) _ (fun _ _ ⟨l, hq, hp⟩ => ⟨⟨l, hq⟩, hp⟩) h)
 exact ⟨l, hq, Call.intro_own hf hn hl (by rw [hk]; exact hl2)⟩
def ExY (P : List (List Int) → Prop) : Prop := ∃ Q, P Q
theorem ExY.mk {P : List (List Int) → Prop} (Q : List (List Int)) (h : P Q) : ExY P := ⟨Q, h⟩
theorem SI.less {X : List (List Int)} {a i b : Nat} (h : SI X a i) (hb : b ≤ i) : SI X a b := fun p q h1 h2 h3 => h p q h1 h2 (by omega)

end Go.Mch
namespace Go.Mch

def chd (c p : Nat) : Prop := c = 2 * p + 1 ∨ c = 2 * p + 2
def Hp (X : List (List Int)) (f lo hi : Nat) : Prop := ∀ p c, lo ≤ p → chd c p → c < hi → ¬ bef (gt X (f + p)) (gt X (f + c))
def HpR (X : List (List Int)) (f lo hi r : Nat) : Prop := (∀ p c, lo ≤ p → p ≠ r → chd c p → c < hi → ¬ bef (gt X (f + p)) (gt X (f + c))) ∧ ∀ q c, lo ≤ q → chd r q → chd c r → c < hi → ¬ bef (gt X (f + q)) (gt X (f + c))
theorem Hp.start {X : List (List Int)} {f lo hi : Nat} (h : Hp X f (lo + 1) hi) : HpR X f lo hi lo :=
 ⟨fun p c h1 h2 h3 h4 => h p c (by omega) h3 h4, fun q c h1 h2 h3 h4 => by unfold chd at h2; omega⟩
theorem HpR.out {X : List (List Int)} {f lo hi r : Nat} (h : HpR X f lo hi r) (hr : hi ≤ 2 * r + 1) : Hp X f lo hi := fun p c h1 h2 h3 => by
 by_cases hp : p = r
 · subst hp; unfold chd at h2; omega
 · exact h.1 p c h1 hp h2 h3
def Big (X : List (List Int)) (f hi r d : Nat) : Prop := chd d r ∧ d < hi ∧ ∀ c, chd c r → c < hi → ¬ bef (gt X (f + d)) (gt X (f + c))
theorem HpR.step {X : List (List Int)} {f lo hi r d : Nat} (h : HpR X f lo hi r) (hr : lo ≤ r) (hl : f + hi ≤ X.length) (hb : Big X f hi r d) (hn : bef (gt X (f + r)) (gt X (f + d))) : HpR (swL X (f + r) (f + d)) f lo hi d := by
 obtain ⟨b1, b2, b3⟩ := hb
 have hrd : r < d := by unfold chd at b1; omega
 have hg := gt_swL (X := X) (i := f + r) (j := f + d) (by omega) (by omega)
 have hgr : gt (swL X (f + r) (f + d)) (f + r) = gt X (f + d) := by rw [hg]; unfold tau; rw [if_neg (by omega), if_pos rfl]
 have hgd : gt (swL X (f + r) (f + d)) (f + d) = gt X (f + r) := by rw [hg]; unfold tau; rw [if_pos rfl]
 have hgo : ∀ k, k ≠ r → k ≠ d → gt (swL X (f + r) (f + d)) (f + k) = gt X (f + k) := fun k h1 h2 => by rw [hg]; unfold tau; rw [if_neg (by omega), if_neg (by omega)]
 refine ⟨fun p c h1 h2 h3 h4 => ?_, fun q c h1 h2 h3 h4 => ?_⟩
 · by_cases hp : p = r
   · subst hp
     rw [hgr]
     by_cases hc : c = d
     · subst hc; rw [hgd]; exact bef_not hn
     · have hcr : c ≠ p := by unfold chd at h3; omega
       rw [hgo c hcr hc]
       exact b3 c h3 h4
   · rw [hgo p hp h2]
     by_cases hc : c = r
     · subst hc
       rw [hgr]
       exact h.2 p d h1 h3 b1 b2
     · have hcd : c ≠ d := fun he => by subst he; unfold chd at h3 b1; omega
       rw [hgo c hc hcd]
       exact h.1 p c h1 hp h3 h4
 · have hq : q = r := by unfold chd at h2 b1; omega
   subst hq
   have hcq : c ≠ q := by unfold chd at h3; omega
   have hcd : c ≠ d := by unfold chd at h3; omega
   rw [hgr, hgo c hcq hcd]
   exact h.1 d c (by omega) (by omega) h3 h4

end Go.Mch
namespace Go.Mch

theorem wr64 {n : Nat} (h : n ≤ 100000000) : IntKind.i64.wrap (n : Int) = n := by
 have h1 : (n : Int) % 18446744073709551616 = n := by omega
 show (if (true && decide ((n : Int) % 18446744073709551616 ≥ 9223372036854775808)) = true then _ else (n : Int) % 18446744073709551616) = _
 rw [h1, if_neg (by simp; omega)]
theorem wru {a : Int} (h0 : 0 ≤ a) (h : a < 18446744073709551616) : IntKind.u64.wrap a = a := by
 show a % 18446744073709551616 = a
 omega

end Go.Mch
namespace Go.Mch

abbrev Y8 (x : Int) : T := .sc (.int .u8 x)
abbrev H64 (x : Int) : T := .sc (.int .u64 x)
def rawB : Rw Int → T
 | .no => nil
 | .odd a => .sc (.slice (some a) 0 0)
 | .of xs => .mem .old (some 1) (xs.map Y8)
@[simp] theorem noOwnL_mapU (xs : List Int) : T.j0l (xs.map Y8) = true := by
 induction xs with
 | nil => rfl
 | cons x xs ih => simp [ih]
@[simp] theorem eryL_mapU (k : K) (xs : List Int) : T.eryL k (xs.map Y8) = xs.map Y8 := by
 induction xs with
 | nil => rfl
 | cons x xs ih => simp [ih]
@[simp] theorem lendL_mapU (xs : List Int) : T.j1t (xs.map Y8) = xs.map Y8 := by
 induction xs with
 | nil => rfl
 | cons x xs ih => simp [ih]
@[simp] theorem rawB_noOwn (a : Rw Int) : (rawB a).j0r = true := by cases a <;> simp [rawB]
@[simp] theorem rawB_peek (a : Rw Int) (n : Nat) (p : List Nat) : (rawB a).peek n p = .val (rawB a) := by cases a <;> rfl
@[simp] theorem rawB_ery (a : Rw Int) : (rawB a).ery .old = rawB a := by cases a <;> simp [rawB]
@[simp] theorem rawB_lend (a : Rw Int) : (rawB a).lend = rawB a := by cases a <;> simp [rawB]
@[simp] theorem rawB_len (a : Rw Int) : lenV (.val (rawB a)) = some (lst a).length := by cases a <;> simp [rawB]
@[simp] theorem rawB_isCell (a : Rw Int) : (rawB a).j01 = true := by cases a <;> rfl
@[simp] theorem rawB_cells (a : Rw Int) : (rawB a).cells = [rawB a] := by cases a <;> rfl
@[simp] theorem fillV_rawB (vs : List V) (i n : Nat) (c : Rw Int) (r : List (Nat × Nat × V)) : j2l vs ((i, n, .val (rawB c)) :: r) = if n = 1 ∧ i + n ≤ vs.length then j2l (vs.take i ++ [.val (rawB c)] ++ vs.drop (i + n)) r else none := by cases c <;> rfl
@[simp] theorem rawB_idx (a : Rw Int) (i : Int) : idxV 1 (.val (rawB a)) i = if 0 ≤ i ∧ i < ((lst a).length : Int) then some (.val (.mem .old none (win ((lst a).map Y8) (i.toNat * 1) 1))) else none := by
 cases a with
 | no =>
  simp only [rawB, idxV, lst_no, List.length_nil, List.map_nil]
  rw [if_neg]
  omega
 | odd ad =>
  simp only [rawB, idxV, lst_odd, List.length_nil, List.map_nil]
  rw [if_neg]
  omega
 | of xs => simp [rawB]

@[simp] theorem arith_u64 (n : Int) : arith .u64 n = some (.int .u64 (IntKind.u64.wrap n)) := by rw [arith, if_neg (by decide)]

abbrev src (c : Rw Int) (s : Int × Int) : T := .mem .own none [rawB c, I s.1, H64 s.2]
def okB (c : Rw Int) : Prop := (lst c).length ≤ 1048576 ∧ ∀ x ∈ lst c, 0 ≤ x ∧ x < 256
def Sr (c : Rw Int) (s : Int × Int) : Prop := okB c ∧ 0 ≤ s.1 ∧ s.1 ≤ (lst c).length

theorem and24 (a : Nat) : ∃ y : Nat, y ≤ 16777215 ∧ IntKind.i64.wrap (IntKind.u64.wrap ((a &&& 16777215 % 2 ^ IntKind.u64.bits : Nat) : Int)) = (y : Int) := by
 have h : a &&& 16777215 % 2 ^ IntKind.u64.bits ≤ 16777215 := by
  show a &&& 16777215 % 2 ^ 64 ≤ 16777215
  exact Nat.le_trans Nat.and_le_right (by decide)
 refine ⟨_, h, ?_⟩
 rw [wru (by omega) (by omega), wr64 (by omega)]
def S_nxt (pg : Pg) : Prop := ∀ (c : Rw Int) (s : Int × Int) (n : Int), Sr c s → ∃ (s' : Int × Int) (r : Int), (Sr c s' ∧ 0 ≤ r ∧ (1 ≤ n → r < n) ∧ (n < 1 → r = 0)) ∧ Call pg 336 [src c s, I n] [src c s', I n] (I r)
set_option maxRecDepth 10000 in
theorem t_nxt {pg : Pg} (hp : pg.fn 336 = some j3q) : S_nxt pg := by
 intro c s n hs
 have hfind := Call.findA (α := (Int × Int) × Int) (Q := fun Y => Sr c Y.1 ∧ 0 ≤ Y.2 ∧ (1 ≤ n → Y.2 < n) ∧ (n < 1 → Y.2 = 0)) (args := [src c s, I n]) (args' := fun Y => [src c Y.1, I n]) (r := fun Y => I Y.2) hp rfl (by simp [F.lets, j3q, List.range, List.range.loop]) (by simp [kindOf]) ?_
 · obtain ⟨Y, h1, h2⟩ := hfind
   exact ⟨_, _, h1, h2⟩
 show wp _ _ j3q.body (j6o _ [.t 4] _ _ _) _
 generalize hR : j6o (fun Y : (Int × Int) × Int => Sr c Y.1 ∧ 0 ≤ Y.2 ∧ (1 ≤ n → Y.2 < n) ∧ (n < 1 → Y.2 = 0)) [.t 4] [src c s, I n] (fun Y => [src c Y.1, I n]) (fun Y => I Y.2) = R
 obtain ⟨a, h⟩ := s
 obtain ⟨hc, ha, hl⟩ := hs
 have hb := hc.1
 simp only at ha hl
 by_cases hn : n < 1
 · simp [j3q, hn]
   subst hR
   exact ⟨((a, h), 0), ⟨⟨hc, ha, hl⟩, by simp; omega⟩, by simp [post]⟩
 · simp [j3q, hn]
   generalize IntKind.u64.wrap (IntKind.u64.wrap (h * 6364136223846793005) + 1442695040888963407) = h'
   generalize (h'.fdiv (2 ^ min 33 IntKind.u64.bits) % 2 ^ IntKind.u64.bits).toNat = z
   obtain ⟨y, hy, e⟩ := and24 z
   have hn0 : ¬ n = 0 := by omega
   have hmod : ∀ x : Int, 0 ≤ x → 0 ≤ x.tmod n ∧ x.tmod n < n := fun x hx => by
    rw [Int.tmod_eq_emod_of_nonneg hx]
    exact ⟨Int.emod_nonneg _ hn0, Int.emod_lt_of_pos _ (by omega)⟩
   rw [e]
   by_cases hlt : a < (lst c).length
   · obtain ⟨i, rfl⟩ : ∃ i : Nat, a = i := ⟨a.toNat, by omega⟩
     have hi : i < (lst c).length := by omega
     have hx := hc.2 _ (List.getElem_mem hi)
     have hw : IntKind.i64.wrap ((lst c)[i]) = (lst c)[i] := by
      obtain ⟨x, hx'⟩ : ∃ x : Nat, (lst c)[i] = x := ⟨((lst c)[i]).toNat, by omega⟩
      rw [hx', wr64 (by omega)]
     simp [hlt, hi, hn0, hw]
     subst hR
     have := hmod (y + (lst c)[i]) (by omega)
     refine ⟨by omega, by omega, ((i + 1, h'), ((y : Int) + (lst c)[i]).tmod n), ⟨⟨hc, by simp only; omega, by simp only; omega⟩, by simp only; omega⟩, by simp [post]⟩
   · simp [hlt, hn0]
     subst hR
     have := hmod y (by omega)
     exact ⟨((a, h'), (y : Int).tmod n), ⟨⟨hc, ha, hl⟩, by simp only; omega⟩, by simp [post]⟩
theorem j2a {G : Rl} {d : Option Nat} {k : Env → Prop} {e : Env} {n id : Nat} {ts us ts' : List T} {r : T} (hc : G id (.mem .own none (T.j1t ts) :: T.j1t us) (.mem .own none ts' :: us) r) (hk : k ((e.over n (.mem .own none ts')).setD d (.val r))) : callsP G d k e n id ts us := ⟨ts', r, hc, hk⟩
def S_pick (pg : Pg) : Prop := ∀ (c : Rw Int) (s : Int × Int) (l : List Int), Sr c s → 0 < l.length → l.length ≤ 1048576 → ∃ (s' : Int × Int) (r : Int), (Sr c s' ∧ r ∈ l) ∧ Call pg 292 [src c s, ix l] [src c s', ix l] (I r)
set_option maxRecDepth 10000 in
theorem t_pick {pg : Pg} (hp : pg.fn 292 = some j4d) (h336 : S_nxt pg) : S_pick pg := by
 intro c s l hs h0 hl
 obtain ⟨s', r, ⟨g1, g2, g3, _⟩, hc⟩ := h336 c s l.length hs
 have g3 := g3 (by omega)
 obtain ⟨i, rfl⟩ : ∃ i : Nat, r = i := ⟨r.toNat, by omega⟩
 have hi : i < l.length := by omega
 refine ⟨s', l[i], ⟨g1, List.getElem_mem hi⟩, Call.intro_own hp rfl (by simp [F.lets, j4d, List.range, List.range.loop]) ?_⟩
 show wp _ _ j4d.body (post [.t 4] _ _ _) _
 simp [j4d]
 refine j2a (ts' := [rawB c, I s'.1, H64 s'.2]) (r := I i) (by simpa using hc) ?_
 simp [hi]
def S_from (pg : Pg) : Prop := ∀ c : Rw Int, okB c → ∃ s : Int × Int, Sr c s ∧ Call pg 269 [rawB c] [rawB c] (src c s)
set_option maxRecDepth 10000 in
theorem t_from {pg : Pg} (hp : pg.fn 269 = some j5b) : S_from pg := by
 intro c hc
 have hb := hc.1
 have hfind := Call.find (α := Int × Int) (Q := fun s => Sr c s) (args := [rawB c]) (r := fun s => src c s) hp rfl (by simp) ?_
 · exact hfind
 show wp _ _ j5b.body (j6o _ [.t 2] _ _ _) _
 generalize hR : j6o (fun s : Int × Int => Sr c s) [.t 2] [rawB c] (fun _ => [rawB c]) (fun s => src c s) = R
 simp [j5b]
 obtain ⟨m, m1, m2, m3⟩ : ∃ m : Nat, m ≤ (lst c).length ∧ m ≤ 4096 ∧ (m = (lst c).length ∨ m = 4096) := by
  by_cases h1 : (lst c).length ≤ 4096
  · exact ⟨_, Nat.le_refl _, h1, .inl rfl⟩
  · exact ⟨4096, by omega, Nat.le_refl _, .inr rfl⟩
 refine j0a (fun k e => ∃ h : Int, e = fr [(0, some (.val (rawB c))), (3, some (.val (src c (0, h)))), (4, some (.val (I k)))]) m ?_ ?_ 0 _ (by omega) ⟨_, rfl⟩
 · rintro k e hk ⟨h, rfl⟩
   have k1 : k < (lst c).length := by omega
   have k2 : (k : Int) < 4096 := by omega
   simp [k1, k2]
   exact ⟨by omega, _, rfl⟩
 · rintro e ⟨h, rfl⟩
   have hok : Sr c (0, h) := ⟨hc, by simp, by simp⟩
   by_cases h1 : m = (lst c).length
   · subst h1
     simp [j03]
     subst hR
     exact ⟨(0, h), hok, by simp [post]⟩
   · have h2 : m = 4096 := by omega
     subst h2
     have h3 : (4096 : Int) < (lst c).length := by omega
     simp [h3]
     subst hR
     exact ⟨(0, h), hok, by simp [post]⟩
end Go.Mch
namespace Go.Mch
section
variable {H : Type} {enc : TypeId × Value → H} {P : Program} {w : World} {base : Nat} {held : Bool} {fm : Nat → Nat}
theorem u8_wf {n : Int} (h : (Lit.int .u8 n).wf = true) : 0 ≤ n ∧ n < 256 := by
 simp only [Lit.wf, Bool.and_eq_true, decide_eq_true_eq] at h
 have h1 : IntKind.u8.min = 0 := by decide
 have h2 : IntKind.u8.max = 255 := by decide
 omega
theorem open_rawB {m : DataW H → Nat} (hm : Bulk m) {t e : TypeId} {fuel : Nat} {cs : List Value} {x : DataW H × List MemPlace} (ht : P.underlying t = some (.slice e)) (he : P.underlying e = some (.int .u8)) (hc : P.cellsOf e = 1)
 (h : DataW.trod enc P w base (fun _ => true) held fuel t cs = some x) : ∃ v o, cs = [v] ∧ rep fm okCl w v (rawB o) ∧ (lst o).length ≤ m x.1 ∧ ∀ n ∈ lst o, 0 ≤ n ∧ n < 256 := by
 rcases open_raw ht hc h with ⟨rfl, hx⟩ | ⟨a, rfl, hx⟩ | ⟨b, off, len, cap, ds, rest, n, rfl, hl, hx, hlen, hel⟩
 · exact ⟨_, .no, rfl, ⟨rfl, rfl⟩, by simp, by simp⟩
 · exact ⟨_, .odd a, rfl, ⟨rfl, rfl⟩, by simp, by simp⟩
 · obtain ⟨zs, h1, h2⟩ := each (Q := fun i (z : Int) => w.cell? ⟨b, off + i, none⟩ = some (.int .u8 z) ∧ (Lit.int .u8 z).wf = true) len (fun i hi => by
    obtain ⟨c, y, h3, h4, _⟩ := hel i hi
    obtain ⟨z, h5, _, h6⟩ := DataW.trod_int he h4
    simp only [List.cons.injEq, and_true] at h5
    exact ⟨z, by rw [h3, h5], h6⟩)
   refine ⟨_, .of zs, rfl, rep_slice (by simp [h1]) hl (by simp) (fun i hi => ?_), ?_, fun n hn => ?_⟩
   · have hi' : i < zs.length := by simpa using hi
     exact ⟨_, (h2 i hi').1, by simp [rep, scal]⟩
   · rw [hx]
     exact Nat.le_trans (by simp [h1, hlen]) (hm.slice ds rest)
   · obtain ⟨i, hi, rfl⟩ := List.getElem_of_mem hn
     exact u8_wf (h2 i hi).2
theorem open_argB {m : DataW H → Nat} (hm : Bulk m) {rc : Reach} {b0 : Nat} {t e : TypeId} {v : Value} {d : DataW H} {ps : List MemPlace} (ht : P.underlying t = some (.slice e)) (he : P.underlying e = some (.int .u8)) (hc : P.cellsOf e = 1)
 (hval : Value.okWide P w rc b0 t v) (h : DataW.Trod enc P w base (fun _ => true) held t v d ps) : ∃ a, rep fm okCl w v (rawB a) ∧ (lst a).length ≤ m d ∧ ∀ n ∈ lst a, 0 ≤ n ∧ n < 256 := by
 obtain ⟨ad, len, cap, rfl⟩ := Go.WideShapes.okWide_slice ht hval
 obtain ⟨fuel, h⟩ := h
 obtain ⟨v0, a, e1, e2, e3, e4⟩ := open_rawB (fm := fm) hm ht he hc h
 simp only [Value.cells, List.cons.injEq, and_true] at e1
 subst e1
 exact ⟨a, e2, e3, e4⟩
end
end Go.Mch
namespace Go.Mch

def FxE (ms : List (List Int)) (x : Nat) : Prop := ∀ p ∈ ms, act p x = x
theorem fx_rch {ms : List (List Int)} {n x : Nat} (h : Prms n ms) (_ : x < n) (hf : FxE ms x) {k : Int} (hk : 0 ≤ k ∧ k < n) (hr : Rch ms k x) : k = x := by
 by_cases hne : k = x
 · exact hne
 · exfalso
   have hS : Cl ms (fun y => y = x) := fun y hy p hp => by show act p y = x; rw [hy]; exact hf p hp
   have := hr (fun y => (0 ≤ y ∧ y < n) ∧ ¬ y = x) ⟨hk, hne⟩ fun y hy p hp => ⟨act_rng h hp hy.1, compl_closed h hS hy.1 hy.2 hp⟩
   exact this.2 rfl
theorem fx_self {ms : List (List Int)} {x : Nat} (hf : FxE ms x) {y : Int} (hr : Rch ms x y) : y = x :=
 hr (fun y => y = x) rfl fun y hy p hp => by show act p y = x; rw [hy]; exact hf p hp
theorem j6f (ms : List (List Int)) (n k : Nat) : orbS ms n (k + 1) = if 0 ≤ (orbS ms n k).1.getD k 0 then orbS ms n k else (markO ms k (orbS ms n k).1 (orbS ms n k).2, (orbS ms n k).2 + 1) := rfl
theorem orbS_mono (ms : List (List Int)) (n k d : Nat) : (orbS ms n k).2 ≤ (orbS ms n (k + d)).2 := by
 induction d with
 | zero => exact Int.le_refl _
 | succ d ih =>
  rw [← Nat.add_assoc, j6f]
  split
  · exact ih
  · simp only; omega
theorem fx_fresh {ms : List (List Int)} {n x : Nat} (h : Prms n ms) (hx : x < n) (hf : FxE ms x) : ∀ k, k ≤ x → (orbS ms n k).1.getD x 0 = -1 := by
 intro k
 induction k with
 | zero => intro _; simp [orbS, hx]
 | succ k ih =>
  intro hk
  have ih := ih (by omega)
  rw [j6f]
  split
  · exact ih
  · rw [j3e (by simpa using hx), j0n fun hr => by have := fx_rch h hx hf (by omega) hr; omega]
    exact ih
theorem fx_at {ms : List (List Int)} {n x : Nat} (h : Prms n ms) (hx : x < n) (hf : FxE ms x) : orbS ms n (x + 1) = (markO ms x (orbS ms n x).1 (orbS ms n x).2, (orbS ms n x).2 + 1) := by
 rw [j6f, if_neg (by rw [fx_fresh h hx hf x (Nat.le_refl _)]; omega)]
theorem fx_kept {ms : List (List Int)} {n x : Nat} (h : Prms n ms) (hx : x < n) (hf : FxE ms x) : ∀ d, x + 1 + d ≤ n → (orbS ms n (x + 1 + d)).1.getD x 0 = (orbS ms n x).2 := by
 intro d
 induction d with
 | zero =>
  intro _
  rw [Nat.add_zero, fx_at h hx hf, j3e (by simpa using hx), j0v (rch_refl ms _)]
  rfl
 | succ d ih =>
  intro hd
  have ih := ih (by omega)
  have hc := orbS_cnt ms n x
  rw [← Nat.add_assoc, orbS_keep h (by omega) hx (by omega)]
  exact ih
theorem fx_lab {ms : List (List Int)} {n x : Nat} (h : Prms n ms) (hx : x < n) (hf : FxE ms x) : (orbL ms n).getD x 0 = (orbS ms n x).2 := by
 have := fx_kept h hx hf (n - (x + 1)) (by omega)
 rw [show x + 1 + (n - (x + 1)) = n by omega] at this
 exact this
theorem fx_other {ms : List (List Int)} {n x : Nat} (h : Prms n ms) (hx : x < n) (hf : FxE ms x) {y : Nat} (hy : y < n) (hne : y ≠ x) : ∀ d, x + 1 + d ≤ n → (orbS ms n (x + 1 + d)).1.getD y 0 ≠ (orbS ms n x).2 := by
 intro d
 induction d with
 | zero =>
  intro _
  rw [Nat.add_zero, fx_at h hx hf, j3e (by simpa using hy), j0n fun hr => by have := fx_self hf hr; omega]
  have := orbS_rng ms n x y hy
  simp only [Bool.false_eq_true, if_false]
  omega
 | succ d ih =>
  intro hd
  have ih := ih (by omega)
  have hm := orbS_mono ms n (x + 1) d
  rw [fx_at h hx hf] at hm
  simp only at hm
  rw [← Nat.add_assoc, j6f]
  split
  · exact ih
  · rw [j3e (by simpa using hy)]
    split
    · omega
    · exact ih
theorem fx_uniq {ms : List (List Int)} {n x : Nat} (h : Prms n ms) (hx : x < n) (hf : FxE ms x) {y : Nat} (hy : y < n) (he : (orbL ms n).getD y 0 = (orbL ms n).getD x 0) : y = x := by
 by_cases hne : y = x
 · exact hne
 · exfalso
   have := fx_other h hx hf hy hne (n - (x + 1)) (by omega)
   rw [show x + 1 + (n - (x + 1)) = n by omega] at this
   rw [fx_lab h hx hf] at he
   exact this he
theorem fx_lt {ms : List (List Int)} {n x y : Nat} (h : Prms n ms) (hx : x < n) (hy : y < n) (hf : FxE ms x) (hg : FxE ms y) (hl : x < y) : (orbL ms n).getD x 0 < (orbL ms n).getD y 0 := by
 rw [fx_lab h hx hf, fx_lab h hy hg]
 have := orbS_mono ms n (x + 1) (y - (x + 1))
 rw [show x + 1 + (y - (x + 1)) = y by omega, fx_at h hx hf] at this
 simp only at this
 omega
theorem orbS_act {ms : List (List Int)} {n : Nat} (h : Prms n ms) (k : Nat) (hk : k ≤ n) : ∀ x, x < n → 0 ≤ (orbS ms n k).1.getD x 0 → ∀ p ∈ ms, (orbS ms n k).1.getD (act p x).toNat 0 = (orbS ms n k).1.getD x 0 := by
 induction k with
 | zero => intro x hx h0; simp [orbS, hx] at h0
 | succ k ih =>
  intro x hx h0 p hp
  have ih := ih (by omega)
  have hr := act_rng h hp (x := x) (by omega)
  rw [j6f] at h0 ⊢
  split at h0
  · rename_i h3
    rw [if_pos h3]
    exact ih x hx h0 p hp
  · rename_i h3
    rw [if_neg h3]
    have e2 : (((act p x).toNat : Nat) : Int) = act p x := by omega
    simp only at h0 ⊢
    rw [j3e (by simpa using hx)] at h0
    rw [j3e (by simp; omega), j3e (by simpa using hx), e2]
    by_cases hR : Rch ms k x
    · rw [j0v hR, j0v (rch_step hR hp)]
      rfl
    · rw [j0n hR] at h0 ⊢
      have hR2 : ¬ Rch ms k (act p x) := compl_closed h (S := Rch ms k) (fun y hy q hq => rch_step hy hq) (by omega) hR hp
      rw [j0n hR2]
      exact ih x hx h0 p hp
theorem orbL_act {ms : List (List Int)} {n : Nat} (h : Prms n ms) {x : Nat} (hx : x < n) {p : List Int} (hp : p ∈ ms) : (orbL ms n).getD (act p x).toNat 0 = (orbL ms n).getD x 0 :=
 orbS_act h n (Nat.le_refl _) x hx (orbS_done ms n n (Nat.le_refl _) x hx) p hp
theorem filt_add (P Q : Nat → Bool) (x n : Nat) (hx : x < n) (hQ : Q x = true) (hP : P x = false) (he : ∀ y, y < n → y ≠ x → Q y = P y) (hb : ∀ y, y < n → x < y → P y = false) : (List.range n).filter Q = (List.range n).filter P ++ [x] := by
 induction n with
 | zero => omega
 | succ n ih =>
  rw [List.range_succ, List.filter_append, List.filter_append]
  by_cases hxn : x = n
  · subst hxn
    have : (List.range x).filter Q = (List.range x).filter P := List.filter_congr fun y hy => he y (by have := List.mem_range.1 hy; omega) (by have := List.mem_range.1 hy; omega)
    rw [this]
    simp [hQ, hP]
  · have hPn := hb n (by omega) (by omega)
    have hQn := (he n (by omega) (by omega)).trans hPn
    rw [ih (by omega) (fun y hy hne => he y (by omega) hne) (fun y hy hl => hb y (by omega) hl)]
    simp [hPn, hQn]
theorem filt_one (Q : Nat → Bool) (x n : Nat) (hx : x < n) (hQ : Q x = true) (he : ∀ y, y < n → y ≠ x → Q y = false) : (List.range n).filter Q = [x] := by
 have := filt_add (fun _ => false) Q x n hx hQ rfl he fun _ _ _ => rfl
 rw [this]
 simp
noncomputable def fxI (ms : List (List Int)) (k : Nat) : List Int := ((List.range k).filter fun x => dec (FxE ms x)).map fun x : Nat => (x : Int)
noncomputable def fxO (ms : List (List Int)) (n : Nat) (o : Int) : List Int := ((List.range n).filter fun x => dec (FxE ms x ∧ (orbL ms n).getD x 0 < o)).map fun x : Nat => (x : Int)
theorem fxO_one {ms : List (List Int)} {n : Nat} (h : Prms n ms) {x : Nat} (hx : x < n) (hf : FxE ms x) {o : Int} (ho : (orbL ms n).getD x 0 = o) : fxO ms n (o + 1) = fxO ms n o ++ [(x : Int)] ∧ pl (orbL ms n) (fun y => decide (y = o)) = [(x : Int)] := by
 constructor
 · rw [fxO, fxO, filt_add (fun x => dec (FxE ms x ∧ (orbL ms n).getD x 0 < o)) (fun x => dec (FxE ms x ∧ (orbL ms n).getD x 0 < o + 1)) x n hx (j0v ⟨hf, by omega⟩) (j0n fun hh => by omega)]
   · simp
   · intro y hy hne
     by_cases hc : FxE ms y ∧ (orbL ms n).getD y 0 < o
     · rw [j0v hc, j0v ⟨hc.1, by omega⟩]
     · rw [j0n hc, j0n]
       rintro ⟨h1, h2⟩
       have : ¬ (orbL ms n).getD y 0 < o := fun h3 => hc ⟨h1, h3⟩
       exact hne (fx_uniq h hx hf hy (by omega))
   · intro y hy hl
     refine j0n fun hh => ?_
     have := fx_lt h hx hy hf hh.1 hl
     omega
 · rw [pl, plK, orbL_length, filt_one _ x n hx (by rw [ho]; simp)]
   · rfl
   · intro y hy hne
     have : (orbL ms n).getD y 0 ≠ o := fun he => hne (fx_uniq h hx hf hy (he.trans ho.symm))
     simp only [decide_eq_false_iff_not]
     exact this
theorem fxO_none {ms : List (List Int)} {n : Nat} (h : Prms n ms) {o : Int} (hno : ¬ ∃ x, x < n ∧ FxE ms x ∧ (orbL ms n).getD x 0 = o) : fxO ms n (o + 1) = fxO ms n o ∧ (pl (orbL ms n) (fun y => decide (y = o))).length ≠ 1 := by
 constructor
 · rw [fxO, fxO]
   congr 1
   refine List.filter_congr fun y hy => ?_
   have hy := List.mem_range.1 hy
   by_cases hc : FxE ms y ∧ (orbL ms n).getD y 0 < o
   · rw [j0v hc, j0v ⟨hc.1, by omega⟩]
   · rw [j0n hc, j0n]
     rintro ⟨h1, h2⟩
     have : ¬ (orbL ms n).getD y 0 < o := fun h3 => hc ⟨h1, h3⟩
     exact hno ⟨y, hy, h1, by omega⟩
 · intro hl
   obtain ⟨z, hz⟩ : ∃ z, pl (orbL ms n) (fun y => decide (y = o)) = [z] := List.length_eq_one_iff.1 hl
   have hm : ∀ y, y < n → (orbL ms n).getD y 0 = o → (y : Int) = z := fun y hy he => by
    have hyl : y < (orbL ms n).length := by simpa using hy
    have := pl_mem (P := fun y => decide (y = o)) hyl (by rw [← he, List.getD_eq_getElem?_getD, List.getElem?_eq_getElem hyl]; simp)
    rw [hz] at this
    simpa using this
   have hz2 : z ∈ pl (orbL ms n) (fun y => decide (y = o)) := by rw [hz]; simp
   simp only [pl, plK, List.mem_map, List.mem_filter, List.mem_range, orbL_length] at hz2
   obtain ⟨x, ⟨hx, ho⟩, rfl⟩ := hz2
   have ho : (orbL ms n).getD x 0 = o := by simpa using ho
   refine hno ⟨x, hx, fun p hp => ?_, ho⟩
   have hr := act_rng h hp (x := x) (by omega)
   have := hm (act p x).toNat (by omega) ((orbL_act h hx hp).trans ho)
   omega
theorem fxO_all {ms : List (List Int)} {n : Nat} {o : Int} (ho : ∀ x, x < n → (orbL ms n).getD x 0 < o) : fxO ms n o = fxI ms n := by
 rw [fxO, fxI]
 congr 1
 refine List.filter_congr fun y hy => ?_
 have hy := List.mem_range.1 hy
 by_cases hc : FxE ms y
 · rw [j0v hc, j0v ⟨hc, ho y hy⟩]
 · rw [j0n hc, j0n fun hh => hc hh.1]
theorem fxO_zero (ms : List (List Int)) (n : Nat) : fxO ms n 0 = [] := by
 have : (List.range n).filter (fun x => dec (FxE ms x ∧ (orbL ms n).getD x 0 < 0)) = [] := by
  rw [List.filter_eq_nil_iff]
  intro y hy hh
  have hy := List.mem_range.1 hy
  have h0 := orbS_done ms n n (Nat.le_refl _) y hy
  have : ¬ (FxE ms y ∧ (orbL ms n).getD y 0 < 0) := fun h => by have := h.2; unfold orbL at this; omega
  rw [j0n this] at hh
  cases hh
 rw [fxO, this]; rfl

def S_members (pg : Pg) : Prop := ∀ (xs : List Int) (v : Int), xs.length ≤ 1048576 → Call pg 316 [ix xs, I v] [ix xs, I v] (.mem .own (some 1) ((pl xs fun x => decide (x = v)).map I))
theorem t_members {pg : Pg} (hp : pg.fn 316 = some j3u) : S_members pg := by
 intro xs v hl
 refine Call.intro hp rfl (by simp) ?_
 show wp _ _ j3u.body (post [.t 4] _ _ _) _
 simp [j3u]
 refine j0a (fun k e => e = fr [(0, some (.val (ix xs))), (1, some (.val (I v))), (5, some (.val (.mem .own (some 1) ((plK xs (fun x => decide (x = v)) k).map I)))), (6, some (.val (I k)))]) xs.length ?_ ?_ 0 _ (by omega) ?_
 · rintro k e hk rfl
   have hs := j6u (P := fun x => decide (x = v)) hk
   have hl2 := plK_len xs (fun x => decide (x = v)) k
   generalize plK xs (fun x => decide (x = v)) k = L at *
   generalize plK xs (fun x => decide (x = v)) (k + 1) = L' at *
   by_cases hv : xs[k] = v
   · simp [hv] at hs
     subst hs
     simp [hk, hv, roomy]
     omega
   · simp [hv] at hs
     subst hs
     simp [hk, hv]
     omega
 · rintro e rfl
   have hpl : pl xs (fun x => decide (x = v)) = plK xs (fun x => decide (x = v)) xs.length := rfl
   rw [hpl]
   simp
 · simp [plK]
def S_fx1 (pg : Pg) : Prop := ∀ (p : List Int) (x : Nat), x < p.length → Call pg 317 [ix p, .mem .old none [I x]] [ix p, .mem .old none [I x]] (B (decide (act p x ≠ x)))
theorem t_fx1 {pg : Pg} (hp : pg.fn 317 = some j1w) : S_fx1 pg := by
 intro p x hx
 refine Call.intro hp rfl (by simp) ?_
 show wp _ _ j1w.body (post [.t 3] _ _ _) _
 have ha : act p x = p[x] := by simp [act, hx]
 simp [j1w, hx, ha]
theorem le_greatest : ∀ (xs : List Int) {x : Int}, x ∈ xs → x + 1 ≤ greatest xs := by
 intro xs x hx
 have key : ∀ (l : List Int) (a : Int), a ≤ l.foldl (fun a x => if a ≤ x then x + 1 else a) a ∧ ∀ y ∈ l, y + 1 ≤ l.foldl (fun a x => if a ≤ x then x + 1 else a) a := by
  intro l
  induction l with
  | nil => intro a; simp
  | cons z l ih =>
   intro a
   simp only [List.foldl_cons]
   obtain ⟨i1, i2⟩ := ih (if a ≤ z then z + 1 else a)
   refine ⟨?_, ?_⟩
   · split at i1 <;> rename_i hh
     · rw [if_pos hh]; omega
     · rw [if_neg hh]; omega
   · intro y hy
     rcases List.mem_cons.1 hy with rfl | hy
     · split at i1 <;> rename_i hh
       · rw [if_pos hh]; omega
       · rw [if_neg hh]; omega
     · exact i2 y hy
 exact (key xs 0).2 x hx
theorem greatest_nn (xs : List Int) (_ : ∀ x ∈ xs, 0 ≤ x) : 0 ≤ greatest xs := by
 have key : ∀ (l : List Int) (a : Int), a ≤ l.foldl (fun a x => if a ≤ x then x + 1 else a) a := by
  intro l
  induction l with
  | nil => intro a; simp
  | cons z l ih =>
   intro a
   simp only [List.foldl_cons]
   refine Int.le_trans ?_ (ih _)
   split <;> omega
 exact key xs 0
theorem greatest_le (xs : List Int) (m : Int) (hm : 0 ≤ m) (h : ∀ x ∈ xs, x < m) : greatest xs ≤ m := by
 have key : ∀ (l : List Int) (a : Int), a ≤ m → (∀ x ∈ l, x < m) → l.foldl (fun a x => if a ≤ x then x + 1 else a) a ≤ m := by
  intro l
  induction l with
  | nil => intro a ha _; simpa using ha
  | cons z l ih =>
   intro a ha hl
   simp only [List.foldl_cons]
   have := hl z (by simp)
   refine ih _ ?_ fun x hx => hl x (by simp [hx])
   split <;> omega
 exact key xs 0 hm h
noncomputable def fxR (f s : List (List Int)) : List Int := fxI (f ++ j1b s) f.length
def S_fixed (pg : Pg) (n : Nat) : Prop := ∀ f s : List (List Int), fits f → fits s → ∃ o, lso o = onReg [] fxR f s ∧ Call pg n [sol f s] [sol f s] (.tup [ownI o, I (onReg 1 (fun _ _ => 0) f s)])
theorem fxI_succ (ms : List (List Int)) (k : Nat) : fxI ms (k + 1) = if dec (FxE ms k) then fxI ms k ++ [(k : Int)] else fxI ms k := by
 rw [fxI, List.range_succ, List.filter_append, List.map_append]
 cases h : dec (FxE ms k) <;> simp [h, fxI]
theorem fxI_len (ms : List (List Int)) (k : Nat) : (fxI ms k).length ≤ k := by
 rw [fxI, List.length_map]
 exact Nat.le_trans (List.length_filter_le _ _) (by simp)
theorem fx_any (ms : List (List Int)) (k : Nat) : (ms.any fun p => decide (act p k ≠ k)) = !dec (FxE ms k) := by
 by_cases h : FxE ms k
 · rw [j0v h]
   simp only [Bool.not_true, List.any_eq_false]
   intro p hp
   simp [h p hp]
 · rw [j0n h]
   simp only [Bool.not_false, List.any_eq_true]
   refine Classical.byContradiction fun hn => h fun p hp => Classical.byContradiction fun hq => hn ⟨p, hp, ?_⟩
   simp [hq]
theorem t_fixed_impl {pg : Pg} (hp : pg.fn 181 = some j1f) (h266 : S_reg pg 266) (h271 : S_whole pg) (h63 : j5h pg) (h317 : S_fx1 pg) : S_fixed pg 181 := by
 intro f s hf hs
 by_cases h : isReg f s
 · have hpm := PM.of h.1.1
   have h12 := hpm.small
   have h0 := hpm.pos
   have hpr := prms_of hpm h.2
   have hcall := h271 f s hpm
   have hfx : fxR f s = fxI (f ++ j1b s) f.length := rfl
   have hml : (f ++ j1b s).length ≤ 1048576 := by
    have := hpm.len
    simp
    omega
   have hcf := fun (k : Nat) (hk : k < f.length) => h63 (f ++ j1b s) (fun p => decide (act p k ≠ k)) 317 [.mem .old none [I k]] hml rfl rfl (fun p hp => h317 p k (by rw [(hpr p hp).1]; exact hk))
   simp only [fx_any] at hcf
   have hsu := fxI_succ (f ++ j1b s)
   have hle := fxI_len (f ++ j1b s)
   have hz : fxI (f ++ j1b s) 0 = [] := rfl
   refine ⟨if fxR f s = [] then none else some (fxR f s), by by_cases hh : fxR f s = [] <;> simp [j5o h, hh], Call.intro hp rfl (by simp) ?_⟩
   show wp _ _ j1f.body (post [.t 2, .t 3] _ _ _) _
   simp [j1f]
   refine j0e (h266 f s hf hs) rfl rfl (fun _ => rfl) ?_
   simp [j0v h, j5o h]
   rw [hfx]
   generalize f ++ j1b s = ms at *
   refine j0a (fun k e => e = fr [(1, some (.val (.mem .own none [tb f, tb s]))), (4, some (.val (ownN (fxI ms k)))), (11, some (.val (I f.length))), (12, some (.val (I k)))]) f.length ?_ ?_ 0 _ (by omega) ?_
   · rintro k e hk rfl
     have hlk := hle k
     simp [hk]
     refine j0e hcall rfl rfl (fun hh => by simp at hh) ?_
     simp
     refine j0e (hcf k hk) rfl rfl (fun _ => rfl) ?_
     by_cases hd : FxE ms k
     · have hs := hsu k
       rw [j0v hd] at hs
       have hs : fxI ms (k + 1) = fxI ms k ++ [(k : Int)] := hs
       rw [hs]
       have hne : fxI ms k ++ [(k : Int)] ≠ [] := by simp
       rw [j5r hne]
       generalize fxI ms k = A at *
       by_cases hA : A = []
       · subst hA
         simp [j0v hd, ownN, roomy]
         omega
       · simp [j0v hd, j5r hA, roomy]
         omega
     · have hs := hsu k
       rw [j0n hd] at hs
       have hs : fxI ms (k + 1) = fxI ms k := hs
       rw [hs]
       generalize fxI ms k = A at *
       by_cases hA : A = []
       · subst hA
         simp [j0n hd, ownN]
         omega
       · simp [j0n hd, j5r hA]
         omega
   · rintro e rfl
     generalize fxI ms f.length = A at *
     by_cases hA : A = []
     · subst hA
       simp [ownN, ownI]
     · simp [j5r hA, ownI, hA]
   · simp [hz, ownN]
 · refine ⟨none, by simp [j5m h], Call.intro hp rfl (by simp) ?_⟩
   show wp _ _ j1f.body (post [.t 2, .t 3] _ _ _) _
   simp [j1f]
   refine j0e (h266 f s hf hs) rfl rfl (fun _ => rfl) ?_
   simp [j0n h, j5m h, ownI]
end Go.Mch
namespace Go.Mch

def cloP (f s : List (List Int)) (xs : List Int) (i j : Nat) : Prop := g2 f (xs.getD i 0) (xs.getD j 0) ∈ xs ∧ g2 s (xs.getD i 0) (xs.getD j 0) ∈ xs
def clo (f s : List (List Int)) (xs : List Int) : Prop := ∀ i j : Nat, i < xs.length → j < xs.length → cloP f s xs i j
theorem g2_at {f : List (List Int)} {a b : Int} (h1 : a.toNat < f.length) (h2 : b.toNat < (f[a.toNat]).length) : (f[a.toNat])[b.toNat] = g2 f a b := j3t h1 h2
def S_closed (pg : Pg) (n : Nat) : Prop := ∀ (f s : List (List Int)) (xs : List Int), PM f s → inN f.length xs → xs.length ≤ 1048576 → Call pg n [sol f s, ix xs] [sol f s, ix xs] (B (dec (clo f s xs)))
def S_hasI (pg : Pg) : Prop := ∀ (xs : List Int) (n : Int), xs.length ≤ 1048576 → Call pg 405 [ix xs, I n] [ix xs, I n] (B (decide (n ∈ xs)))
theorem t_contains {pg : Pg} (hp : pg.fn 405 = some j00) (h384 : j7b pg 384) : S_hasI pg := by
 intro xs v hl
 have hm := ixOf_mem xs v
 refine Call.intro hp rfl (by simp) ?_
 show wp _ _ j00.body (post [.t 4] _ _ _) _
 simp [j00]
 refine j0e (h384 xs v hl) rfl rfl (fun _ => rfl) ?_
 simp [hm]
set_option maxRecDepth 10000 in
theorem t_isClosed {pg : Pg} (hp : pg.fn 333 = some j4s) (h405 : S_hasI pg) : S_closed pg 333 := by
 intro f s xs h hin hl
 have h12 := h.small
 have hls := h.len
 refine Call.intro hp rfl (by simp) ?_
 show wp _ _ j4s.body (post [.t 4] _ _ _) _
 simp [j4s]
 refine j0a (fun i e => (∀ a b : Nat, a < i → b < xs.length → cloP f s xs a b) ∧ e = fr [(1, some (.val (ix xs))), (2, some (.val (.mem .own none [tb f, tb s]))), (9, some (.val (ix xs))), (10, some (.val (I xs.length))), (11, some (.val (I i)))]) xs.length ?_ ?_ 0 _ (by omega) ⟨fun a b h => by omega, by simp⟩
 · rintro i e hi ⟨g1, rfl⟩
   simp [hi]
   refine j0a (fun j e => (∀ b : Nat, b < j → cloP f s xs i b) ∧ e = fr [(1, some (.val (ix xs))), (2, some (.val (.mem .own none [tb f, tb s]))), (6, some (.val (I xs[i]))), (9, some (.val (ix xs))), (10, some (.val (I xs.length))), (11, some (.val (I i))), (15, some (.val (ix xs))), (16, some (.val (I xs.length))), (17, some (.val (I j)))]) xs.length ?_ ?_ 0 _ (by omega) ⟨fun b h => by omega, by simp⟩
   · rintro j e hj ⟨g2', rfl⟩
     have ea : xs.getD i 0 = xs[i] := by simp [hi]
     have eb : xs.getD j 0 = xs[j] := by simp [hj]
     have ra := hin _ (List.getElem_mem hi)
     have rb := hin _ (List.getElem_mem hj)
     have hcl : ∀ hh : ¬ (g2 f xs[i] xs[j] ∈ xs ∧ g2 s xs[i] xs[j] ∈ xs), ¬ clo f s xs := fun hh hc => by
      have := hc i j hi hj
      rw [cloP, ea, eb] at this
      exact hh this
     have hst : g2 f xs[i] xs[j] ∈ xs ∧ g2 s xs[i] xs[j] ∈ xs → ∀ b : Nat, b < j + 1 → cloP f s xs i b := fun hh b hb => by
      by_cases hbj : b = j
      · subst hbj; rw [cloP, ea, eb]; exact hh
      · exact g2' b (by omega)
     generalize hA : xs[i] = a at *
     generalize hB : xs[j] = b at *
     have la : a.toNat < f.length := by omega
     have la2 : a.toNat < s.length := by omega
     have lb : b.toNat < (f[a.toNat]).length := by rw [h.tf.row la]; omega
     have lb2 : b.toNat < (s[a.toNat]).length := by rw [h.ts.row la2]; omega
     have ia : a < f.length := by omega
     have ia2 : a < s.length := by omega
     have ib : b < (f[a.toNat]).length := by omega
     have ib2 : b < (s[a.toNat]).length := by omega
     have eF := g2_at la lb
     have eS := g2_at la2 lb2
     have c1 := h405 xs (g2 f a b) hl
     have c2 := h405 xs (g2 s a b) hl
     simp [hj, hB, ra, rb, la, lb, ib, eF]
     refine j0e c1 rfl rfl (fun _ => rfl) ?_
     by_cases m1 : g2 f a b ∈ xs
     · simp [m1, la2, lb2, ia2, ib2, ra, rb, eS]
       refine j0e c2 rfl rfl (fun _ => rfl) ?_
       by_cases m2 : g2 s a b ∈ xs
       · have := hst ⟨m1, m2⟩
         simp [m2]
         refine ⟨by omega, this⟩
       · have := hcl fun hh => m2 hh.2
         simp [m2, j0n this]
     · have := hcl fun hh => m1 hh.1
       simp [m1, j0n this, j03]
   · rintro e ⟨g2', rfl⟩
     simp
     refine ⟨by omega, fun a b ha hb => ?_⟩
     by_cases hai : a = i
     · subst hai; exact g2' b hb
     · exact g1 a b (by omega) hb
 · rintro e ⟨g1, rfl⟩
   have : clo f s xs := fun i j hi hj => g1 i j hi hj
   simp [j0v this]
end Go.Mch
namespace Go.Mch

def zeroT (m k : Nat) : List (List Int) := List.replicate k (List.replicate m 0)
def zT (m k : Nat) : T := if k = 0 then nil else .mem .own (some 1) (rows (zeroT m k))
theorem zT_succ (m k : Nat) : zT m (k + 1) = .mem .own (some 1) (rows (zeroT m k) ++ [.mem .own (some 1) (List.replicate m (I 0))]) := by
 simp [zT, zeroT, List.replicate_succ', j66]
 simp [rows]
def S_empty (pg : Pg) : Prop := ∀ m : Nat, 0 < m → m ≤ 1000 → Call pg 398 [I m] [I m] (.agg [.mem .own (some 1) (rows (zeroT m m)), .mem .own (some 1) (rows (zeroT m m))])
theorem t_l02Empty {pg : Pg} (hp : pg.fn 398 = some j4n) : S_empty pg := by
 intro m h0 hm
 refine Call.intro hp rfl (by simp) ?_
 show wp _ _ j4n.body (post [.cell 2 (some 2)] _ _ _) _
 simp [j4n]
 refine j0a (fun k e => e = fr [(0, some (.val (I m))), (2, some (.val (.mem .own none [nil, nil]))), (3, some (.val (.mem .own none [zT m k, zT m k]))), (4, some (.val (I k)))]) m ?_ ?_ 0 _ (by omega) ?_
 · rintro k e hk rfl
   have hr : m ≤ roomy := by unfold roomy; omega
   by_cases hk0 : k = 0
   · subst hk0
     have h1 : 1 ≤ roomy := by unfold roomy; omega
     rw [zT_succ]
     simp [hk, zT, zeroT, rows, hr, h1]
   · have hlen : (zeroT m k).length = k := by simp [zeroT]
     have h1 : k + 1 ≤ roomy := by unfold roomy; omega
     rw [zT_succ]
     have hz : zT m k = .mem .own (some 1) (rows (zeroT m k)) := by simp [zT, hk0]
     rw [hz]
     generalize zeroT m k = Z at *
     simp [hk, hr, hlen, h1]
     omega
 · rintro e rfl
   have hz : zT m m = .mem .own (some 1) (rows (zeroT m m)) := by simp [zT]; omega
   rw [hz]
   simp
 · simp [zT]

end Go.Mch
namespace Go.Mch

theorem rows_set2 {X : List (List Int)} {i j : Nat} {v : Int} (h : i < X.length) : (rows X).set i (.mem .own (some 1) ((X[i].map I).set j (I v))) = rows (X.set i (X[i].set j v)) := by
 simp [rows, List.map_set]
end Go.Mch
namespace Go.Mch

def subG (f : List (List Int)) (xs : List Int) (i j : Nat) : Int := ixOf xs (g2 f (xs.getD i 0) (xs.getD j 0))
def subT (f : List (List Int)) (xs : List Int) : List (List Int) := tabL xs.length (subG f xs)
def j7f (f : List (List Int)) (xs : List Int) (i k : Nat) : List Int := (List.range k).map fun j => subG f xs i j
theorem j6t (f : List (List Int)) (xs : List Int) (i k : Nat) : (j7f f xs i k).length = k := by simp [j7f]
theorem subRow_succ (f : List (List Int)) (xs : List Int) (i k : Nat) : j7f f xs i (k + 1) = j7f f xs i k ++ [subG f xs i k] := by simp [j7f, List.range_succ]
theorem subT_take (f : List (List Int)) (xs : List Int) {i : Nat} (hi : i < xs.length) : (subT f xs).take (i + 1) = (subT f xs).take i ++ [j7f f xs i xs.length] := by
 have : i < (subT f xs).length := by simpa [subT] using hi
 rw [List.take_succ_eq_append_getElem this]
 simp [subT, tabL, j7f]
theorem subT_ne {f : List (List Int)} {xs : List Int} (h : 0 < xs.length) : subT f xs ≠ [] := fun hh => by
 have : (subT f xs).length = 0 := by rw [hh]; rfl
 rw [subT, tabL_length] at this
 omega
def rowN (X : List (List Int)) : T := if X = [] then nil else .mem .own (some 1) (rows X)
theorem rowN_ne {X : List (List Int)} (h : X ≠ []) : rowN X = .mem .own (some 1) (rows X) := by simp [rowN, h]
theorem rowN_snoc (X : List (List Int)) (r : List Int) : rowN (X ++ [r]) = .mem .own (some 1) (rows X ++ [.mem .own (some 1) (r.map I)]) := by
 rw [rowN_ne (by simp)]; simp [rows]
def S_sub (pg : Pg) : Prop := ∀ (f s : List (List Int)) (xs : List Int), PM f s → inN f.length xs → 0 < xs.length → xs.length ≤ 1000 → Call pg 332 [sol f s, ix xs] [sol f s, ix xs] (.agg [.mem .own (some 1) (rows (subT f xs)), .mem .own (some 1) (rows (subT s xs))])
set_option maxRecDepth 10000 in
theorem t_l02Sub {pg : Pg} (hp : pg.fn 332 = some j5x) (h69 : S_index pg) : S_sub pg := by
 intro f s xs h hin h0 hl
 have h12 := h.small
 have hls := h.len
 refine Call.intro hp rfl (by simp) ?_
 show wp _ _ j5x.body (post [.cell 4 (some 2)] _ _ _) _
 simp [j5x]
 refine j0a (fun i e => e = fr [(1, some (.val (ix xs))), (2, some (.val (.mem .own none [tb f, tb s]))), (4, some (.val (.mem .own none [nil, nil]))), (5, some (.val (.mem .own none [rowN ((subT f xs).take i), rowN ((subT s xs).take i)]))), (6, some (.val (I i)))]) xs.length ?_ ?_ 0 _ (by omega) ?_
 · rintro i e hi rfl
   have hF := subT_take f xs hi
   have hS := subT_take s xs hi
   have hFl : ((subT f xs).take i).length ≤ i := by simp; omega
   have hSl : ((subT s xs).take i).length ≤ i := by simp; omega
   rw [hF, hS, rowN_snoc, rowN_snoc]
   generalize (subT f xs).take i = X at *
   generalize (subT s xs).take i = Y at *
   clear hF hS
   simp [hi]
   refine j0a (fun j e => e = fr [(1, some (.val (ix xs))), (2, some (.val (.mem .own none [tb f, tb s]))), (4, some (.val (.mem .own none [nil, nil]))), (5, some (.val (.mem .own none [rowN X, rowN Y]))), (6, some (.val (I i))), (7, some (.val (.mem .own (some 1) ((j7f f xs i j).map I)))), (8, some (.val (.mem .own (some 1) ((j7f s xs i j).map I)))), (9, some (.val (I j)))]) xs.length ?_ ?_ 0 _ (by omega) ?_
   · rintro j e hj rfl
     have ea : xs.getD i 0 = xs[i] := by simp [hi]
     have eb : xs.getD j 0 = xs[j] := by simp [hj]
     have ra := hin _ (List.getElem_mem hi)
     have rb := hin _ (List.getElem_mem hj)
     have hGf : subG f xs i j = ixOf xs (g2 f xs[i] xs[j]) := by rw [subG, ea, eb]
     have hGs : subG s xs i j = ixOf xs (g2 s xs[i] xs[j]) := by rw [subG, ea, eb]
     have hf2 := subRow_succ f xs i j
     have hs2 := subRow_succ s xs i j
     have hfl := j6t f xs i j
     have hsl := j6t s xs i j
     rw [hf2, hs2, hGf, hGs]
     generalize j7f f xs i j = P at *
     generalize j7f s xs i j = Q at *
     clear hf2 hs2 hGf hGs
     generalize hA : xs[i] = a at *
     generalize hB : xs[j] = b at *
     have la : a.toNat < f.length := by omega
     have la2 : a.toNat < s.length := by omega
     have lb : b.toNat < (f[a.toNat]).length := by rw [h.tf.row la]; omega
     have lb2 : b.toNat < (s[a.toNat]).length := by rw [h.ts.row la2]; omega
     have ia : a < f.length := by omega
     have ia2 : a < s.length := by omega
     have ib : b < (f[a.toNat]).length := by omega
     have ib2 : b < (s[a.toNat]).length := by omega
     have eF := g2_at la lb
     have eS := g2_at la2 lb2
     have c1 := h69 xs (g2 f a b) (by omega)
     have c2 := h69 xs (g2 s a b) (by omega)
     simp [hi, hj, hA, hB, ra, rb, la, lb, ib, eF]
     refine j0e c1 rfl rfl (fun _ => rfl) ?_
     simp [hi, hj, hA, hB, ra, rb, la2, lb2, ia2, ib2, eS, hfl, roomy]
     refine ⟨by omega, ?_⟩
     refine j0e c2 rfl rfl (fun _ => rfl) ?_
     simp [hsl, roomy]
     omega
   · rintro e rfl
     have hPl := j6t f xs i xs.length
     have hQl := j6t s xs i xs.length
     generalize j7f f xs i xs.length = P at *
     generalize j7f s xs i xs.length = Q at *
     by_cases hX : X = []
     · by_cases hY : Y = []
       · subst hX hY
         simp [rowN, roomy, rows]
         omega
       · subst hX
         simp [rowN, hY, roomy, rows]
         omega
     · by_cases hY : Y = []
       · subst hY
         simp [rowN, hX, roomy, rows]
         omega
       · simp [rowN, hX, hY, roomy]
         omega
   · simp [j7f]
 · rintro e rfl
   have hF : (subT f xs).take xs.length = subT f xs := List.take_of_length_le (by simp [subT])
   have hS : (subT s xs).take xs.length = subT s xs := List.take_of_length_le (by simp [subT])
   have hFn := subT_ne (f := f) h0
   have hSn := subT_ne (f := s) h0
   rw [hF, hS, rowN_ne hFn, rowN_ne hSn]
   simp
 · simp [rowN]


def ascAt (xs : List Int) (k : Nat) : Prop := xs.getD k 0 < xs.getD (k + 1) 0
def asc (xs : List Int) : Prop := ∀ k : Nat, k + 1 < xs.length → ascAt xs k
def S_incr (pg : Pg) : Prop := ∀ xs : List Int, xs.length ≤ 1048576 → Call pg 403 [ix xs] [ix xs] (B (dec (asc xs)))
theorem t_increasing {pg : Pg} (hp : pg.fn 403 = some j3z) : S_incr pg := by
 intro xs hl
 refine Call.intro hp rfl (by simp) ?_
 show wp _ _ j3z.body (post [.t 2] _ _ _) _
 simp [j3z]
 refine j6d (α := Nat) (fun k => xs.length - k) (fun k e => (∀ i : Nat, i < k → i + 1 < xs.length → ascAt xs i) ∧ e = fr [(0, some (.val (ix xs))), (3, some (.val (I (k + 1 : Nat))))]) ?_ 0 _ ⟨fun i h => by omega, by simp⟩
 rintro k e ⟨g, rfl⟩
 by_cases hk : k + 1 < xs.length
 · have hk0 : k < xs.length := by omega
   have ea : xs.getD k 0 = xs[k] := by simp [hk0]
   have eb : xs.getD (k + 1) 0 = xs[k + 1] := by simp [hk]
   have hk' : (k : Int) + 1 < xs.length := by omega
   by_cases hc : xs[k] < xs[k + 1]
   · have hc2 : ¬ xs[k] ≥ xs[k + 1] := by omega
     have hn : ∀ i : Nat, i < k + 1 → i + 1 < xs.length → ascAt xs i := fun i hi h2 => by
      by_cases hik : i = k
      · subst hik; rw [ascAt, ea, eb]; exact hc
      · exact g i (by omega) h2
     clear g
     simp [hk', hk, hk0, hc2]
     exact ⟨by omega, by omega, by omega, k + 1, by omega, hn, by simp⟩
   · have hno : ¬ asc xs := fun ha => by
      have := ha k hk
      rw [ascAt, ea, eb] at this
      exact hc this
     have hc2 : xs[k + 1] ≤ xs[k] := by omega
     clear g
     simp [hk', hk, hk0, hc2, j0n hno]
     omega
 · have hyes : asc xs := fun i hi => g i (by omega) hi
   have hk' : ¬ (k : Int) + 1 < xs.length := by omega
   clear g
   simp [hk', j0v hyes]
def isSetL (n : Int) (xs : List Int) : Prop := 0 < xs.length ∧ inR 0 (n - 1) xs ∧ asc xs
def S_isSet (pg : Pg) : Prop := ∀ (n : Int) (xs : List Int), xs.length ≤ 1048576 → 0 ≤ n → n ≤ 1048576 → Call pg 357 [I n, ix xs] [I n, ix xs] (B (dec (isSetL n xs)))
theorem t_isSet {pg : Pg} (hp : pg.fn 357 = some j6j) (h39 : S_areElements pg) (h403 : S_incr pg) : S_isSet pg := by
 intro n xs hl hn1 hn2
 refine Call.intro hp rfl (by simp) ?_
 show wp _ _ j6j.body (post [.t 4] _ _ _) _
 simp [j6j]
 by_cases h0 : 0 < xs.length
 · simp [h0]
   refine j0e (h39 n xs hl hn1 hn2) rfl rfl (fun _ => rfl) ?_
   by_cases h1 : inR 0 (n - 1) xs
   · simp [h1]
     refine j0e (h403 xs hl) rfl rfl (fun _ => rfl) ?_
     by_cases h2 : asc xs
     · simp [j0v h2, j0v (show isSetL n xs from ⟨h0, h1, h2⟩)]
     · simp [j0n h2, j0n (fun hh : isSetL n xs => h2 hh.2.2)]
   · simp [h1, j0n (fun hh : isSetL n xs => h1 hh.2.1), j03]
 · simp [h0, j0n (fun hh : isSetL n xs => h0 hh.1), j03]
def S_sub1 (pg : Pg) : Prop := ∀ (f s : List (List Int)) (xs : List Int) (x y : Nat), PM f s → inN f.length xs → xs.length ≤ 1048576 → x < xs.length → y < xs.length → Call pg 358 [I x, I y, .mem .old none [ix xs], .mem .old none [tb f, tb s]] [I x, I y, .mem .old none [ix xs], .mem .old none [tb f, tb s]] (.tup [I (subG f xs x y), I (subG s xs x y)])
set_option maxRecDepth 10000 in
theorem t_sub1 {pg : Pg} (hp : pg.fn 358 = some j2r) (h287 : j7b pg 287) : S_sub1 pg := by
 intro f s xs x y h hin hl hx hy
 have hls := h.len
 have ea : xs.getD x 0 = xs[x] := by simp [hx]
 have eb : xs.getD y 0 = xs[y] := by simp [hy]
 have ra := hin _ (List.getElem_mem hx)
 have rb := hin _ (List.getElem_mem hy)
 have hGf : subG f xs x y = ixOf xs (g2 f xs[x] xs[y]) := by rw [subG, ea, eb]
 have hGs : subG s xs x y = ixOf xs (g2 s xs[x] xs[y]) := by rw [subG, ea, eb]
 rw [hGf, hGs]
 refine Call.intro hp rfl (by simp) ?_
 show wp _ _ j2r.body (post [.t 6, .t 7] _ _ _) _
 generalize hA : xs[x] = a at *
 generalize hB : xs[y] = b at *
 have la : a.toNat < f.length := by omega
 have la2 : a.toNat < s.length := by omega
 have lb : b.toNat < (f[a.toNat]).length := by rw [h.tf.row la]; omega
 have lb2 : b.toNat < (s[a.toNat]).length := by rw [h.ts.row la2]; omega
 have ia : a < f.length := by omega
 have ia2 : a < s.length := by omega
 have ib : b < (f[a.toNat]).length := by omega
 have ib2 : b < (s[a.toNat]).length := by omega
 have eF := g2_at la lb
 have eS := g2_at la2 lb2
 have c1 := h287 xs (g2 f a b) hl
 have c2 := h287 xs (g2 s a b) hl
 simp [j2r, hx, hy, hA, hB, ra, rb, la, lb, ib, eF]
 refine j0e c1 rfl rfl (fun _ => rfl) ?_
 simp [hx, hy, hA, hB, ra, rb, la2, lb2, ia2, ib2, eS]
 refine j0e c2 rfl rfl (fun _ => rfl) ?_
 simp
def S_subI (pg : Pg) : Prop := ∀ (f s : List (List Int)) (xs : List Int), j2z f s → isSetL f.length xs → clo f s xs → xs.length ≤ 1000 → Call pg 239 [sol f s, ix xs] [sol f s, ix xs] (.tup [.agg [.mem .own (some 1) (rows (subT f xs)), .mem .own (some 1) (rows (subT s xs))], I 0])
set_option maxRecDepth 10000 in
theorem t_SubSolution {pg : Pg} (hp : pg.fn 239 = some j3n) (h59 : j6m pg 59) (h357 : S_isSet pg) (h333 : S_closed pg 333) (h308 : S_solBy pg) (h358 : S_sub1 pg) : S_subI pg := by
 intro f s xs hpm hset hclo hl
 have h := PM.of hpm
 have h12 := h.small
 have hin : inN f.length xs := fun v hv => by have := hset.2.1 v hv; omega
 have hfs : fits s := ⟨by have := h.len; omega, fun r hr => by have := (h.ts r hr).1; have := h.len; omega⟩
 have hb := h308 xs.length (subG f xs) (subG s xs) 358 [.mem .old none [ix xs], .mem .old none [tb f, tb s]] (by omega) (by simp) (by simp) fun x y hx hy => h358 f s xs x y h hin (by omega) hx hy
 refine Call.intro hp rfl (by simp) ?_
 show wp _ _ j3n.body (post [.cell 4 (some 2), .t 5] _ _ _) _
 simp [j3n]
 refine j0e (h59 f s h.fitsF hfs) rfl rfl (fun _ => rfl) ?_
 simp [hpm]
 refine j0e (h357 f.length xs (by omega) (by omega) (by omega)) rfl rfl (fun _ => rfl) ?_
 simp [j0v hset]
 refine j0e (h333 f s xs h hin (by omega)) rfl rfl (fun _ => rfl) ?_
 simp [j0v hclo]
 refine j0e hb rfl rfl (fun _ => by simp) ?_
 simp [subT]
end Go.Mch
namespace Go.Mch

def invQ (p : List Int) (x : Nat) : Nat := (ixOf p x).toNat
structure Pm (p : List Int) : Prop where
 pm : j1z p
 pos : 0 < p.length
 sm : p.length ≤ 12
theorem Pm.mem {p : List Int} (h : Pm p) {x : Nat} (hx : x < p.length) : (x : Int) ∈ p :=
 ((perm_permuted (by have := h.pos; omega) h.sm h.pm.1).2 h.pm).2.2 x hx
theorem Pm.lt {p : List Int} (h : Pm p) {x : Nat} (hx : x < p.length) : invQ p x < p.length := by
 have h1 := ixOf_le p x
 have h2 := (ixOf_mem p x).2 (h.mem hx)
 unfold invQ
 omega
theorem ixOf_getD : ∀ (xs : List Int) (v : Int), 0 ≤ ixOf xs v → xs.getD (ixOf xs v).toNat 0 = v := by
 intro xs v
 induction xs with
 | nil => intro h; simp [ixOf] at h
 | cons z xs ih =>
  intro h
  unfold ixOf at h ⊢
  by_cases hz : z = v
  · simp [hz]
  · rw [if_neg hz] at h ⊢
    by_cases hn : ixOf xs v < 0
    · rw [if_pos hn] at h; omega
    · rw [if_neg hn]
      have := ih (by omega)
      rw [show (ixOf xs v + 1).toNat = (ixOf xs v).toNat + 1 by omega]
      simpa using this
theorem Pm.at {p : List Int} (h : Pm p) {x : Nat} (hx : x < p.length) : p.getD (invQ p x) 0 = x :=
 ixOf_getD p x ((ixOf_mem p x).2 (h.mem hx))
theorem Pm.back {p : List Int} (h : Pm p) {i : Nat} (hi : i < p.length) : invQ p (p[i]).toNat = i := by
 have hr := h.pm.1 _ (List.getElem_mem hi)
 have e : (((p[i]).toNat : Nat) : Int) = p[i] := by omega
 unfold invQ
 rw [e, ixOf_at hi (fun j hj he => ?_) rfl]
 · simp
 · have := (List.getElem_inj h.pm.2).1 he
   omega
def invL (p : List Int) : List Int := (List.range p.length).map fun x => (invQ p x : Int)
@[simp] theorem invL_length (p : List Int) : (invL p).length = p.length := by simp [invL]
def invK (p : List Int) (k : Nat) : List Int := (List.range p.length).map fun x => if invQ p x < k then (invQ p x : Int) else 0
@[simp] theorem invK_length (p : List Int) (k : Nat) : (invK p k).length = p.length := by simp [invK]
theorem invK_zero (p : List Int) : invK p 0 = List.replicate p.length 0 := by
 apply List.ext_getElem
 · simp
 · intro i h1 h2; simp [invK]
theorem invK_last {p : List Int} (h : Pm p) : invK p p.length = invL p := by
 refine List.map_congr_left fun x hx => ?_
 rw [if_pos (h.lt (List.mem_range.1 hx))]
theorem invK_set {p : List Int} (h : Pm p) {k : Nat} (hk : k < p.length) : (invK p k).set (p[k]).toNat k = invK p (k + 1) := by
 have hr := h.pm.1 _ (List.getElem_mem hk)
 apply List.ext_getElem
 · simp
 · intro x h1 h2
   have hx : x < p.length := by simpa using h2
   simp only [List.getElem_set, invK, List.getElem_map, List.getElem_range]
   by_cases hxk : (p[k]).toNat = x
   · subst hxk
     rw [if_pos rfl, h.back hk, if_pos (by omega)]
   · rw [if_neg hxk]
     have hne : invQ p x ≠ k := fun he => by
      have := h.at hx
      rw [he] at this
      simp [hk] at this
      omega
     by_cases hlt : invQ p x < k
     · rw [if_pos hlt, if_pos (by omega)]
     · rw [if_neg hlt, if_neg (by omega)]
def S_inv (pg : Pg) (n : Nat) : Prop := ∀ p : List Int, Pm p → Call pg n [ix p] [ix p] (.mem .own (some 1) ((invL p).map I))
theorem t_l01Back {pg : Pg} (hp : pg.fn 304 = some j5c) : S_inv pg 304 := by
 intro p h
 have h12 := h.sm
 refine Call.intro hp rfl (by simp) ?_
 show wp _ _ j5c.body (post [.t 2] _ _ _) _
 simp [j5c]
 refine ⟨by unfold roomy; omega, ?_⟩
 refine j0a (fun k e => e = fr [(0, some (.val (ix p))), (3, some (.val (.mem .own (some 1) ((invK p k).map I)))), (4, some (.val (I k)))]) p.length ?_ ?_ 0 _ (by omega) ?_
 · rintro k e hk rfl
   have hr := h.pm.1 _ (List.getElem_mem hk)
   have hl := invK_length p k
   have hs := invK_set h hk
   have ht : (p[k]).toNat < p.length := by omega
   rw [← hs]
   generalize invK p k = K at *
   simp [hk, hr, ht, hl]
   omega
 · rintro e rfl
   simp [invK_last h]
 · simp [invK_zero]

def imG (t : List (List Int)) (p : List Int) (x y : Nat) : Int := p.getD (v2 t (invQ p x) (invQ p y)).toNat 0
def imT (t : List (List Int)) (p : List Int) : List (List Int) := tabL t.length (imG t p)
def S_image (pg : Pg) (n : Nat) : Prop := ∀ (t : List (List Int)) (p : List Int), Tab t → Pm p → p.length = t.length → Call pg n [tb t, ix p] [tb t, ix p] (.mem .own (some 1) (rows (imT t p)))
end Go.Mch
namespace Go.Mch

def S_unit (pg : Pg) : Prop := ∀ n : Nat, n ≤ 1048576 → Call pg 334 [I n] [I n] (.mem .own (some 1) ((idL n).map I))
theorem t_unit {pg : Pg} (hp : pg.fn 334 = some j45) : S_unit pg := by
 intro n hn
 refine Call.intro hp rfl (by simp) ?_
 show wp _ _ j45.body (post [.t 2] _ _ _) _
 simp [j45]
 refine j0a (fun k e => e = fr [(0, some (.val (I n))), (3, some (.val (.mem .own (some 1) ((idL k).map I)))), (4, some (.val (I k)))]) n ?_ ?_ 0 _ (by omega) ?_
 · rintro k e hk rfl
   simp [hk, roomy, idL_succ]
   omega
 · rintro e rfl
   simp
 · simp [idL]

end Go.Mch
namespace Go.Mch

def boxT : Option T → Bool
 | some (.mem _ none _) => true
 | _ => false
@[simp] theorem boxT_mem (k : K) (ts : List T) : boxT (some (.mem k none ts)) = true := rfl
@[simp] theorem whole_pref {e : Env} (r : Nat) (p : List Nat) (off : Nat) : e.whole (.pref r p off) = (off == 0 && boxT (e.tree r p)) := by
 unfold Env.whole boxT
 rfl
@[simp] theorem hole_pref {e : Env} (r : Nat) (p : List Nat) (off : Nat) : e.hole (.pref r p off) = e.isHole r p := rfl
@[simp] theorem give_pref {e : Env} (r : Nat) (p : List Nat) (off : Nat) (t : T) : e.give (.pref r p off) t = e.back1 r p t := by cases t <;> rfl
end Go.Mch
namespace Go.Mch

structure PV (X Y : List (List Int)) (a b i j : Nat) : Prop where
 pi : PI X Y a b
 l : ∀ k, a < k → k < i → bef (gt Y k) (gt Y a)
 r : ∀ k, j < k → k < b → ¬ bef (gt Y k) (gt Y a)
 h1 : a < i
 h2 : i ≤ j + 1
 h3 : j < b
def PtQ (X Y : List (List Int)) (a b m : Nat) : Prop := PI X Y a b ∧ a ≤ m ∧ m < b ∧ (∀ k, a ≤ k → k < m → bef (gt Y k) (gt Y m)) ∧ ∀ k, m < k → k < b → bef (gt Y m) (gt Y k)
section
variable {X Y : List (List Int)} {a b i j : Nat}
theorem PV.len (h : PV X Y a b i j) : Y.length = X.length := h.pi.len
theorem PV.left (h : PV X Y a b i j) (hij : i ≤ j) (hb : bef (gt Y i) (gt Y a)) : PV X Y a b (i + 1) j :=
 ⟨h.pi, fun k h1 h2 => by
  by_cases hk : k = i
  · subst hk; exact hb
  · exact h.l k h1 (by omega), h.r, by have := h.h1; omega, by omega, h.h3⟩
theorem PV.right (h : PV X Y a b i j) (hij : i ≤ j) (hb : ¬ bef (gt Y j) (gt Y a)) : PV X Y a b i (j - 1) :=
 ⟨h.pi, h.l, fun k h1 h2 => by
  by_cases hk : k = j
  · subst hk; exact hb
  · exact h.r k (by omega) h2, h.h1, by have := h.h1; omega, by have := h.h3; omega⟩
theorem PV.swap (h : PV X Y a b i j) (hij : i < j) (hj : bef (gt Y j) (gt Y a)) (hi : ¬ bef (gt Y i) (gt Y a)) (hb : b ≤ X.length) : PV X (swL Y i j) a b (i + 1) (j - 1) := by
 have hl := h.len
 have h1 := h.h1
 have h3 := h.h3
 have hg := gt_swL (X := Y) (i := i) (j := j) (by omega) (by omega)
 have ha : tau i j a = a := by unfold tau; rw [if_neg (by omega), if_neg (by omega)]
 refine ⟨h.pi.swap hb (by omega) (by omega), fun k k1 k2 => ?_, fun k k1 k2 => ?_, by omega, by omega, by omega⟩
 · rw [hg, hg, ha]
   by_cases hk : k = i
   · subst hk
     have : tau k j k = j := by unfold tau; rw [if_neg (by omega), if_pos rfl]
     rw [this]; exact hj
   · have : tau i j k = k := by unfold tau; rw [if_neg (by omega), if_neg hk]
     rw [this]; exact h.l k k1 (by omega)
 · rw [hg, hg, ha]
   by_cases hk : k = j
   · subst hk
     have : tau i k k = i := by unfold tau; rw [if_pos rfl]
     rw [this]; exact hi
   · have : tau i j k = k := by unfold tau; rw [if_neg hk, if_neg (by omega)]
     rw [this]; exact h.r k (by omega) k2
theorem PV.fin (h : PV X Y a b i j) (hji : j < i) (hb : b ≤ X.length) : PtQ X (swL Y j a) a b j := by
 have hl := h.len
 have h1 := h.h1
 have h2 := h.h2
 have h3 := h.h3
 have hg := gt_swL (X := Y) (i := j) (j := a) (by omega) (by omega)
 have hj : tau j a j = a := by
  unfold tau
  by_cases he : j = a
  · rw [if_pos he, he]
  · rw [if_neg he, if_pos rfl]
 refine ⟨h.pi.swap hb (by omega) (by omega), by omega, h3, fun k k1 k2 => ?_, fun k k1 k2 => ?_⟩
 · rw [hg, hg, hj]
   by_cases hk : k = a
   · have : tau j a k = j := by unfold tau; rw [if_pos hk]
     rw [this]; exact h.l j (by omega) hji
   · have : tau j a k = k := by unfold tau; rw [if_neg hk, if_neg (by omega)]
     rw [this]; exact h.l k (by omega) (by omega)
 · rw [hg, hg, hj]
   have : tau j a k = k := by unfold tau; rw [if_neg (by omega), if_neg (by omega)]
   rw [this]
   exact h.pi.dj.or (by omega) (by omega) (by omega) (h.r k k1 k2)
end
end Go.Mch
namespace Go.Mch

def Lb (X : List (List Int)) (a b : Nat) : Prop := a = 0 ∨ ∀ k, a ≤ k → k < b → bef (gt X (a - 1)) (gt X k)
theorem Lb.pi {X Y : List (List Int)} {a b : Nat} (h : Lb X a b) (g : PI X Y a b) : Lb Y a b := by
 rcases h with h | h
 · exact .inl h
 · by_cases h0 : a = 0
   · exact .inl h0
   · refine .inr fun k h1 h2 => ?_
     obtain ⟨k', p1, p2, p3⟩ := g.fwd k h1 h2
     rw [g.out (a - 1) (by omega), p3]
     exact h k' p1 p2
theorem SI.keep {Y Z : List (List Int)} {a i : Nat} (h : SI Y a i) (hk : ∀ k, k < i → gt Z k = gt Y k) : SI Z a i := fun p q h1 h2 h3 => by
 rw [hk p (by omega), hk q h3]
 exact h p q h1 h2 h3
theorem SI.grow {Y : List (List Int)} {a r : Nat} (h : SI Y a (r + 1)) (hb : bef (gt Y r) (gt Y (r + 1))) : SI Y a (r + 2) := fun p q h1 h2 h3 => by
 by_cases hq : q = r + 1
 · subst hq
   by_cases hp : p = r
   · subst hp; exact hb
   · exact bef_trans (h p r h1 (by omega) (by omega)) hb
 · exact h p q h1 h2 (by omega)
end Go.Mch
namespace Go.Mch

def Cut (Y : List (List Int)) (m a b : Nat) : Prop := ∀ p q, a ≤ p → p < m → m ≤ q → q < b → bef (gt Y p) (gt Y q)
section
variable {Y Z : List (List Int)} {m a b c d u v : Nat}
theorem Cut.pi (h : Cut Y m a b) (g : PI Y Z u v) (hu : a ≤ u) (hv : v ≤ b) (hm : v ≤ m ∨ m ≤ u) : Cut Z m a b := by
 intro p q h1 h2 h3 h4
 have hp : ∃ p', a ≤ p' ∧ p' < m ∧ gt Z p = gt Y p' := by
  by_cases hk : u ≤ p ∧ p < v
  · obtain ⟨p', q1, q2, q3⟩ := g.fwd p hk.1 hk.2
    exact ⟨p', by omega, by omega, q3⟩
  · exact ⟨p, h1, h2, g.out p (by omega)⟩
 have hq : ∃ q', m ≤ q' ∧ q' < b ∧ gt Z q = gt Y q' := by
  by_cases hk : u ≤ q ∧ q < v
  · obtain ⟨p', q1, q2, q3⟩ := g.fwd q hk.1 hk.2
    exact ⟨p', by omega, by omega, q3⟩
  · exact ⟨q, h3, h4, g.out q (by omega)⟩
 obtain ⟨p', p1, p2, p3⟩ := hp
 obtain ⟨q', q1, q2, q3⟩ := hq
 rw [p3, q3]
 exact h p' q' p1 p2 q1 q2
theorem SI.out (h : SI Y c d) (g : PI Y Z u v) (hm : d ≤ u ∨ v ≤ c) : SI Z c d := fun p q h1 h2 h3 => by
 rw [g.out p (by omega), g.out q (by omega)]
 exact h p q h1 h2 h3
theorem SI.join (h1 : SI Y c m) (h2 : SI Y m d) (h : Cut Y m a b) (hc : a ≤ c) (hd : d ≤ b) : SI Y c d := fun p q p1 p2 p3 => by
 by_cases hp : p < m
 · by_cases hq : q < m
   · exact h1 p q p1 p2 hq
   · exact h p q (by omega) hp (by omega) (by omega)
 · exact h2 p q (by omega) p2 p3
structure Fr (Y : List (List Int)) (a c d b : Nat) : Prop where
 lo : SI Y a c
 hi : SI Y d b
 cl : Cut Y c a b
 ch : Cut Y d a b
 h1 : a ≤ c
 h2 : c ≤ d
 h3 : d ≤ b
theorem Fr.pi (h : Fr Y a c d b) (g : PI Y Z c d) : Fr Z a c d b :=
 ⟨h.lo.out g (.inl (Nat.le_refl _)), h.hi.out g (.inr (Nat.le_refl _)), h.cl.pi g h.h1 h.h3 (.inr (Nat.le_refl _)), h.ch.pi g h.h1 h.h3 (.inl (Nat.le_refl _)), h.h1, h.h2, h.h3⟩
theorem Fr.fin (h : Fr Y a c d b) (hs : SI Y c d) : SI Y a b :=
 h.lo.join (hs.join h.hi h.ch h.h1 (Nat.le_refl _)) h.cl (Nat.le_refl _) (Nat.le_refl _)
theorem Fr.lb (h : Fr Y a c d b) (hl : Lb Y a b) : Lb Y c d := by
 have h1 := h.h1
 have h3 := h.h3
 by_cases hc : c = a
 · subst hc
   rcases hl with hl | hl
   · exact .inl hl
   · exact .inr fun k k1 k2 => hl k k1 (by omega)
 · exact .inr fun k k1 k2 => h.cl (c - 1) k (by omega) (by omega) k1 (by omega)
theorem Fr.left (h : Fr Y a c d b) (hm1 : c ≤ m) (hm2 : m < d) (hc : Cut Y m a b ∧ Cut Y (m + 1) a b) (g : PI Y Z c m) (hs : SI Z c m) : Fr Z a (m + 1) d b := by
 have h1 := h.h1
 have h3 := h.h3
 have c1 : Cut Z c a b := h.cl.pi g h1 (by omega) (.inr (Nat.le_refl _))
 have c2 : Cut Z m a b := hc.1.pi g h1 (by omega) (.inl (Nat.le_refl _))
 have c3 : Cut Z (m + 1) a b := hc.2.pi g h1 (by omega) (.inl (by omega))
 have s1 : SI Z a m := (h.lo.out g (.inl (Nat.le_refl _))).join hs c1 (Nat.le_refl _) (by omega)
 exact ⟨s1.join (SI.one Z (Nat.le_refl _)) c2 (Nat.le_refl _) (by omega), h.hi.out g (.inr (by omega)), c3, h.ch.pi g h1 (by omega) (.inl (by omega)), by omega, by omega, h3⟩
theorem Fr.right (h : Fr Y a c d b) (hm1 : c ≤ m) (hm2 : m < d) (hc : Cut Y m a b ∧ Cut Y (m + 1) a b) (g : PI Y Z (m + 1) d) (hs : SI Z (m + 1) d) : Fr Z a c m b := by
 have h1 := h.h1
 have h3 := h.h3
 have c1 : Cut Z d a b := h.ch.pi g (by omega) h3 (.inl (Nat.le_refl _))
 have c2 : Cut Z m a b := hc.1.pi g (by omega) h3 (.inr (by omega))
 have c3 : Cut Z (m + 1) a b := hc.2.pi g (by omega) h3 (.inr (Nat.le_refl _))
 have s1 : SI Z (m + 1) b := hs.join (h.hi.out g (.inr (Nat.le_refl _))) c1 (by omega) (Nat.le_refl _)
 exact ⟨h.lo.out g (.inl (by omega)), (SI.one Z (Nat.le_refl _)).join s1 c3 (by omega) (Nat.le_refl _), h.cl.pi g (by omega) h3 (.inr (by omega)), c2, h1, hm1, by omega⟩
theorem Fr.start (h : a ≤ b) : Fr Y a a b b :=
 ⟨SI.one Y (by omega), SI.one Y (by omega), fun p q h1 h2 h3 h4 => by omega, fun p q h1 h2 h3 h4 => by omega, Nat.le_refl _, h, Nat.le_refl _⟩
end

theorem wp_block {G : Rl} {k : K} {i : Nat} {A : C} {R : X → Env → Prop} {e : Env} (h : wp G k A (X.out i R) e) : wp G k (.block i A) R e := h
end Go.Mch
namespace Go.Mch

theorem thr (n : Nat) (P : Nat → Prop) : (∀ j k, j ≤ k → k < n → P k → P j) → ∃ i, i ≤ n ∧ (∀ j, j < n → j < i → P j) ∧ ∀ j, j < n → i ≤ j → ¬ P j := by
 induction n with
 | zero => intro _; exact ⟨0, by omega, fun j h => by omega, fun j h => by omega⟩
 | succ n ih =>
  intro h
  by_cases hp : P n
  · exact ⟨n + 1, by omega, fun j hj _ => h j n (by omega) (by omega) hp, fun j hj h2 => by omega⟩
  · obtain ⟨i, h1, h2, h3⟩ := ih fun j k hjk hk => h j k hjk (by omega)
    refine ⟨i, by omega, fun j hj hi => h2 j (by omega) hi, fun j hj hi => ?_⟩
    by_cases hjn : j = n
    · subst hjn; exact hp
    · exact h3 j (by omega) hi
structure At (X : List (List Int)) (w : List Int) (i : Nat) : Prop where
 le : i ≤ X.length
 lo : ∀ j (hj : j < X.length), j < i → cmpL X[j] w < 0
 hi : ∀ j (hj : j < X.length), i ≤ j → ¬ cmpL X[j] w < 0
theorem Srt.at {X : List (List Int)} (h : Srt X) (w : List Int) : ∃ i, At X w i := by
 obtain ⟨i, h1, h2, h3⟩ := thr X.length (fun j => cmpL (X.getD j []) w < 0) fun j k hjk hk hp => by
  by_cases he : j = k
  · subst he; exact hp
  · have hj : j < X.length := by omega
    have := h.lt hk (show j < k by omega)
    simp only [List.getD_eq_getElem?_getD, List.getElem?_eq_getElem hk, List.getElem?_eq_getElem hj, Option.getD_some] at hp ⊢
    exact cmpL_trans _ _ _ this hp
 refine ⟨i, h1, fun j hj hl => ?_, fun j hj hl => ?_⟩
 · have := h2 j hj hl
   simpa [hj] using this
 · have := h3 j hj hl
   simpa [hj] using this
theorem At.mem {X : List (List Int)} {w : List Int} {i : Nat} (h : At X w i) (hs : Srt X) : w ∈ X ↔ ∃ hi : i < X.length, X[i] = w := by
 constructor
 · intro hm
   obtain ⟨j, hj, rfl⟩ := List.getElem_of_mem hm
   have hij : i ≤ j := by
    refine Classical.byContradiction fun hn => ?_
    have := h.lo j hj (by omega)
    have z := (cmpL_zero X[j] X[j]).2 rfl
    omega
   by_cases he : i = j
   · subst he; exact ⟨hj, rfl⟩
   · exact absurd (hs.lt hj (by omega)) (h.hi i (by omega) (Nat.le_refl _))
 · rintro ⟨hi, rfl⟩
   exact List.getElem_mem hi
end Go.Mch
namespace Go.Mch

def GR (ms : List (List Int)) (n : Nat) (x : List Int) : Prop := ∀ S : List Int → Prop, S (idL n) → (∀ y, S y → ∀ p ∈ ms, S (j6n y p)) → S x
theorem GR.id (ms : List (List Int)) (n : Nat) : GR ms n (idL n) := fun _ h _ => h
theorem GR.step {ms : List (List Int)} {n : Nat} {x : List Int} (h : GR ms n x) {p : List Int} (hp : p ∈ ms) : GR ms n (j6n x p) := fun S h1 h2 => h2 x (h S h1 h2) p hp
structure Grp (ms : List (List Int)) (n : Nat) (X : List (List Int)) : Prop where
 srt : Srt X
 mem : ∀ x, x ∈ X ↔ GR ms n x
end Go.Mch
