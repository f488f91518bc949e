/- Our texts YfA YgA YfC YfD YfE YfB YfF YfG YfH YfI YfJ YfK YfL YfM YfN YfO YfP YfX YfY YfQ YfR YfV YfZ YfW YgB YgC YgF YgE YgG YgH YfS YfT YgI YgY YjC YjI YjJ YjK YjL YlA YlJ YgJ YgK YgL YgW YgZ YgP YjM YjO YjP YjQ YjD YjE YjU YjF YjG YjW YjX YkA YkB YkE, end to end. -/
import Derived.Test.YtpaklggigidikaaYeA
import Derived.Test.YtpaklggigidikaaM4
import Derived.ProofKit
import Derived.OpenShut
import Derived.JoinedCond
import Derived.WideKeyArgs
import Derived.Test.YtpaklggigidikaaYeB
import Derived.Test.YtpaklggigidikaaM1
import Derived.Test.YtpaklggigidikaaYeC
import Derived.Test.YtpaklggigidikaaYeG
import Derived.Test.YtpaklggigidikaaYeD
namespace Go.Mch

abbrev nil : T := .sc (.slice none 0 0)

inductive Rw (α : Type) where
  | no
  | odd (a : Addr)
  | of (l : List α)

def lst {α : Type} : Rw α → List α
  | .of l => l
  | _ => []
def lso {α : Type} (o : Option (List α)) : List α := o.getD []
def Rw.ofO {α : Type} : Option (List α) → Rw α
  | none => .no
  | some l => .of l

def rawI : Rw Int → T
  | .no => nil
  | .odd a => .sc (.slice (some a) 0 0)
  | .of xs => .mem .old (some 1) (xs.map I)

@[simp] theorem lst_of {α : Type} (l : List α) : lst (.of l) = l := rfl
@[simp] theorem lst_no {α : Type} : lst (.no : Rw α) = [] := rfl
@[simp] theorem lst_odd {α : Type} (a : Addr) : lst (.odd a : Rw α) = [] := rfl
@[simp] theorem lso_some {α : Type} (l : List α) : lso (some l) = l := rfl
@[simp] theorem lso_none {α : Type} : lso (none : Option (List α)) = [] := rfl
@[simp] theorem lst_ofO {α : Type} (o : Option (List α)) : lst (Rw.ofO o) = lso o := by cases o <;> rfl

@[simp] theorem noOwnL_mapI (xs : List Int) : T.noOwnL (xs.map I) = true := by
  induction xs with
  | nil => rfl
  | cons x xs ih => simp [ih]
@[simp] theorem eryL_mapI (k : K) (xs : List Int) : T.eryL k (xs.map I) = xs.map I := by
  induction xs with
  | nil => rfl
  | cons x xs ih => simp [ih]
@[simp] theorem noOldL_mapI (xs : List Int) : T.noOldL (xs.map I) = true := by
  induction xs with
  | nil => rfl
  | cons x xs ih => simp [ih]
@[simp] theorem lendL_mapI (xs : List Int) : T.lendL (xs.map I) = xs.map I := by
  induction xs with
  | nil => rfl
  | cons x xs ih => simp [ih]
@[simp] theorem rawI_noOwn (a : Rw Int) : (rawI a).noOwn = true := by cases a <;> simp [rawI]
@[simp] theorem rawI_peek (a : Rw Int) (n : Nat) (p : List Nat) : (rawI a).peek n p = .val (rawI a) := by cases a <;> rfl
@[simp] theorem rawI_ery (a : Rw Int) : (rawI a).ery .old = rawI a := by cases a <;> simp [rawI]
@[simp] theorem rawI_len (a : Rw Int) : lenV (.val (rawI a)) = some (lst a).length := by cases a <;> simp [rawI]
@[simp] theorem rawI_idx (a : Rw Int) (i : Int) : idxV 1 (.val (rawI a)) i = if 0 ≤ i ∧ i < ((lst a).length : Int) then some (.val (.mem .old none (win ((lst a).map I) (i.toNat * 1) 1))) else none := by
  cases a with
  | no =>
    simp only [rawI, idxV, lst_no, List.length_nil, List.map_nil]
    rw [if_neg]
    omega
  | odd ad =>
    simp only [rawI, idxV, lst_odd, List.length_nil, List.map_nil]
    rw [if_neg]
    omega
  | of xs => simp [rawI]
def rawT : Rw (Rw Int) → T
  | .no => nil
  | .odd a => .sc (.slice (some a) 0 0)
  | .of rs => .mem .old (some 1) (rs.map rawI)
@[simp] theorem noOwnL_mapR (rs : List (Rw Int)) : T.noOwnL (rs.map rawI) = true := by
  induction rs with
  | nil => rfl
  | cons x xs ih => simp [ih]
@[simp] theorem eryL_mapR (rs : List (Rw Int)) : T.eryL .old (rs.map rawI) = rs.map rawI := by
  induction rs with
  | nil => rfl
  | cons x xs ih => simp [ih]
@[simp] theorem rawT_noOwn (a : Rw (Rw Int)) : (rawT a).noOwn = true := by cases a <;> simp [rawT]
@[simp] theorem rawT_peek (a : Rw (Rw Int)) (n : Nat) (p : List Nat) : (rawT a).peek n p = .val (rawT a) := by cases a <;> rfl
@[simp] theorem rawT_ery (a : Rw (Rw Int)) : (rawT a).ery .old = rawT a := by cases a <;> simp [rawT]
@[simp] theorem rawT_len (a : Rw (Rw Int)) : lenV (.val (rawT a)) = some (lst a).length := by cases a <;> simp [rawT]
@[simp] theorem rawT_idx (a : Rw (Rw Int)) (i : Int) : idxV 1 (.val (rawT a)) i = if 0 ≤ i ∧ i < ((lst a).length : Int) then some (.val (.mem .old none (win ((lst a).map rawI) (i.toNat * 1) 1))) else none := by
  cases a with
  | no =>
    simp only [rawT, idxV, lst_no, List.length_nil, List.map_nil]
    rw [if_neg]
    omega
  | odd ad =>
    simp only [rawT, idxV, lst_odd, List.length_nil, List.map_nil]
    rw [if_neg]
    omega
  | of xs => simp [rawT]
@[simp] theorem rawT_cells (a : Rw (Rw Int)) : (rawT a).cells = [rawT a] := by cases a <;> rfl
@[simp] theorem rawT_isCell (a : Rw (Rw Int)) : (rawT a).isCell = true := by cases a <;> rfl
@[simp] theorem rawI_isCell (a : Rw Int) : (rawI a).isCell = true := by cases a <;> rfl

theorem callR {G : Rl} {d : Option Nat} {k : Env → Prop} {e : Env} {args : List (Opd × Mode)} {id : Nat} {caps ts : List T} {r : T} (hc : G id (ts ++ T.eryL .old caps) (ts ++ T.eryL .old caps) r) (hall : args.all (fun x => x.2 == .r) = true) (hlen : args.length = ts.length)
    (hold : e.lends args = true → r.noOld = true) (hk : k (e.setD d (.val r))) : callP G d k e args id caps ts := by
  refine ⟨ts, r, hc, rfl, fun h => ⟨hold h, hall⟩, ?_⟩
  have : ∀ (xs : List (Opd × Mode)) (us : List T), xs.all (fun x => x.2 == .r) = true → xs.length = us.length → e.back xs us = some e := by
    intro xs
    induction xs with
    | nil => intro us _ h; cases us with | nil => rfl | cons => simp at h
    | cons x xs ih =>
      intro us h h2
      obtain ⟨x, md⟩ := x
      simp only [List.all_cons, Bool.and_eq_true, beq_iff_eq] at h
      obtain ⟨rfl, h⟩ := h
      cases us with
      | nil => simp at h2
      | cons u us => simp only [Env.back]; exact ih us (by simpa using h) (by simpa using h2)
  rw [this args ts hall hlen]
  exact ⟨e, rfl, hk⟩

theorem take_len {α : Type} (l : List α) {n : Nat} (h : l.length ≤ n) : l.take n = l := List.take_of_length_le h
@[simp] theorem take_map_len {α β : Type} (l : List α) (f : α → β) : List.take l.length (l.map f) = l.map f := List.take_of_length_le (by simp)

theorem callM {G : Rl} {d : Option Nat} {k : Env → Prop} {e : Env} {gs : List Bool} {ks : List Nat} {id : Nat} {caps : List T} {vs : List V} {y : List T × Env} {ts' : List T} {r : T} (hh : y.2.holes vs gs = true) (hc : G id (T.lendL y.1 ++ T.eryL .old caps) (ts' ++ T.eryL .old caps) r)
    (hl : ts'.length = y.1.length) (hk : bindP (y.2.gives vs gs ts') fun e2 => bindP (e.revive y.2 e2 vs gs ks) fun e3 => k (e3.setD d (.val r))) : callmP G d k e gs ks id caps vs y := ⟨hh, ts', r, hc, hl, hk⟩


def S_toI (pg : Pg) : Prop := ∀ a : Rw Int, (lst a).length ≤ 1048576 → Call pg 7 [rawI a] [rawI a] (ints .own (lst a))
theorem S_toI.at {pg : Pg} (h : S_toI pg) (a : Rw Int) (hl : (lst a).length ≤ 1048576) : Call pg 7 [rawI a] [rawI a] (.mem .own (some 1) ((lst a).map I)) := h a hl

def rows (xss : List (List Int)) : List T := xss.map fun xs => .mem .own (some 1) (xs.map I)
@[simp] theorem rows_length (xss : List (List Int)) : (rows xss).length = xss.length := by simp [rows]

@[simp] theorem noOldL_rows (xss : List (List Int)) : T.noOldL (rows xss) = true := by
  induction xss with
  | nil => rfl
  | cons x xs ih => simp only [rows, List.map_cons] at ih ⊢; simp [ih]
@[simp] theorem lendL_rows (xss : List (List Int)) : T.lendL (rows xss) = rows xss := by
  induction xss with
  | nil => rfl
  | cons x xs ih => simp only [rows, List.map_cons] at ih ⊢; simp [ih]
abbrev ix (xs : List Int) : T := .mem .old (some 1) (xs.map I)
def tbL (xss : List (List Int)) : List T := xss.map fun xs => ix xs
abbrev tb (xss : List (List Int)) : T := .mem .old (some 1) (tbL xss)
@[simp] theorem tbL_length (xss : List (List Int)) : (tbL xss).length = xss.length := by simp [tbL]
@[simp] theorem noOwnL_tbL (xss : List (List Int)) : T.noOwnL (tbL xss) = true := by
  induction xss with
  | nil => rfl
  | cons x xs ih => simp only [tbL, List.map_cons] at ih ⊢; simp [ih]
@[simp] theorem eryL_tbL (xss : List (List Int)) : T.eryL .old (tbL xss) = tbL xss := by
  induction xss with
  | nil => rfl
  | cons x xs ih => simp only [tbL, List.map_cons] at ih ⊢; simp [ih]
@[simp] theorem eryL_rows (xss : List (List Int)) : T.eryL .old (rows xss) = tbL xss := by
  induction xss with
  | nil => rfl
  | cons x xs ih => simp only [rows, tbL, List.map_cons] at ih ⊢; simp [ih]
theorem rawT_tb (xss : List (List Int)) : rawT (.of (xss.map .of)) = tb xss := by simp [rawT, tbL, rawI]
theorem rows_get (xss : List (List Int)) (j : Nat) : (rows xss)[j]? = (xss[j]?).map fun xs => .mem .own (some 1) (xs.map I) := by simp [rows]
@[simp] theorem rows_getElem (xss : List (List Int)) (j : Nat) (h : j < (rows xss).length) : (rows xss)[j] = .mem .own (some 1) ((xss[j]'(by simpa using h)).map I) := by simp [rows]

def small (a : Rw (Rw Int)) : Prop := (lst a).length ≤ 1048576 ∧ ∀ r ∈ lst a, (lst r).length ≤ 1048576


def sz1 (r : Rw Int) (l : Int) : Int := if l - ((lst r).length : Int) < 0 then -1 else l - ((lst r).length : Int)

def S_eqI (pg : Pg) : Prop := ∀ a b : Rw Int, (lst a).length ≤ 1048576 → Call pg 9 [rawI a, rawI b] [rawI a, rawI b] (B (decide (lst a = lst b)))
def S_eqT (pg : Pg) : Prop := ∀ a b : Rw (Rw Int), small a → Call pg 21 [rawT a, rawT b] [rawT a, rawT b] (B (decide ((lst a).map lst = (lst b).map lst)))
def S_eqRack (pg : Pg) : Prop := ∀ a b : Rw (Rw Int), small a → Call pg 10 [.agg [rawT a], .agg [rawT b]] [.agg [rawT a], .agg [rawT b]] (B (decide ((lst a).map lst = (lst b).map lst)))
def S_eqSol (pg : Pg) : Prop := ∀ a b c d : Rw (Rw Int), small a → small b → Call pg 18 [.agg [rawT a, rawT b], .agg [rawT c, rawT d]] [.agg [rawT a, rawT b], .agg [rawT c, rawT d]] (B (decide ((lst a).map lst = (lst c).map lst ∧ (lst b).map lst = (lst d).map lst)))
end Go.Mch
namespace Go.Mch

abbrev okCl : K → Nat → Prop := fun k _ => k = .old

theorem repL_of {fm : Nat → Nat} {ok : K → Nat → Prop} {w : World} {g : Nat → Value} : ∀ (ts : List T) (i : Nat), (∀ j (h : j < ts.length), rep fm ok w (g (i + j)) ts[j]) → repL fm ok w g i ts
  | [], _, _ => trivial
  | t :: ts, i, h => ⟨h 0 (by simp), repL_of ts (i + 1) fun j hj => by
      have := h (j + 1) (by simpa using hj)
      simpa [show i + 1 + j = i + (j + 1) from by omega] using this⟩

theorem run_true {P : Program} {fm : Nat → Nat} {f : Nat} {args args' : List T} (h : Pact P fm f args args' (B true)) (hno : T.noOwnL args = true) {w : World} {vs : Array Value} (hs : vs.size = args.length)
    (hrep : ∀ s t, args[s]? = some t → rep fm okCl w (vs.getD s undef) t) :
    Calls P (fm f) vs w fun e w' => e = .returned (.bool true) ∧ Keeps (fun _ => False) w w' := by
  have hA : ∀ b, (fun _ => False : Nat → Prop) b → b < w.heap.size := fun _ h => h.elim
  have hc : ∀ s t, init args s = some (.val t) → ∀ b, cnt w (vs.getD s undef) b t = 0 := by
    intro s t ht b
    obtain ⟨u, h1, h2⟩ := init_some ht
    cases h2
    exact cnt_noOwn _ _ _ _ (noOwnL_get hno h1)
  have hR : R (cx0 fm w (fun _ => False) (fun _ => False) hA) (init args) (fun s => vs.getD s undef) w := by
    refine ⟨Keeps.refl _ _, ⟨fun _ => 0, fun s t ht b => ?_⟩, fun s x hx => ?_⟩
    · rw [hc s t ht b]; simp
    · obtain ⟨t, h1, rfl⟩ := init_some hx
      refine .inl ⟨t, rfl, rep_ok (fun k b _ _ hk => ?_) t _ (fun b hb _ _ => ?_) (hrep s t h1)⟩
      · cases hk
        refine ⟨id, by simp, by simp, fun _ => ⟨?_, id⟩⟩
        rintro ⟨s', t', h3, h4⟩
        rw [hc s' t' h3 b] at h4
        omega
      · have h5 := hc s t hx b
        omega
  refine (h.2 w vs _ _ hA hs (fun _ _ hm => hm) hR).mono fun e w' hb => ?_
  cases e with
  | returned v =>
    obtain ⟨q, e', vl', _, h2, _, h4, _⟩ := hb
    refine ⟨?_, h2.keeps⟩
    have h5 := h2.rep q (.val (B true)) (by simp [Env.add])
    rcases h5 with ⟨t, h6, h7⟩ | h7
    · cases h6
      simp only [rep] at h7
      rw [← h4, h7.1]
    · simp only [arep, rep] at h7
      rw [← h4, h7.2.1]
  | _ => exact hb.elim

theorem Keeps.but {w w' : World} (h : Keeps (fun _ => False) w w') (may : MemPlace → Prop) : w.keptBut w' may := by
  refine ⟨h.os, h.output, fun i hi => ?_⟩
  rw [h.block i hi id]
  exact (World.keptBut_refl w may).2.2 i hi

theorem Keeps.at {w w' : World} (h : Keeps (fun _ => False) w w') {p : MemPlace} (hp : p.block < w.heap.size) : w.sameAt w' p := by
  cases p with
  | cell b off => exact World.cell?_of_block (a := ⟨b, off, none⟩) (h.block b hp id)
  | map b => exact h.block b hp id


section
variable {H : Type} {enc : TypeId × Value → H} {P : Program} {w : World} {base : Nat} {sp : Nat → Bool} {held : Bool} {fm : Nat → Nat}

theorem each {α : Type} {Q : Nat → α → Prop} : ∀ (n : Nat), (∀ i, i < n → ∃ z, Q i z) → ∃ zs : List α, zs.length = n ∧ ∀ i (h : i < zs.length), Q i zs[i]
  | 0, _ => ⟨[], rfl, fun i h => by simp at h⟩
  | n + 1, h => by
    obtain ⟨zs, h1, h2⟩ := each n fun i hi => h i (by omega)
    obtain ⟨z, hz⟩ := h n (by omega)
    refine ⟨zs ++ [z], by simp [h1], fun i hi => ?_⟩
    rcases Nat.lt_or_ge i zs.length with hl | hl
    · rw [List.getElem_append_left hl]; exact h2 i hl
    · have : i = n := by simp at hi; omega
      subst this
      rw [List.getElem_append_right hl]
      simp [h1, hz]

theorem open_raw {t e : TypeId} {fuel : Nat} {cs : List Value} {x : DataW H × List MemPlace} (ht : P.underlying t = some (.slice e)) (hc : P.cellsOf e = 1)
    (h : DataW.trod enc P w base (fun _ => true) held fuel t cs = some x) :
    (cs = [.slice none 0 0] ∧ x.1 = .nil) ∨ (∃ a, cs = [.slice (some a) 0 0] ∧ x.1 = .slice [] []) ∨
    ∃ b off len cap ds rest n, cs = [.slice (some ⟨b, off, none⟩) len cap] ∧ len ≤ cap ∧ x.1 = .slice ds rest ∧ ds.length = len ∧
      ∀ i, i < len → ∃ c y, w.cell? ⟨b, off + i, none⟩ = some c ∧ DataW.trod enc P w base (fun _ => true) held n e [c] = some y ∧ ds[i]? = some y.1 := by
  rcases DataW.trod_slice ht h with ⟨h1, rfl⟩ | ⟨a, len, cap, elems, rest, n, _, rfl, rfl, hb, hl, _, hlen, hel, hsp, _⟩
  · exact .inl ⟨h1, rfl⟩
  right
  obtain ⟨hr1, hr2⟩ := hsp rfl
  have cell : ∀ a' y, (w.cells? base a' (P.cellsOf e)).bind (DataW.trod enc P w base (fun _ => true) held n e) = some y → ∃ c, w.cell? a' = some c ∧ DataW.trod enc P w base (fun _ => true) held n e [c] = some y := by
    intro a' y hy
    rw [hc, Option.bind_eq_some_iff] at hy
    obtain ⟨c1, h1, h2⟩ := hy
    have h3 := (World.cells?_some h1).2.1
    match c1, h3 with
    | [c], _ => exact ⟨c, Go.ChangeShapes.cell_of_cells?_one h1, h2⟩
  by_cases hz : cap = 0
  · subst hz
    have h0 : len = 0 := by omega
    subst h0
    have h1 : elems = [] := List.eq_nil_of_length_eq_zero hlen
    have h2 : rest = [] := List.eq_nil_of_length_eq_zero (by simpa using hr1)
    subst h1 h2
    exact .inl ⟨a, rfl, rfl⟩
  right
  have hspot : a.spot = none := by
    by_cases h0 : 0 < len
    · have h1 : 0 < elems.length := by omega
      have := hel 0 h0
      rw [List.getElem?_eq_getElem h1] at this
      obtain ⟨c, hc1, _⟩ := cell _ _ this
      simp only [Nat.zero_mul] at hc1
      have := World.cell?_spot hc1
      simpa [Addr.add] using this
    · have h1 : 0 < rest.length := by omega
      have := hr2 0 (by omega)
      rw [List.getElem?_eq_getElem h1] at this
      obtain ⟨c, hc1, _⟩ := cell _ _ this
      have h2 := World.cell?_spot hc1
      simpa [Addr.add, show len = 0 from by omega] using h2
  obtain ⟨b, off, spot⟩ := a
  simp only at hspot
  subst hspot
  refine ⟨b, off, len, cap, elems.map (·.1), rest.map (·.1), n, rfl, hl, rfl, by simpa using hlen, fun i hi => ?_⟩
  have h1 : i < elems.length := by omega
  have h2 := hel i hi
  rw [List.getElem?_eq_getElem h1] at h2
  obtain ⟨c, h3, h4⟩ := cell _ _ h2
  refine ⟨c, elems[i], ?_, h4, by simp [h1]⟩
  rw [hc, Nat.mul_one] at h3
  rw [← Go.WideShapes.add_plain]; exact h3

theorem rep_slice {b off len cap : Nat} {us : List T} (hlen : us.length = len) (hl : len ≤ cap) (hno : T.noOwnL us = true) (h : ∀ i (hi : i < us.length), ∃ c, w.cell? ⟨b, off + i, none⟩ = some c ∧ rep fm okCl w c us[i]) :
    rep fm okCl w (.slice (some ⟨b, off, none⟩) len cap) (.mem .old (some 1) us) := by
  rw [rep_mem]
  refine ⟨⟨⟨len, rfl, by simp [hlen], by simp, hl⟩, fun i hi => ?_⟩, fun _ => rfl, by simp, fun _ => hno, ?_⟩
  · obtain ⟨c, hc, _⟩ := h i hi
    simp only [blk, ofs]
    rw [hc]; rfl
  · refine repL_of us 0 fun j hj => ?_
    obtain ⟨c, hc, hr⟩ := h j hj
    simp only [kid, Nat.zero_add]
    rw [hc]
    exact hr

structure Bulk (m : DataW H → Nat) : Prop where
  slice : ∀ es rest, es.length ≤ m (.slice es rest)
  elem : ∀ es rest d, d ∈ es → m d ≤ m (.slice es rest)
  part : ∀ ps d, d ∈ ps → m d ≤ m (.agg ps)


theorem all_stays {W W' : World} {sp' : Nat → Bool} (hl : laidOutB P = true) : ∀ {ts : List TypeId} {vs : List Value} {ds : List (DataW H)} {ps : List MemPlace}, (∀ t ∈ ts, P.readableRec t = true ∧ t < P.types.size) →
    DataW.TrodAll enc P W 0 (fun _ => true) true ts vs ds ps → (∀ p ∈ ps, W.sameAt W' p) → (∀ p ∈ ps, sp' p.block = true) → DataW.TrodAll enc P W' 0 sp' true ts vs ds ps
  | [], vs, ds, ps, _, h, _, _ => by
    obtain ⟨rfl, rfl, rfl⟩ := Go.ChangeShapes.trodAll_nil h
    rfl
  | t :: ts, vs, ds, ps, ht, h, h1, h2 => by
    obtain ⟨v, vs', d, ds', p, q, rfl, rfl, rfl, h3, h4⟩ := Go.ChangeShapes.trodAll_cons h
    exact ⟨p, q, Go.WideElems.Trod_stays hl (ht t (by simp)).1 (ht t (by simp)).2 h3 (fun x hx => h1 x (by simp [hx])) (fun x hx => h2 x (by simp [hx])),
      all_stays hl (fun t' h' => ht t' (by simp [h'])) h4 (fun x hx => h1 x (by simp [hx])) (fun x hx => h2 x (by simp [hx])), rfl⟩

theorem post_true {f : Func} {s : ChangeSpec} {W W' : World} {args : Array Value} {ds gs : List (DataW H)} {before : List MemPlace} {rt : TypeId} (hW : DataW.Whole enc P f.params.toList s.vars false W args.toList ds gs before) (hK : Keeps (fun _ => False) W W')
    (hv : s.vars = []) (hres : f.resultTypes = #[rt]) (hrt : P.underlying rt = some .bool) (hl : laidOutB P = true) (hr : ∀ t ∈ f.params.toList, P.readableRec t = true ∧ t < P.types.size)
    (hfn : s.fn H ds = { results := [.lit (.bool true)], args := ds }) : s.post enc P f false true false false W args (.bool true) W' := by
  have hlt := hW.lt
  have hW' := hW
  obtain ⟨p, q, hA, hV, rfl, _, _⟩ := hW
  rw [hv] at hV
  have hg : gs = [] ∧ q = [] := by
    cases gs with
    | nil => exact ⟨rfl, by simpa [DataW.TrodVars] using hV⟩
    | cons d ds => simp [DataW.TrodVars] at hV
  obtain ⟨rfl, rfl⟩ := hg
  simp only [List.append_nil] at hlt
  refine ⟨ds, [], p ++ [], [], p, [], hW', ?_, ?_, ?_, hK.but _, by simp⟩
  · rw [List.append_nil, hfn, hres]
    refine ⟨[], [], ⟨1, ?_⟩, rfl, rfl⟩
    simp [DataW.trod, hrt, Value.cells]
  · rw [List.append_nil, hfn]
    exact all_stays hl hr hA (fun x hx => hK.at (hlt x hx)) (fun x hx => by simpa using hlt x hx)
  · rw [List.append_nil, hfn, hv]
    rfl
end
end Go.Mch
namespace Go.Mch

def S_in (pg : Pg) (f : Nat) : Prop := ∀ n lo hi : Int, Call pg f [I n, I lo, I hi] [I n, I lo, I hi] (B (decide (lo ≤ n ∧ n ≤ hi)))
theorem t_l01In {pg : Pg} (hp : pg.fn 30 = some c_spec_l01In) : S_in pg 30 := by
  intro n lo hi
  refine Call.intro hp rfl (by simp) ?_
  show wp _ _ c_spec_l01In.body (post [.t 6] _ _ _) _
  by_cases h1 : lo ≤ n
  · by_cases h2 : n ≤ hi <;> simp [c_spec_l01In, h1, h2]
  · simp [c_spec_l01In, h1, undefV]
theorem t_within {pg : Pg} (hp : pg.fn 35 = some c_impl_within) : S_in pg 35 := by
  intro n lo hi
  refine Call.intro hp rfl (by simp) ?_
  show wp _ _ c_impl_within.body (post [.t 6] _ _ _) _
  by_cases h1 : lo ≤ n
  · by_cases h2 : n ≤ hi <;> simp [c_impl_within, h1, h2]
  · simp [c_impl_within, h1, undefV]

def S_own (pg : Pg) : Prop := ∀ xs : List Int, xs.length ≤ 1048576 → Call pg 31 [ix xs] [ix xs] (.mem .own (some 1) (xs.map I))
theorem t_own {pg : Pg} (hp : pg.fn 31 = some c_spec_l01Own) : S_own pg := by
  intro xs hl
  refine Call.intro hp rfl (by simp) ?_
  show wp _ _ c_spec_l01Own.body (post [.t 2] _ _ _) _
  simp [c_spec_l01Own, roomy]
  omega

def ixOf : List Int → Int → Int
  | [], _ => -1
  | x :: xs, n => if x = n then 0 else if ixOf xs n < 0 then -1 else ixOf xs n + 1
theorem ixOf_le : ∀ (xs : List Int) (n : Int), -1 ≤ ixOf xs n ∧ ixOf xs n < xs.length
  | [], n => by simp [ixOf]
  | x :: xs, n => by
    have := ixOf_le xs n
    unfold ixOf
    simp only [List.length_cons]
    split
    · omega
    · split <;> omega
theorem ixOf_mem : ∀ (xs : List Int) (n : Int), 0 ≤ ixOf xs n ↔ n ∈ xs
  | [], n => by simp [ixOf]
  | x :: xs, n => by
    have := ixOf_mem xs n
    have h2 := ixOf_le xs n
    unfold ixOf
    by_cases h : x = n
    · subst h; simp
    · rw [if_neg h]
      split
      · rename_i h3
        simp only [List.mem_cons]
        constructor
        · intro h4; omega
        · intro h4
          rcases h4 with h4 | h4
          · exact (h h4.symm).elim
          · have := this.2 h4; omega
      · rename_i h3
        simp only [List.mem_cons]
        exact ⟨fun _ => .inr (this.1 (by omega)), fun _ => by omega⟩
theorem ixOf_at : ∀ {xs : List Int} {n : Int} {k : Nat} (hk : k < xs.length), (∀ i (h : i < k), xs[i] ≠ n) → xs[k] = n → ixOf xs n = k
  | x :: xs, n, 0, _, _, h => by simp at h; simp [ixOf, h]
  | x :: xs, n, k + 1, hk, h1, h2 => by
    have h0 := h1 0 (by omega)
    simp only [List.getElem_cons_zero] at h0
    have := ixOf_at (xs := xs) (n := n) (k := k) (by simpa using hk) (fun i hi => by
      have := h1 (i + 1) (by omega)
      simpa using this) (by simpa using h2)
    unfold ixOf
    rw [if_neg h0, this, if_neg (by omega)]
    omega
theorem ixOf_none {xs : List Int} {n : Int} (h : ∀ i (h : i < xs.length), xs[i] ≠ n) : ixOf xs n = -1 := by
  have h1 := ixOf_le xs n
  have h2 : ¬ 0 ≤ ixOf xs n := fun hh => by
    obtain ⟨i, hi, he⟩ := List.getElem_of_mem ((ixOf_mem xs n).1 hh)
    exact h i hi he
  omega

def S_index (pg : Pg) : Prop := ∀ (xs : List Int) (n : Int), xs.length ≤ 1048576 → Call pg 69 [ix xs, I n] [ix xs, I n] (I (ixOf xs n))
theorem t_index {pg : Pg} (hp : pg.fn 69 = some c_spec_l01Index) : S_index pg := by
  intro xs n hl
  refine Call.intro hp rfl (by simp) ?_
  show wp _ _ c_spec_l01Index.body (post [.t 4] _ _ _) _
  simp [c_spec_l01Index]
  refine wpLoop_count (fun k e => (∀ i (h : i < xs.length), i < k → xs[i] ≠ n) ∧ e = fr [(0, some (.val (ix xs))), (1, some (.val (I n))), (5, some (.val (I k)))]) xs.length ?_ ?_ 0 _ (by omega) ?_
  · rintro k e hk ⟨h1, rfl⟩
    by_cases hx : xs[k] = n
    · simp [hk, hx]
      exact (ixOf_at hk (fun i hi => h1 i (by omega) hi) hx).symm
    · simp [hk, hx]
      refine ⟨by omega, fun i hi hik => ?_⟩
      rcases Nat.lt_or_ge i k with h2 | h2
      · exact h1 i hi h2
      · have : i = k := by omega
        subst this; exact hx
  · rintro e ⟨h1, rfl⟩
    simp
    exact (ixOf_none fun i hi => h1 i hi hi).symm
  · simp

def S_has (pg : Pg) : Prop := ∀ (xs : List Int) (n : Int), xs.length ≤ 1048576 → Call pg 62 [ix xs, I n] [ix xs, I n] (B (decide (n ∈ xs)))
theorem t_has {pg : Pg} (hp : pg.fn 62 = some c_spec_l01Has) (h69 : S_index pg) : S_has pg := by
  intro xs n hl
  refine Call.intro hp rfl (by simp) ?_
  show wp _ _ c_spec_l01Has.body (post [.t 4] _ _ _) _
  simp [c_spec_l01Has]
  refine callR (h69 xs n hl) rfl rfl (fun _ => rfl) ?_
  simp [ixOf_mem]


def Tab (t : List (List Int)) : Prop := ∀ r ∈ t, r.length = t.length ∧ ∀ v ∈ r, 0 ≤ v ∧ v < t.length

def isTable (t : List (List Int)) : Prop := 1 ≤ t.length ∧ t.length ≤ 12 ∧ Tab t

instance (t : List (List Int)) : Decidable (Tab t) := by unfold Tab; infer_instance
instance (t : List (List Int)) : Decidable (isTable t) := by unfold isTable; infer_instance

def S_table (pg : Pg) (f : Nat) : Prop := ∀ t : List (List Int), t.length ≤ 1048576 → (∀ r ∈ t, r.length ≤ 1048576) → Call pg f [tb t] [tb t] (B (decide (isTable t)))

@[simp] theorem tbL_getElem {t : List (List Int)} {k : Nat} (h : k < (tbL t).length) : (tbL t)[k] = ix (t[k]'(by simpa using h)) := by simp [tbL]

theorem t_l01Table {pg : Pg} (hp : pg.fn 46 = some c_spec_l01Table) (h30 : S_in pg 30) : S_table pg 46 := by
  intro t hl hr
  refine Call.intro hp rfl (by simp) ?_
  show wp _ _ c_spec_l01Table.body (post [.t 2] _ _ _) _
  simp [c_spec_l01Table]
  refine callR (h30 _ 1 12) rfl rfl (fun _ => rfl) ?_
  by_cases hn : 1 ≤ t.length ∧ t.length ≤ 12
  · have hn' : (1 : Int) ≤ t.length ∧ (t.length : Int) ≤ 12 := by omega
    simp [hn']
    refine wpLoop_count (fun k e => (∀ i (h : i < t.length), i < k → t[i].length = t.length ∧ ∀ v ∈ t[i], 0 ≤ v ∧ v < t.length) ∧ e = fr [(0, some (.val (tb t))), (3, some (.val (I t.length))), (4, some (.val (I k)))]) t.length ?_ ?_ 0 _ (by omega) ?_
    · rintro k e hk ⟨h1, rfl⟩
      by_cases hlen : t[k].length = t.length
      · simp [hk, hlen]
        refine wpLoop_count (fun j e => (∀ i (h : i < t[k].length), i < j → 0 ≤ t[k][i] ∧ t[k][i] < t.length) ∧ e = fr [(0, some (.val (tb t))), (3, some (.val (I t.length))), (4, some (.val (I k))), (5, some (.val (I j)))]) t.length ?_ ?_ 0 _ (by omega) ?_
        · rintro j e hj ⟨h2, rfl⟩
          have hj2 : j < t[k].length := by omega
          simp [hk, hj, hj2]
          refine ⟨by omega, ?_⟩
          refine callR (h30 _ 0 _) rfl rfl (fun _ => rfl) ?_
          by_cases hv : 0 ≤ t[k][j] ∧ t[k][j] ≤ (t.length : Int) - 1
          · simp [hv]
            refine ⟨by omega, fun i hi hij => ?_⟩
            rcases Nat.lt_or_ge i j with h3 | h3
            · exact h2 i hi h3
            · have : i = j := by omega
              subst this; omega
          · have hvd : ¬ isTable t := fun ht => hv (by
              have := (ht.2.2 t[k] (List.getElem_mem hk)).2 t[k][j] (List.getElem_mem hj2)
              omega)
            simp [hv, hvd]
        · rintro e ⟨h2, rfl⟩
          simp
          refine ⟨by omega, fun i hi hik => ?_⟩
          rcases Nat.lt_or_ge i k with h3 | h3
          · exact h1 i hi h3
          · have : i = k := by omega
            subst this
            refine ⟨hlen, fun v hv => ?_⟩
            obtain ⟨j, hj, rfl⟩ := List.getElem_of_mem hv
            exact h2 j hj (by omega)
        · simp
      · have hvd : ¬ isTable t := fun ht => hlen (ht.2.2 t[k] (List.getElem_mem hk)).1
        have hne : ((t[k].length : Nat) : Int) ≠ t.length := by omega
        simp [hk, hne, hvd]
    · rintro e ⟨h1, rfl⟩
      have : isTable t := ⟨hn.1, hn.2, fun r hr => by
        obtain ⟨i, hi, rfl⟩ := List.getElem_of_mem hr
        exact h1 i hi hi⟩
      simp [this]
    · simp
  · have hvd : ¬ isTable t := fun ht => hn ⟨ht.1, ht.2.1⟩
    have hn' : ¬ ((1 : Int) ≤ t.length ∧ (t.length : Int) ≤ 12) := by omega
    simp [hn', hvd]

end Go.Mch
namespace Go.Mch

def isPerm (p : List Int) : Prop := 1 ≤ p.length ∧ p.length ≤ 12 ∧ ∀ x : Nat, x < p.length → (x : Int) ∈ p
instance (p : List Int) : Decidable (isPerm p) := by unfold isPerm; infer_instance

def S_perm (pg : Pg) (f : Nat) : Prop := ∀ p : List Int, p.length ≤ 1048576 → Call pg f [ix p] [ix p] (B (decide (isPerm p)))

theorem t_l01Perm {pg : Pg} (hp : pg.fn 47 = some c_spec_l01Perm) (h30 : S_in pg 30) (h62 : S_has pg) : S_perm pg 47 := by
  intro p hl
  refine Call.intro hp rfl (by simp) ?_
  show wp _ _ c_spec_l01Perm.body (post [.t 2] _ _ _) _
  simp [c_spec_l01Perm]
  refine callR (h30 _ 1 12) rfl rfl (fun _ => rfl) ?_
  by_cases hn : 1 ≤ p.length ∧ p.length ≤ 12
  · have hn' : (1 : Int) ≤ p.length ∧ (p.length : Int) ≤ 12 := by omega
    simp [hn']
    refine wpLoop_count (fun k e => (∀ x : Nat, x < k → (x : Int) ∈ p) ∧ e = fr [(0, some (.val (ix p))), (3, some (.val (I p.length))), (4, some (.val (I k)))]) p.length ?_ ?_ 0 _ (by omega) ?_
    · rintro k e hk ⟨h1, rfl⟩
      simp [hk]
      refine callR (h62 p k hl) rfl rfl (fun _ => rfl) ?_
      by_cases hm : (k : Int) ∈ p
      · simp [hm]
        refine ⟨by omega, fun x hx => ?_⟩
        rcases Nat.lt_or_ge x k with h2 | h2
        · exact h1 x h2
        · have : x = k := by omega
          subst this; exact hm
      · have hvd : ¬ isPerm p := fun h => hm (h.2.2 k hk)
        simp [hm, hvd]
    · rintro e ⟨h1, rfl⟩
      have : isPerm p := ⟨hn.1, hn.2, h1⟩
      simp [this]
    · simp
  · have hvd : ¬ isPerm p := fun h => hn ⟨h.1, h.2.1⟩
    have hn' : ¬ ((1 : Int) ≤ p.length ∧ (p.length : Int) ≤ 12) := by omega
    simp [hn', hvd]

def inR (lo hi : Int) (xs : List Int) : Prop := ∀ x ∈ xs, lo ≤ x ∧ x ≤ hi
instance (lo hi : Int) (xs : List Int) : Decidable (inR lo hi xs) := by unfold inR; infer_instance

def S_allWithin (pg : Pg) : Prop := ∀ (xs : List Int) (lo hi : Int), xs.length ≤ 1048576 → Call pg 54 [ix xs, I lo, I hi] [ix xs, I lo, I hi] (B (decide (inR lo hi xs)))
theorem t_allWithin {pg : Pg} (hp : pg.fn 54 = some c_impl_allWithin) (h35 : S_in pg 35) : S_allWithin pg := by
  intro xs lo hi hl
  refine Call.intro hp rfl (by simp) ?_
  show wp _ _ c_impl_allWithin.body (post [.t 6] _ _ _) _
  simp [c_impl_allWithin]
  refine wpLoop_count (fun k e => (∀ i (h : i < xs.length), i < k → lo ≤ xs[i] ∧ xs[i] ≤ hi) ∧ e = fr [(1, some (.val (I lo))), (2, some (.val (I hi))), (9, some (.val (ix xs))), (10, some (.val (I xs.length))), (11, some (.val (I k)))]) xs.length ?_ ?_ 0 _ (by omega) ?_
  · rintro k e hk ⟨h1, rfl⟩
    simp [hk]
    refine callR (h35 _ _ _) rfl rfl (fun _ => rfl) ?_
    by_cases hm : lo ≤ xs[k] ∧ xs[k] ≤ hi
    · simp [hm]
      refine ⟨by omega, fun i hi hik => ?_⟩
      rcases Nat.lt_or_ge i k with h2 | h2
      · exact h1 i hi h2
      · have : i = k := by omega
        subst this; exact hm
    · have hvd : ¬ inR lo hi xs := fun h => hm (h _ (List.getElem_mem hk))
      simp [hm, hvd]
  · rintro e ⟨h1, rfl⟩
    have : inR lo hi xs := fun x hx => by
      obtain ⟨i, hi, rfl⟩ := List.getElem_of_mem hx
      exact h1 i hi hi
    simp [this]
  · simp

def isPermuted (p : List Int) : Prop := (∀ x ∈ p, 0 ≤ x ∧ x < p.length) ∧ p.Nodup
instance (p : List Int) : Decidable (isPermuted p) := by unfold isPermuted; infer_instance

def seenL (p : List Int) (k : Nat) : List T := (List.range p.length).map fun i : Nat => B (decide ((i : Int) ∈ p.take k))
@[simp] theorem seenL_length (p : List Int) (k : Nat) : (seenL p k).length = p.length := by simp [seenL]
theorem seenL_get {p : List Int} {k i : Nat} (h : i < p.length) : (seenL p k)[i]'(by simpa using h) = B (decide ((i : Int) ∈ p.take k)) := by simp [seenL]
theorem seenL_zero (p : List Int) : seenL p 0 = List.replicate p.length (B false) := by
  apply List.ext_getElem
  · simp
  · intro i h1 h2; simp [seenL]
theorem seenL_set {p : List Int} {k i : Nat} (hk : k < p.length) (hi : p[k] = i) : (seenL p k).set i (B true) = seenL p (k + 1) := by
  apply List.ext_getElem
  · simp
  · intro j h1 h2
    simp only [List.getElem_set, seenL, List.getElem_map, List.getElem_range, List.take_succ_eq_append_getElem hk, List.mem_append, List.mem_singleton]
    by_cases h : i = j
    · subst h; simp [hi]
    · rw [if_neg h]
      have : ¬ ((j : Int) = p[k]) := by omega
      simp [this]

theorem nodup_take {p : List Int} {k : Nat} (hk : k < p.length) (h : (p.take k).Nodup) (hm : p[k] ∉ p.take k) : (p.take (k + 1)).Nodup := by
  rw [List.take_succ_eq_append_getElem hk, List.nodup_append]
  refine ⟨h, by simp, fun a ha b hb => ?_⟩
  simp at hb
  subst hb
  intro e; subst e; exact hm ha

def S_isPermuted (pg : Pg) : Prop := ∀ p : List Int, p.length ≤ 1048576 → Call pg 66 [ix p] [ix p] (B (decide (isPermuted p)))
theorem t_isPermuted {pg : Pg} (hp : pg.fn 66 = some c_impl_isPermuted) (h35 : S_in pg 35) : S_isPermuted pg := by
  intro p hl
  refine Call.intro hp rfl (by simp) ?_
  show wp _ _ c_impl_isPermuted.body (post [.t 2] _ _ _) _
  simp [c_impl_isPermuted]
  refine ⟨by unfold roomy; omega, ?_⟩
  refine wpLoop_count (fun k e => (∀ i (h : i < p.length), i < k → 0 ≤ p[i] ∧ p[i] < p.length) ∧ (p.take k).Nodup ∧ e = fr [(0, some (.val (ix p))), (3, some (.val (.mem .own (some 1) (seenL p k)))), (9, some (.val (ix p))), (10, some (.val (I p.length))), (11, some (.val (I k)))]) p.length ?_ ?_ 0 _ (by omega) ?_
  · rintro k e hk ⟨h1, h2, rfl⟩
    simp [hk]
    refine ⟨by omega, ?_⟩
    refine callR (h35 _ _ _) rfl rfl (fun _ => rfl) ?_
    by_cases hv : 0 ≤ p[k] ∧ p[k] ≤ (p.length : Int) - 1
    · obtain ⟨i, hi⟩ : ∃ i : Nat, p[k] = i := ⟨p[k].toNat, by omega⟩
      have hil : i < p.length := by omega
      have hv' : 0 ≤ p[k] ∧ p[k] ≤ (p.length : Int) - 1 := hv
      rw [hi] at hv'
      by_cases hm : (i : Int) ∈ p.take k
      · have hvd : ¬ isPermuted p := fun h => by
          have h3 : (p.take (k + 1)).Nodup := h.2.sublist (List.take_sublist _ _)
          rw [List.take_succ_eq_append_getElem hk, List.nodup_append] at h3
          exact h3.2.2 _ hm _ (by simp) hi.symm
        simp [hi, hv', hil, seenL_get, hm, hvd]
      · simp [hi, hv', hil, seenL_get, hm]
        refine ⟨by omega, by omega, fun j hj hjk => ?_, nodup_take hk h2 (by rw [hi]; exact hm), ?_⟩
        · rcases Nat.lt_or_ge j k with h3 | h3
          · exact h1 j hj h3
          · have : j = k := by omega
            subst this; omega
        · rw [seenL_set hk hi]
    · have hvd : ¬ isPermuted p := fun h => hv (by have := h.1 _ (List.getElem_mem hk); omega)
      simp [hv, hvd, undefV]
  · rintro e ⟨h1, h2, rfl⟩
    have : isPermuted p := ⟨fun x hx => by
      obtain ⟨i, hi, rfl⟩ := List.getElem_of_mem hx
      exact h1 i hi hi, by rwa [List.take_length] at h2⟩
    simp [this]
  · simp [seenL_zero]


def S_indexFunc (pg : Pg) : Prop := ∀ (t : List (List Int)) (P : List Int → Bool) (f : Nat) (caps : List T), t.length ≤ 1048576 → T.eryL .old caps = caps → T.noOwnL caps = true → (∀ r ∈ t, Call pg f (ix r :: caps) (ix r :: caps) (B (P r))) →
  ∃ r : Int, (0 ≤ r ↔ t.any P = true) ∧ Call pg 70 [tb t, .fn f caps] [tb t, .fn f caps] (I r)
theorem t_indexFunc {pg : Pg} (hp : pg.fn 70 = some c_slices_IndexFunc_____int64___int64_) : S_indexFunc pg := by
  intro t P f caps hl hc hno hf
  by_cases hex : ∃ (k : Nat) (hk : k < t.length), (∀ i (h : i < k), P t[i] = false) ∧ P t[k] = true
  · obtain ⟨m, hm, hm1, hm2⟩ := hex
    refine ⟨m, ⟨fun _ => List.any_eq_true.2 ⟨_, List.getElem_mem hm, hm2⟩, fun _ => by omega⟩, Call.intro hp rfl (by simp [hno]) ?_⟩
    show wp _ _ c_slices_IndexFunc_____int64___int64_.body (post [.t 4] _ _ _) _
    simp [c_slices_IndexFunc_____int64___int64_]
    refine wpLoop_count (fun k e => k ≤ m ∧ e = fr [(0, some (.val (tb t))), (1, some (.val (.fn f caps))), (7, some (.val (I t.length))), (8, some (.val (I k)))]) t.length ?_ ?_ 0 _ (by omega) ?_
    · rintro k e hk ⟨h1, rfl⟩
      simp [hk]
      refine callR (by simpa [hc] using hf t[k] (List.getElem_mem hk)) rfl rfl (fun _ => rfl) ?_
      rcases Nat.lt_or_ge k m with h2 | h2
      · simp [hm1 k h2]
        omega
      · have : k = m := by omega
        subst this
        simp [hm2, hno]
    · rintro e ⟨h1, rfl⟩
      omega
    · simp
  · have hall : ∀ i (h : i < t.length), P t[i] = false := by
      intro i
      induction i using Nat.strongRecOn with
      | _ i ih =>
        intro hi
        cases hv : P t[i] with
        | false => rfl
        | true => exact (hex ⟨i, hi, fun j hj => ih j hj (by omega), hv⟩).elim
    refine ⟨-1, ⟨fun h => by omega, fun h => by
      obtain ⟨r, hr, h2⟩ := List.any_eq_true.1 h
      obtain ⟨i, hi, rfl⟩ := List.getElem_of_mem hr
      rw [hall i hi] at h2; cases h2⟩, Call.intro hp rfl (by simp [hno]) ?_⟩
    show wp _ _ c_slices_IndexFunc_____int64___int64_.body (post [.t 4] _ _ _) _
    simp [c_slices_IndexFunc_____int64___int64_]
    refine wpLoop_count (fun k e => e = fr [(0, some (.val (tb t))), (1, some (.val (.fn f caps))), (7, some (.val (I t.length))), (8, some (.val (I k)))]) t.length ?_ ?_ 0 _ (by omega) ?_
    · rintro k e hk rfl
      simp [hk]
      refine callR (by simpa [hc] using hf t[k] (List.getElem_mem hk)) rfl rfl (fun _ => rfl) ?_
      simp [hall k hk]
      omega
    · rintro e rfl
      simp [hno]
    · simp

def S_containsFunc (pg : Pg) : Prop := ∀ (t : List (List Int)) (P : List Int → Bool) (f : Nat) (caps : List T), t.length ≤ 1048576 → T.eryL .old caps = caps → T.noOwnL caps = true → (∀ r ∈ t, Call pg f (ix r :: caps) (ix r :: caps) (B (P r))) →
  Call pg 63 [tb t, .fn f caps] [tb t, .fn f caps] (B (t.any P))
theorem t_containsFunc {pg : Pg} (hp : pg.fn 63 = some c_slices_ContainsFunc_____int64___int64_) (h70 : S_indexFunc pg) : S_containsFunc pg := by
  intro t P f caps hl hc hno hf
  obtain ⟨r, h1, h2⟩ := h70 t P f caps hl hc hno hf
  refine Call.intro hp rfl (by simp [hno]) ?_
  show wp _ _ c_slices_ContainsFunc_____int64___int64_.body (post [.t 4] _ _ _) _
  simp [c_slices_ContainsFunc_____int64___int64_, hno, hc]
  refine callR h2 rfl rfl (fun _ => rfl) ?_
  cases h : t.any P with
  | true => simp [h1.2 h, hno]
  | false =>
    have : ¬ 0 ≤ r := fun hh => by rw [h1.1 hh] at h; cases h
    simp [this, hno]

end Go.Mch
namespace Go.Mch

def S_isTable1 (pg : Pg) : Prop := ∀ (r : List Int) (n : Int), r.length ≤ 1048576 → 0 ≤ n → n ≤ 1048576 → Call pg 64 [ix r, .mem .old none [I n]] [ix r, .mem .old none [I n]] (B (decide ((r.length : Int) ≠ n ∨ ¬ inR 0 (n - 1) r)))
theorem t_isTable1 {pg : Pg} (hp : pg.fn 64 = some c_impl_IsTable_1) (h54 : S_allWithin pg) : S_isTable1 pg := by
  intro r n hl h1 h2
  refine Call.intro hp rfl (by simp) ?_
  show wp _ _ c_impl_IsTable_1.body (post [.t 3] _ _ _) _
  by_cases hn : (r.length : Int) = n
  · simp [c_impl_IsTable_1, hn]
    refine ⟨by omega, ?_⟩
    refine callR (h54 _ _ _ hl) rfl rfl (fun _ => rfl) ?_
    by_cases hr : inR 0 (n - 1) r <;> simp [hr]
  · simp [c_impl_IsTable_1, hn, undefV]

theorem t_isTable {pg : Pg} (hp : pg.fn 50 = some c_impl_IsTable) (h35 : S_in pg 35) (h64 : S_isTable1 pg) (h63 : S_containsFunc pg) : S_table pg 50 := by
  intro t hl hr
  refine Call.intro hp rfl (by simp) ?_
  show wp _ _ c_impl_IsTable.body (post [.t 2] _ _ _) _
  simp [c_impl_IsTable]
  refine callR (h35 _ 1 12) rfl rfl (fun _ => rfl) ?_
  by_cases hn : 1 ≤ t.length ∧ t.length ≤ 12
  · have hn' : (1 : Int) ≤ t.length ∧ (t.length : Int) ≤ 12 := by omega
    simp [hn']
    refine callR (h63 t (fun r => decide ((r.length : Int) ≠ t.length ∨ ¬ inR 0 ((t.length : Int) - 1) r)) 64 [.mem .old none [I t.length]] hl rfl rfl (fun r hm => h64 r _ (hr r hm) (by omega) (by omega))) rfl rfl (fun _ => rfl) ?_
    simp
    by_cases ht : isTable t
    · simp [ht]
      intro r hm
      have := ht.2.2 r hm
      exact ⟨by omega, fun v hv => by have := this.2 v hv; omega⟩
    · simp [ht]
      rcases Classical.em (∃ x, x ∈ t ∧ (¬ ((x.length : Nat) : Int) = t.length ∨ ¬ inR 0 ((t.length : Int) - 1) x)) with h | h
      · exact h
      · exfalso
        refine ht ⟨hn.1, hn.2, fun r hm => ?_⟩
        have h1 : ((r.length : Nat) : Int) = t.length ∧ inR 0 ((t.length : Int) - 1) r := by
          refine Classical.byContradiction fun h2 => h ⟨r, hm, ?_⟩
          rcases Classical.em (((r.length : Nat) : Int) = t.length) with h3 | h3
          · exact .inr fun h4 => h2 ⟨h3, h4⟩
          · exact .inl h3
        exact ⟨by omega, fun v hv => by have := h1.2 v hv; omega⟩
  · have hvd : ¬ isTable t := fun ht => hn ⟨ht.1, ht.2.1⟩
    have hn' : ¬ ((1 : Int) ≤ t.length ∧ (t.length : Int) ≤ 12) := by omega
    simp [hn', hvd, undefV]

def S_permRows1 (pg : Pg) : Prop := ∀ r : List Int, r.length ≤ 1048576 → Call pg 65 [ix r] [ix r] (B (!decide (isPermuted r)))
theorem t_permRows1 {pg : Pg} (hp : pg.fn 65 = some c_impl_permutationRows_1) (h66 : S_isPermuted pg) : S_permRows1 pg := by
  intro r hl
  refine Call.intro hp rfl (by simp) ?_
  show wp _ _ c_impl_permutationRows_1.body (post [.t 2] _ _ _) _
  simp [c_impl_permutationRows_1]
  refine callR (h66 _ hl) rfl rfl (fun _ => rfl) ?_
  simp

def permRows (t : List (List Int)) : Prop := ∀ r ∈ t, isPermuted r
instance (t : List (List Int)) : Decidable (permRows t) := by unfold permRows; infer_instance

def S_permRows (pg : Pg) : Prop := ∀ t : List (List Int), t.length ≤ 1048576 → (∀ r ∈ t, r.length ≤ 1048576) → Call pg 51 [tb t] [tb t] (B (decide (permRows t)))
theorem t_permRows {pg : Pg} (hp : pg.fn 51 = some c_impl_permutationRows) (h65 : S_permRows1 pg) (h63 : S_containsFunc pg) : S_permRows pg := by
  intro t hl hr
  refine Call.intro hp rfl (by simp) ?_
  show wp _ _ c_impl_permutationRows.body (post [.t 2] _ _ _) _
  simp [c_impl_permutationRows]
  refine callR (h63 t (fun r => !decide (isPermuted r)) 65 [] hl rfl rfl (fun r hm => h65 r (hr r hm))) rfl rfl (fun _ => rfl) ?_
  simp only [permRows]
  cases h : t.any fun r => !decide (isPermuted r) with
  | true =>
    obtain ⟨r, h1, h2⟩ := List.any_eq_true.1 h
    have : ¬ ∀ r, r ∈ t → isPermuted r := fun hh => by simp [hh r h1] at h2
    simp [this]
  | false =>
    have : ∀ r, r ∈ t → isPermuted r := fun r hr => by
      have := List.any_eq_false.1 h r hr
      simpa using this
    simp
    exact decide_eq_true this

def S_same (pg : Pg) : Prop := ∀ a b : List Int, a.length ≤ 1048576 → Call pg 67 [ix a, ix b] [ix a, ix b] (B (decide (a = b)))
theorem t_same {pg : Pg} (hp : pg.fn 67 = some c_spec_l01Same) : S_same pg := by
  intro a b ha
  refine Call.intro hp rfl (by simp) ?_
  show wp _ _ c_spec_l01Same.body (post [.t 4] _ _ _) _
  by_cases hl : a.length = b.length
  · simp [c_spec_l01Same, hl]
    refine wpLoop_count (fun k e => (∀ i, i < k → a[i]? = b[i]?) ∧ e = fr [(0, some (.val (ix a))), (1, some (.val (ix b))), (5, some (.val (I k)))]) a.length ?_ ?_ 0 _ (by omega) ?_
    · rintro k e hk ⟨h1, rfl⟩
      have hk2 : k < b.length := by omega
      by_cases hne : a[k] = b[k]
      · simp [hk, hk2, hne]
        refine ⟨by omega, fun i hi => ?_⟩
        rcases Nat.lt_or_ge i k with h2 | h2
        · exact h1 i h2
        · have : i = k := by omega
          subst this
          rw [List.getElem?_eq_getElem hk, List.getElem?_eq_getElem hk2, hne]
      · simp [hk, hk2, hne]
        intro h2
        exact hne (by simp [h2])
    · rintro e ⟨h1, rfl⟩
      simp [hl]
      apply List.ext_getElem?
      intro i
      rcases Nat.lt_or_ge i a.length with h2 | h2
      · exact h1 i h2
      · rw [List.getElem?_eq_none h2, List.getElem?_eq_none (by omega)]
    · exact ⟨fun i hi => by omega, by simp⟩
  · have : a ≠ b := fun h => hl (by rw [h])
    have h2 : (a.length : Int) ≠ b.length := by omega
    simp [c_spec_l01Same, h2, this]


abbrev sol (f s : List (List Int)) : T := .agg [tb f, tb s]
def isPairMap (f s : List (List Int)) : Prop := isTable f ∧ isTable s ∧ f.length = s.length
instance (f s : List (List Int)) : Decidable (isPairMap f s) := by unfold isPairMap; infer_instance

def fits (t : List (List Int)) : Prop := t.length ≤ 1048576 ∧ ∀ r ∈ t, r.length ≤ 1048576

def S_pairMap (pg : Pg) (n : Nat) : Prop := ∀ f s : List (List Int), fits f → fits s → Call pg n [sol f s] [sol f s] (B (decide (isPairMap f s)))
theorem t_l02Map {pg : Pg} (hp : pg.fn 56 = some c_spec_l02Map) (h46 : S_table pg 46) : S_pairMap pg 56 := by
  intro f s hf hs
  refine Call.intro hp rfl (by simp) ?_
  show wp _ _ c_spec_l02Map.body (post [.t 2] _ _ _) _
  simp [c_spec_l02Map]
  refine callR (h46 _ hf.1 hf.2) rfl rfl (fun _ => rfl) ?_
  by_cases h1 : isTable f
  · simp [h1]
    refine callR (h46 _ hs.1 hs.2) rfl rfl (fun _ => rfl) ?_
    by_cases h2 : isTable s
    · simp [h2, isPairMap, h1]
      omega
    · simp [h2, isPairMap, undefV]
  · simp [h1, isPairMap, undefV]
theorem t_isPairMap {pg : Pg} (hp : pg.fn 59 = some c_impl_IsPairMap) (h50 : S_table pg 50) : S_pairMap pg 59 := by
  intro f s hf hs
  refine Call.intro hp rfl (by simp) ?_
  show wp _ _ c_impl_IsPairMap.body (post [.t 2] _ _ _) _
  simp [c_impl_IsPairMap]
  refine callR (h50 _ hf.1 hf.2) rfl rfl (fun _ => rfl) ?_
  by_cases h1 : isTable f
  · simp [h1]
    refine callR (h50 _ hs.1 hs.2) rfl rfl (fun _ => rfl) ?_
    by_cases h2 : isTable s
    · simp [h2, isPairMap, h1]
      omega
    · simp [h2, isPairMap, undefV]
  · simp [h1, isPairMap, undefV]


def v2 (t : List (List Int)) (x y : Nat) : Int := (t.getD x []).getD y 0
theorem get_v2 {t : List (List Int)} {x y : Nat} (hx : x < t.length) (hy : y < (t[x]).length) : (t[x])[y] = v2 t x y := by
  simp [v2, List.getD_eq_getElem?_getD, hx, hy]
theorem Tab.row {t : List (List Int)} (h : Tab t) {x : Nat} (hx : x < t.length) : (t[x]).length = t.length := (h _ (List.getElem_mem hx)).1
theorem Tab.nonneg {t : List (List Int)} (h : Tab t) (x y : Nat) : 0 ≤ v2 t x y := by
  unfold v2
  rw [List.getD_eq_getElem?_getD, List.getD_eq_getElem?_getD]
  cases h1 : t[x]? with
  | none => simp
  | some r =>
    simp only [Option.getD_some]
    cases h2 : r[y]? with
    | none => simp
    | some v => exact ((h r (List.mem_of_getElem? h1)).2 v (List.mem_of_getElem? h2)).1
theorem Tab.lt {t : List (List Int)} (h : Tab t) (h0 : 0 < t.length) (x y : Nat) : v2 t x y < t.length := by
  unfold v2
  rw [List.getD_eq_getElem?_getD, List.getD_eq_getElem?_getD]
  cases h1 : t[x]? with
  | none => simp; omega
  | some r =>
    simp only [Option.getD_some]
    cases h2 : r[y]? with
    | none => simp; omega
    | some v => exact ((h r (List.mem_of_getElem? h1)).2 v (List.mem_of_getElem? h2)).2
theorem Tab.ltN {t : List (List Int)} (h : Tab t) (h0 : 0 < t.length) (x y : Nat) : (v2 t x y).toNat < t.length := by
  have := h.lt h0 x y
  have := h.nonneg x y
  omega

@[simp] theorem tdiv_nat (a b : Nat) : (a : Int).tdiv (b : Int) = ((a / b : Nat) : Int) := rfl
@[simp] theorem tmod_nat (a b : Nat) : (a : Int).tmod (b : Int) = ((a % b : Nat) : Int) := rfl

theorem least {P : Nat → Prop} {m : Nat} (h : ∃ k, k < m ∧ P k) : ∃ k, k < m ∧ P k ∧ ∀ i, i < k → ¬ P i := by
  obtain ⟨k, h1, h2⟩ := h
  induction k using Nat.strongRecOn with
  | _ k ih =>
    by_cases hh : ∃ i, i < k ∧ P i
    · obtain ⟨i, h3, h4⟩ := hh
      exact ih i h3 (by omega) h4
    · exact ⟨k, h1, h2, fun i hi hp => hh ⟨i, hi, hp⟩⟩

end Go.Mch
namespace Go.Mch

def ownI : Option (List Int) → T
  | none => nil
  | some xs => .mem .own (some 1) (xs.map I)

def up (k : Int) (n : Nat) : List Int := (List.range n).map fun i : Nat => k + i
@[simp] theorem up_length (k : Int) (n : Nat) : (up k n).length = n := by simp [up]

def held : List Int → Int → Int
  | [], k => k
  | x :: xs, k => if x = k then held xs (k + 1) else -1

theorem held_up : ∀ (n : Nat) (k : Int), held (up k n) k = k + n
  | 0, k => by simp [up, held]
  | n + 1, k => by
    have h : up k (n + 1) = k :: up (k + 1) n := by
      simp only [up, List.range_succ_eq_map, List.map_cons, List.map_map]
      congr 1
      · simp
      · apply List.map_congr_left
        intro i _
        simp only [Function.comp]
        omega
    rw [h, held, if_pos rfl, held_up n (k + 1)]
    omega

def S_heldI (pg : Pg) : Prop := ∀ (a : Rw Int) (k : Int), (lst a).length ≤ 1048576 → -1 ≤ k → k ≤ 4611686018427387904 → Call pg 13 [rawI a, I k] [rawI a, I k] (I (held (lst a) k))
def upto (k : Int) (xs : List Int) (j : Nat) : List Int := (List.range xs.length).map fun i : Nat => if i < j then k + i else xs.getD i 0
@[simp] theorem upto_length (k : Int) (xs : List Int) (j : Nat) : (upto k xs j).length = xs.length := by simp [upto]
def S_markI (pg : Pg) : Prop := ∀ (a : Option (List Int)) (k : Int), (lso a).length ≤ 1048576 → -1 ≤ k → k ≤ 4611686018427387904 → Call pg 12 [ownI a, I k] [ownI (a.map fun xs => up k xs.length), I k] (I (k + (lso a).length))
theorem S_markI.at {pg : Pg} (h : S_markI pg) (xs : List Int) (k : Int) (h1 : xs.length ≤ 1048576) (h2 : -1 ≤ k) (h3 : k ≤ 4611686018427387904) : Call pg 12 [.mem .own (some 1) (xs.map I), I k] [.mem .own (some 1) ((up k xs.length).map I), I k] (I (k + xs.length)) := h (some xs) k h1 h2 h3

def ownT : Option (List (List Int)) → T
  | none => nil
  | some xss => .mem .own (some 1) (rows xss)

def kAt (k : Int) (xss : List (List Int)) (j : Nat) : Int := k + ((xss.take j).map List.length).sum
def smallT (xss : List (List Int)) : Prop := xss.length ≤ 1048576 ∧ ∀ r ∈ xss, r.length ≤ 1048576

theorem kAt_zero (k : Int) (xss : List (List Int)) : kAt k xss 0 = k := by simp [kAt]
theorem kAt_succ (k : Int) (xss : List (List Int)) {j : Nat} (hj : j < xss.length) : kAt k xss (j + 1) = kAt k xss j + (xss[j]).length := by
  unfold kAt
  rw [List.take_succ_eq_append_getElem hj, List.map_append, List.sum_append]
  simp only [List.map_cons, List.map_nil, List.sum_cons, List.sum_nil, Int.natCast_add]
  omega
theorem kAt_le {k : Int} {xss : List (List Int)} (h : smallT xss) : ∀ j, j ≤ xss.length → k ≤ kAt k xss j ∧ kAt k xss j ≤ k + j * 1048576
  | 0, _ => by simp [kAt]
  | j + 1, hj => by
    have h1 := kAt_le (k := k) h j (by omega)
    have h2 := h.2 _ (List.getElem_mem (show j < xss.length by omega))
    rw [kAt_succ k xss (by omega)]
    simp only [Int.natCast_add]
    omega

def upT (k : Int) (xss : List (List Int)) : List (List Int) := (List.range xss.length).map fun j => up (kAt k xss j) (xss.getD j []).length
@[simp] theorem upT_length (k : Int) (xss : List (List Int)) : (upT k xss).length = xss.length := by simp [upT]
def uptoT (k : Int) (xss : List (List Int)) (j : Nat) : List (List Int) := (List.range xss.length).map fun i => if i < j then up (kAt k xss i) (xss.getD i []).length else xss.getD i []
@[simp] theorem uptoT_length (k : Int) (xss : List (List Int)) (j : Nat) : (uptoT k xss j).length = xss.length := by simp [uptoT]
def heldL : List (List Int) → Int → Int
  | [], k => k
  | r :: rs, k => if held r k < 0 then -1 else heldL rs (held r k)

theorem heldL_up : ∀ (n : Nat) (xss : List (List Int)) (k : Int) (j : Nat), 0 ≤ k → j + n = xss.length → heldL ((upT k xss).drop j) (kAt k xss j) = kAt k xss xss.length
  | 0, xss, k, j, _, h => by
    have : j = xss.length := by omega
    subst this
    have : (upT k xss).drop xss.length = [] := by rw [List.drop_eq_nil_iff]; simp
    rw [this]; rfl
  | n + 1, xss, k, j, hk, h => by
    have hj : j < xss.length := by omega
    have hd : (upT k xss).drop j = (upT k xss)[j]'(by simpa using hj) :: (upT k xss).drop (j + 1) := List.drop_eq_getElem_cons (by simpa using hj)
    have hg : (upT k xss)[j]'(by simpa using hj) = up (kAt k xss j) (xss[j]).length := by
      simp [upT, List.getD_eq_getElem?_getD, List.getElem?_eq_getElem hj]
    have hp : 0 ≤ kAt k xss j := by unfold kAt; omega
    rw [hd, hg, heldL, held_up, if_neg (by omega), ← kAt_succ k xss hj]
    exact heldL_up n xss k (j + 1) hk (by omega)
theorem heldL_all (xss : List (List Int)) (k : Int) (hk : 0 ≤ k) : heldL (upT k xss) k = kAt k xss xss.length := by
  have := heldL_up xss.length xss k 0 hk (by omega)
  rwa [kAt_zero, List.drop_zero] at this

def S_heldT (pg : Pg) : Prop := ∀ (a : Rw (Rw Int)) (k : Int), small a → -1 ≤ k → k ≤ 2305843009213693952 → Call pg 24 [rawT a, I k] [rawT a, I k] (I (heldL ((lst a).map lst) k))
def S_markT (pg : Pg) : Prop := ∀ (a : Option (List (List Int))) (k : Int), smallT (lso a) → 0 ≤ k → k ≤ 2305843009213693952 → Call pg 23 [ownT a, I k] [ownT (a.map (upT k)), I k] (I (kAt k (lso a) (lso a).length))
theorem S_markT.at {pg : Pg} (h : S_markT pg) (xss : List (List Int)) (k : Int) (h1 : smallT xss) (h2 : 0 ≤ k) (h3 : k ≤ 2305843009213693952) : Call pg 23 [.mem .own (some 1) (rows xss), I k] [.mem .own (some 1) (rows (upT k xss)), I k] (I (kAt k xss xss.length)) := h (some xss) k h1 h2 h3
end Go.Mch
namespace Go.Mch

def coll (f s : List (List Int)) (a b : Nat) : Prop :=
  a ≠ b ∧ v2 f (a / f.length) (a % f.length) = v2 f (b / f.length) (b % f.length) ∧ v2 s (a / f.length) (a % f.length) = v2 s (b / f.length) (b % f.length)
def Inj (f s : List (List Int)) : Prop := ∀ a, a < f.length * f.length → ∀ b, b < f.length * f.length → ¬ coll f s a b
instance (f s : List (List Int)) (a b : Nat) : Decidable (coll f s a b) := by unfold coll; infer_instance
instance (f s : List (List Int)) : Decidable (Inj f s) := by unfold Inj; infer_instance

structure PM (f s : List (List Int)) : Prop where
  tf : Tab f
  ts : Tab s
  len : s.length = f.length
  pos : 0 < f.length
  small : f.length ≤ 12
theorem PM.of {f s : List (List Int)} (h : isPairMap f s) : PM f s := ⟨h.1.2.2, h.2.1.2.2, h.2.2.symm, h.1.1, h.1.2.1⟩

theorem dm_lt {n a : Nat} (h : a < n * n) : a / n < n ∧ a % n < n := by
  have hn : 0 < n := by
    rcases Nat.eq_zero_or_pos n with h0 | h0
    · subst h0; simp at h
    · exact h0
  exact ⟨Nat.div_lt_of_lt_mul h, Nat.mod_lt _ hn⟩

def S_coll57 (pg : Pg) : Prop := ∀ f s : List (List Int), PM f s → ∃ l : List Int, (l.length = 0 ↔ Inj f s) ∧ l.length ≤ 4 ∧ Call pg 57 [sol f s] [sol f s] (.mem .own (some 1) (l.map I))
set_option maxRecDepth 10000 in
theorem t_coll57 {pg : Pg} (hp : pg.fn 57 = some c_spec_l02Collision) : S_coll57 pg := by
  intro f s h
  have h0 := h.pos
  have h12 := h.small
  have h0' : f.length ≠ 0 := by omega
  have hsq : f.length * f.length ≤ 144 := Nat.mul_le_mul h12 h12
  have hsq' : ((f.length : Int) * f.length) ≤ 144 := by exact_mod_cast hsq
  have hsq0 : 0 ≤ ((f.length : Int) * f.length) := by exact_mod_cast Nat.zero_le _
  have fr' := fun x hx => h.tf.row (x := x) hx
  have sr' : ∀ x (hx : x < s.length), (s[x]).length = f.length := fun x hx => (h.ts.row hx).trans h.len
  have loop : ∀ (a b : Nat), a < f.length * f.length → b < f.length * f.length → coll f s a b → True := fun _ _ _ _ _ => trivial
  by_cases hex : ∃ a, a < f.length * f.length ∧ ∃ b, b < f.length * f.length ∧ coll f s a b
  · obtain ⟨a, ha, hb, hmin⟩ := least hex
    obtain ⟨b, hb, hc, hmin2⟩ := least hb
    have hni : ¬ Inj f s := fun hi => hi a ha b hb hc
    refine ⟨[((a / f.length : Nat) : Int), ((a % f.length : Nat) : Int), ((b / f.length : Nat) : Int), ((b % f.length : Nat) : Int)], by simp [hni], by simp, Call.intro hp rfl (by simp) ?_⟩
    show wp _ _ c_spec_l02Collision.body (post [.t 2] _ _ _) _
    simp [c_spec_l02Collision]
    refine wpLoop_count (fun k e => k ≤ a ∧ e = fr [(1, some (.val (.mem .own none [tb f, tb s]))), (3, some (.val (I f.length))), (4, some (.val (I k)))]) (f.length * f.length) ?_ ?_ 0 _ (by omega) ?_
    · rintro k e hk ⟨h1, rfl⟩
      have hk1 := dm_lt hk
      have hki : (k : Int) < (f.length : Int) * f.length := by exact_mod_cast hk
      have hq1 : 0 ≤ (k : Int) / f.length ∧ (k : Int) / f.length < f.length := ⟨by exact_mod_cast Nat.zero_le _, by exact_mod_cast hk1.1⟩
      have hr1 : 0 ≤ (k : Int) % f.length ∧ (k : Int) % f.length < f.length := ⟨by exact_mod_cast Nat.zero_le _, by exact_mod_cast hk1.2⟩
      have ht1 : ((k : Int) / f.length).toNat = k / f.length := by rw [← Int.natCast_ediv]; exact Int.toNat_natCast _
      have hu1 : ((k : Int) % f.length).toNat = k % f.length := by rw [← Int.natCast_emod]; exact Int.toNat_natCast _
      simp [hki]
      refine ⟨by omega, ?_⟩
      rcases Nat.lt_or_ge k a with hka | hka
      · refine wpLoop_count (fun j e => e = fr [(1, some (.val (.mem .own none [tb f, tb s]))), (3, some (.val (I f.length))), (4, some (.val (I k))), (5, some (.val (I j)))]) (f.length * f.length) ?_ ?_ 0 _ (by omega) ?_
        · rintro j e hj rfl
          have hj1 := dm_lt hj
          have hji : (j : Int) < (f.length : Int) * f.length := by exact_mod_cast hj
          have hq2 : 0 ≤ (j : Int) / f.length ∧ (j : Int) / f.length < f.length := ⟨by exact_mod_cast Nat.zero_le _, by exact_mod_cast hj1.1⟩
          have hr2 : 0 ≤ (j : Int) % f.length ∧ (j : Int) % f.length < f.length := ⟨by exact_mod_cast Nat.zero_le _, by exact_mod_cast hj1.2⟩
          have ht2 : ((j : Int) / f.length).toNat = j / f.length := by rw [← Int.natCast_ediv]; exact Int.toNat_natCast _
          have hu2 : ((j : Int) % f.length).toNat = j % f.length := by rw [← Int.natCast_emod]; exact Int.toNat_natCast _
          have hnc : ¬ coll f s k j := fun hcc => hmin k hka ⟨j, hj, hcc⟩
          by_cases hkj : k = j
          · subst hkj
            clear hj hj1 hnc
            simp [hji, h0', undefV]
            omega
          · have hkjI : (k : Int) ≠ j := by omega
            by_cases hv1 : v2 f (k / f.length) (k % f.length) = v2 f (j / f.length) (j % f.length)
            · by_cases hv2 : v2 s (k / f.length) (k % f.length) = v2 s (j / f.length) (j % f.length)
              · have hcc : coll f s k j := ⟨hkj, hv1, hv2⟩
                exact (hnc hcc).elim
              · simp [hkjI, hk1, hj1, hq1, hq2, hr1, hr2, ht1, ht2, hu1, hu2, hji, h0', fr', sr', h.len, get_v2, hv1, hv2]
                omega
            · simp [hkjI, hk1, hj1, hq1, hq2, hr1, hr2, ht1, ht2, hu1, hu2, hji, h0', fr', get_v2, undefV, hv1]
              omega
        · rintro e rfl
          simp
          omega
        · simp
      · have hka2 : k = a := by omega
        subst hka2
        refine wpLoop_count (fun j e => j ≤ b ∧ e = fr [(1, some (.val (.mem .own none [tb f, tb s]))), (3, some (.val (I f.length))), (4, some (.val (I k))), (5, some (.val (I j)))]) (f.length * f.length) ?_ ?_ 0 _ (by omega) ?_
        · rintro j e hj ⟨hjb, rfl⟩
          have hj1 := dm_lt hj
          have hji : (j : Int) < (f.length : Int) * f.length := by exact_mod_cast hj
          have hq2 : 0 ≤ (j : Int) / f.length ∧ (j : Int) / f.length < f.length := ⟨by exact_mod_cast Nat.zero_le _, by exact_mod_cast hj1.1⟩
          have hr2 : 0 ≤ (j : Int) % f.length ∧ (j : Int) % f.length < f.length := ⟨by exact_mod_cast Nat.zero_le _, by exact_mod_cast hj1.2⟩
          have ht2 : ((j : Int) / f.length).toNat = j / f.length := by rw [← Int.natCast_ediv]; exact Int.toNat_natCast _
          have hu2 : ((j : Int) % f.length).toNat = j % f.length := by rw [← Int.natCast_emod]; exact Int.toNat_natCast _
          rcases Nat.lt_or_ge j b with hlt | hge
          · have hnc : ¬ coll f s k j := hmin2 j hlt
            by_cases hkj : k = j
            · subst hkj
              clear hj hj1 hnc
              simp [hji, h0', undefV]
              omega
            · have hkjI : (k : Int) ≠ j := by omega
              by_cases hv1 : v2 f (k / f.length) (k % f.length) = v2 f (j / f.length) (j % f.length)
              · by_cases hv2 : v2 s (k / f.length) (k % f.length) = v2 s (j / f.length) (j % f.length)
                · have hcc : coll f s k j := ⟨hkj, hv1, hv2⟩
                  exact (hnc hcc).elim
                · simp [hkjI, hk1, hj1, hq1, hq2, hr1, hr2, ht1, ht2, hu1, hu2, hji, h0', fr', sr', h.len, get_v2, hv1, hv2]
                  omega
              · simp [hkjI, hk1, hj1, hq1, hq2, hr1, hr2, ht1, ht2, hu1, hu2, hji, h0', fr', get_v2, undefV, hv1]
                omega
          · have hjb2 : j = b := by omega
            subst hjb2
            obtain ⟨hkj, hv1, hv2⟩ := hc
            have hkjI : (k : Int) ≠ j := by omega
            simp [hkjI, hk1, hj1, hq1, hq2, hr1, hr2, ht1, ht2, hu1, hu2, hji, h0', fr', sr', h.len, get_v2, hv1, hv2]
            try omega
        · rintro e ⟨h1, rfl⟩
          omega
        · simp
    · rintro e ⟨h1, rfl⟩
      omega
    · simp
  · have hi : Inj f s := fun a ha b hb hc => hex ⟨a, ha, b, hb, hc⟩
    refine ⟨[], by simp [hi], by simp, Call.intro hp rfl (by simp) ?_⟩
    show wp _ _ c_spec_l02Collision.body (post [.t 2] _ _ _) _
    simp [c_spec_l02Collision]
    refine wpLoop_count (fun k e => e = fr [(1, some (.val (.mem .own none [tb f, tb s]))), (3, some (.val (I f.length))), (4, some (.val (I k)))]) (f.length * f.length) ?_ ?_ 0 _ (by omega) ?_
    · rintro k e hk rfl
      have hk1 := dm_lt hk
      have hki : (k : Int) < (f.length : Int) * f.length := by exact_mod_cast hk
      have hq1 : 0 ≤ (k : Int) / f.length ∧ (k : Int) / f.length < f.length := ⟨by exact_mod_cast Nat.zero_le _, by exact_mod_cast hk1.1⟩
      have hr1 : 0 ≤ (k : Int) % f.length ∧ (k : Int) % f.length < f.length := ⟨by exact_mod_cast Nat.zero_le _, by exact_mod_cast hk1.2⟩
      have ht1 : ((k : Int) / f.length).toNat = k / f.length := by rw [← Int.natCast_ediv]; exact Int.toNat_natCast _
      have hu1 : ((k : Int) % f.length).toNat = k % f.length := by rw [← Int.natCast_emod]; exact Int.toNat_natCast _
      simp [hki]
      refine ⟨by omega, ?_⟩
      refine wpLoop_count (fun j e => e = fr [(1, some (.val (.mem .own none [tb f, tb s]))), (3, some (.val (I f.length))), (4, some (.val (I k))), (5, some (.val (I j)))]) (f.length * f.length) ?_ ?_ 0 _ (by omega) ?_
      · rintro j e hj rfl
        have hj1 := dm_lt hj
        have hji : (j : Int) < (f.length : Int) * f.length := by exact_mod_cast hj
        have hq2 : 0 ≤ (j : Int) / f.length ∧ (j : Int) / f.length < f.length := ⟨by exact_mod_cast Nat.zero_le _, by exact_mod_cast hj1.1⟩
        have hr2 : 0 ≤ (j : Int) % f.length ∧ (j : Int) % f.length < f.length := ⟨by exact_mod_cast Nat.zero_le _, by exact_mod_cast hj1.2⟩
        have ht2 : ((j : Int) / f.length).toNat = j / f.length := by rw [← Int.natCast_ediv]; exact Int.toNat_natCast _
        have hu2 : ((j : Int) % f.length).toNat = j % f.length := by rw [← Int.natCast_emod]; exact Int.toNat_natCast _
        have hnc : ¬ coll f s k j := hi k hk j hj
        by_cases hkj : k = j
        · subst hkj
          clear hj hj1 hnc
          simp [hji, h0', undefV]
          omega
        · have hkjI : (k : Int) ≠ j := by omega
          by_cases hv1 : v2 f (k / f.length) (k % f.length) = v2 f (j / f.length) (j % f.length)
          · by_cases hv2 : v2 s (k / f.length) (k % f.length) = v2 s (j / f.length) (j % f.length)
            · have hcc : coll f s k j := ⟨hkj, hv1, hv2⟩
              exact (hnc hcc).elim
            · simp [hkjI, hk1, hj1, hq1, hq2, hr1, hr2, ht1, ht2, hu1, hu2, hji, h0', fr', sr', h.len, get_v2, hv1, hv2]
              omega
          · simp [hkjI, hk1, hj1, hq1, hq2, hr1, hr2, ht1, ht2, hu1, hu2, hji, h0', fr', get_v2, undefV, hv1]
            omega
      · rintro e rfl
        simp
        omega
      · simp
    · rintro e rfl
      simp
      try omega
    · simp

def S_coll60 (pg : Pg) : Prop := ∀ f s : List (List Int), PM f s → ∃ o : Option (List Int), (o = none ↔ Inj f s) ∧ Call pg 60 [sol f s] [sol f s] (ownI o)
set_option maxRecDepth 10000 in
theorem t_coll60 {pg : Pg} (hp : pg.fn 60 = some c_impl_collisionOf) : S_coll60 pg := by
  intro f s h
  have h0 := h.pos
  have h12 := h.small
  have h0' : f.length ≠ 0 := by omega
  have hsq : f.length * f.length ≤ 144 := Nat.mul_le_mul h12 h12
  have hsq' : ((f.length : Int) * f.length) ≤ 144 := by exact_mod_cast hsq
  have hsq0 : 0 ≤ ((f.length : Int) * f.length) := by exact_mod_cast Nat.zero_le _
  have fr' := fun x hx => h.tf.row (x := x) hx
  have sr' : ∀ x (hx : x < s.length), (s[x]).length = f.length := fun x hx => (h.ts.row hx).trans h.len
  have loop : ∀ (a b : Nat), a < f.length * f.length → b < f.length * f.length → coll f s a b → True := fun _ _ _ _ _ => trivial
  by_cases hex : ∃ a, a < f.length * f.length ∧ ∃ b, b < f.length * f.length ∧ coll f s a b
  · obtain ⟨a, ha, hb, hmin⟩ := least hex
    obtain ⟨b, hb, hc, hmin2⟩ := least hb
    have hni : ¬ Inj f s := fun hi => hi a ha b hb hc
    refine ⟨some [((a / f.length : Nat) : Int), ((a % f.length : Nat) : Int), ((b / f.length : Nat) : Int), ((b % f.length : Nat) : Int)], by simp [hni], Call.intro hp rfl (by simp) ?_⟩
    simp only [ownI]
    show wp _ _ c_impl_collisionOf.body (post [.t 2] _ _ _) _
    simp [c_impl_collisionOf]
    refine ⟨by omega, ?_⟩
    refine wpLoop_count (fun k e => k ≤ a ∧ e = fr [(1, some (.val (.mem .own none [tb f, tb s]))), (3, some (.val (I f.length))), (15, some (.val (I ((f.length : Int) * f.length)))), (16, some (.val (I k)))]) (f.length * f.length) ?_ ?_ 0 _ (by omega) ?_
    · rintro k e hk ⟨h1, rfl⟩
      have hk1 := dm_lt hk
      have hki : (k : Int) < (f.length : Int) * f.length := by exact_mod_cast hk
      have hq1 : 0 ≤ (k : Int) / f.length ∧ (k : Int) / f.length < f.length := ⟨by exact_mod_cast Nat.zero_le _, by exact_mod_cast hk1.1⟩
      have hr1 : 0 ≤ (k : Int) % f.length ∧ (k : Int) % f.length < f.length := ⟨by exact_mod_cast Nat.zero_le _, by exact_mod_cast hk1.2⟩
      have ht1 : ((k : Int) / f.length).toNat = k / f.length := by rw [← Int.natCast_ediv]; exact Int.toNat_natCast _
      have hu1 : ((k : Int) % f.length).toNat = k % f.length := by rw [← Int.natCast_emod]; exact Int.toNat_natCast _
      simp [hki, h0']
      refine ⟨by omega, by omega, ?_⟩
      rcases Nat.lt_or_ge k a with hka | hka
      · refine wpLoop_count (fun j e => e = fr [(1, some (.val (.mem .own none [tb f, tb s]))), (3, some (.val (I f.length))), (4, some (.val (I k))), (5, some (.val (I ((k / f.length : Nat) : Int)))), (6, some (.val (I ((k % f.length : Nat) : Int)))), (15, some (.val (I ((f.length : Int) * f.length)))), (16, some (.val (I k))), (27, some (.val (I ((f.length : Int) * f.length)))), (28, some (.val (I j)))]) (f.length * f.length) ?_ ?_ 0 _ (by omega) ?_
        · rintro j e hj rfl
          have hj1 := dm_lt hj
          have hji : (j : Int) < (f.length : Int) * f.length := by exact_mod_cast hj
          have hq2 : 0 ≤ (j : Int) / f.length ∧ (j : Int) / f.length < f.length := ⟨by exact_mod_cast Nat.zero_le _, by exact_mod_cast hj1.1⟩
          have hr2 : 0 ≤ (j : Int) % f.length ∧ (j : Int) % f.length < f.length := ⟨by exact_mod_cast Nat.zero_le _, by exact_mod_cast hj1.2⟩
          have ht2 : ((j : Int) / f.length).toNat = j / f.length := by rw [← Int.natCast_ediv]; exact Int.toNat_natCast _
          have hu2 : ((j : Int) % f.length).toNat = j % f.length := by rw [← Int.natCast_emod]; exact Int.toNat_natCast _
          have hnc : ¬ coll f s k j := fun hcc => hmin k hka ⟨j, hj, hcc⟩
          by_cases hkj : k = j
          · subst hkj
            clear hj hj1 hnc
            simp [hji, h0', undefV]
            omega
          · have hkjI : (k : Int) ≠ j := by omega
            by_cases hv1 : v2 f (k / f.length) (k % f.length) = v2 f (j / f.length) (j % f.length)
            · by_cases hv2 : v2 s (k / f.length) (k % f.length) = v2 s (j / f.length) (j % f.length)
              · have hcc : coll f s k j := ⟨hkj, hv1, hv2⟩
                exact (hnc hcc).elim
              · simp [hkjI, hk1, hj1, hq1, hq2, hr1, hr2, ht1, ht2, hu1, hu2, hji, h0', fr', sr', h.len, get_v2, hv1, hv2]
                omega
            · simp [hkjI, hk1, hj1, hq1, hq2, hr1, hr2, ht1, ht2, hu1, hu2, hji, h0', fr', get_v2, undefV, hv1]
              omega
        · rintro e rfl
          simp
          omega
        · simp
      · have hka2 : k = a := by omega
        subst hka2
        refine wpLoop_count (fun j e => j ≤ b ∧ e = fr [(1, some (.val (.mem .own none [tb f, tb s]))), (3, some (.val (I f.length))), (4, some (.val (I k))), (5, some (.val (I ((k / f.length : Nat) : Int)))), (6, some (.val (I ((k % f.length : Nat) : Int)))), (15, some (.val (I ((f.length : Int) * f.length)))), (16, some (.val (I k))), (27, some (.val (I ((f.length : Int) * f.length)))), (28, some (.val (I j)))]) (f.length * f.length) ?_ ?_ 0 _ (by omega) ?_
        · rintro j e hj ⟨hjb, rfl⟩
          have hj1 := dm_lt hj
          have hji : (j : Int) < (f.length : Int) * f.length := by exact_mod_cast hj
          have hq2 : 0 ≤ (j : Int) / f.length ∧ (j : Int) / f.length < f.length := ⟨by exact_mod_cast Nat.zero_le _, by exact_mod_cast hj1.1⟩
          have hr2 : 0 ≤ (j : Int) % f.length ∧ (j : Int) % f.length < f.length := ⟨by exact_mod_cast Nat.zero_le _, by exact_mod_cast hj1.2⟩
          have ht2 : ((j : Int) / f.length).toNat = j / f.length := by rw [← Int.natCast_ediv]; exact Int.toNat_natCast _
          have hu2 : ((j : Int) % f.length).toNat = j % f.length := by rw [← Int.natCast_emod]; exact Int.toNat_natCast _
          rcases Nat.lt_or_ge j b with hlt | hge
          · have hnc : ¬ coll f s k j := hmin2 j hlt
            by_cases hkj : k = j
            · subst hkj
              clear hj hj1 hnc
              simp [hji, h0', undefV]
              omega
            · have hkjI : (k : Int) ≠ j := by omega
              by_cases hv1 : v2 f (k / f.length) (k % f.length) = v2 f (j / f.length) (j % f.length)
              · by_cases hv2 : v2 s (k / f.length) (k % f.length) = v2 s (j / f.length) (j % f.length)
                · have hcc : coll f s k j := ⟨hkj, hv1, hv2⟩
                  exact (hnc hcc).elim
                · simp [hkjI, hk1, hj1, hq1, hq2, hr1, hr2, ht1, ht2, hu1, hu2, hji, h0', fr', sr', h.len, get_v2, hv1, hv2]
                  omega
              · simp [hkjI, hk1, hj1, hq1, hq2, hr1, hr2, ht1, ht2, hu1, hu2, hji, h0', fr', get_v2, undefV, hv1]
                omega
          · have hjb2 : j = b := by omega
            subst hjb2
            obtain ⟨hkj, hv1, hv2⟩ := hc
            have hkjI : (k : Int) ≠ j := by omega
            simp [hkjI, hk1, hj1, hq1, hq2, hr1, hr2, ht1, ht2, hu1, hu2, hji, h0', fr', sr', h.len, get_v2, hv1, hv2]
            try omega
        · rintro e ⟨h1, rfl⟩
          omega
        · simp
    · rintro e ⟨h1, rfl⟩
      omega
    · simp
  · have hi : Inj f s := fun a ha b hb hc => hex ⟨a, ha, b, hb, hc⟩
    refine ⟨none, by simp [hi], Call.intro hp rfl (by simp) ?_⟩
    simp only [ownI]
    show wp _ _ c_impl_collisionOf.body (post [.t 2] _ _ _) _
    simp [c_impl_collisionOf]
    refine ⟨by omega, ?_⟩
    refine wpLoop_count (fun k e => e = fr [(1, some (.val (.mem .own none [tb f, tb s]))), (3, some (.val (I f.length))), (15, some (.val (I ((f.length : Int) * f.length)))), (16, some (.val (I k)))]) (f.length * f.length) ?_ ?_ 0 _ (by omega) ?_
    · rintro k e hk rfl
      have hk1 := dm_lt hk
      have hki : (k : Int) < (f.length : Int) * f.length := by exact_mod_cast hk
      have hq1 : 0 ≤ (k : Int) / f.length ∧ (k : Int) / f.length < f.length := ⟨by exact_mod_cast Nat.zero_le _, by exact_mod_cast hk1.1⟩
      have hr1 : 0 ≤ (k : Int) % f.length ∧ (k : Int) % f.length < f.length := ⟨by exact_mod_cast Nat.zero_le _, by exact_mod_cast hk1.2⟩
      have ht1 : ((k : Int) / f.length).toNat = k / f.length := by rw [← Int.natCast_ediv]; exact Int.toNat_natCast _
      have hu1 : ((k : Int) % f.length).toNat = k % f.length := by rw [← Int.natCast_emod]; exact Int.toNat_natCast _
      simp [hki, h0']
      refine ⟨by omega, by omega, ?_⟩
      refine wpLoop_count (fun j e => e = fr [(1, some (.val (.mem .own none [tb f, tb s]))), (3, some (.val (I f.length))), (4, some (.val (I k))), (5, some (.val (I ((k / f.length : Nat) : Int)))), (6, some (.val (I ((k % f.length : Nat) : Int)))), (15, some (.val (I ((f.length : Int) * f.length)))), (16, some (.val (I k))), (27, some (.val (I ((f.length : Int) * f.length)))), (28, some (.val (I j)))]) (f.length * f.length) ?_ ?_ 0 _ (by omega) ?_
      · rintro j e hj rfl
        have hj1 := dm_lt hj
        have hji : (j : Int) < (f.length : Int) * f.length := by exact_mod_cast hj
        have hq2 : 0 ≤ (j : Int) / f.length ∧ (j : Int) / f.length < f.length := ⟨by exact_mod_cast Nat.zero_le _, by exact_mod_cast hj1.1⟩
        have hr2 : 0 ≤ (j : Int) % f.length ∧ (j : Int) % f.length < f.length := ⟨by exact_mod_cast Nat.zero_le _, by exact_mod_cast hj1.2⟩
        have ht2 : ((j : Int) / f.length).toNat = j / f.length := by rw [← Int.natCast_ediv]; exact Int.toNat_natCast _
        have hu2 : ((j : Int) % f.length).toNat = j % f.length := by rw [← Int.natCast_emod]; exact Int.toNat_natCast _
        have hnc : ¬ coll f s k j := hi k hk j hj
        by_cases hkj : k = j
        · subst hkj
          clear hj hj1 hnc
          simp [hji, h0', undefV]
          omega
        · have hkjI : (k : Int) ≠ j := by omega
          by_cases hv1 : v2 f (k / f.length) (k % f.length) = v2 f (j / f.length) (j % f.length)
          · by_cases hv2 : v2 s (k / f.length) (k % f.length) = v2 s (j / f.length) (j % f.length)
            · have hcc : coll f s k j := ⟨hkj, hv1, hv2⟩
              exact (hnc hcc).elim
            · simp [hkjI, hk1, hj1, hq1, hq2, hr1, hr2, ht1, ht2, hu1, hu2, hji, h0', fr', sr', h.len, get_v2, hv1, hv2]
              omega
          · simp [hkjI, hk1, hj1, hq1, hq2, hr1, hr2, ht1, ht2, hu1, hu2, hji, h0', fr', get_v2, undefV, hv1]
            omega
      · rintro e rfl
        simp
        omega
      · simp
    · rintro e rfl
      simp
      try omega
    · simp


end Go.Mch
namespace Go.Mch

def g2 (t : List (List Int)) (x y : Int) : Int := v2 t x.toNat y.toNat
theorem get_g2 {t : List (List Int)} {x y : Int} (hx : x.toNat < t.length) (hy : y.toNat < (t[x.toNat]).length) : (t[x.toNat])[y.toNat] = g2 t x y := get_v2 hx hy
def inN (n : Nat) (w : List Int) : Prop := ∀ x ∈ w, 0 ≤ x ∧ x < n
theorem PM.gF {f s : List (List Int)} (h : PM f s) (x y : Int) : 0 ≤ g2 f x y ∧ g2 f x y < f.length := ⟨h.tf.nonneg _ _, h.tf.lt h.pos _ _⟩
theorem PM.gS {f s : List (List Int)} (h : PM f s) (x y : Int) : 0 ≤ g2 s x y ∧ g2 s x y < f.length := ⟨h.ts.nonneg _ _, by have := h.ts.lt (by rw [h.len]; exact h.pos) x.toNat y.toNat; rw [h.len] at this; exact this⟩

def dW (f s : List (List Int)) (w : List Int) (i : Nat) : List Int :=
  (w.set i (g2 f (w.getD i 0) (w.getD (i + 1) 0))).set (i + 1) (g2 s (w.getD i 0) (w.getD (i + 1) 0))
@[simp] theorem dW_length (f s : List (List Int)) (w : List Int) (i : Nat) : (dW f s w i).length = w.length := by simp [dW]
theorem set_in {n : Nat} {w : List Int} (h : inN n w) {i : Nat} {v : Int} (hv : 0 ≤ v ∧ v < n) : inN n (w.set i v) := by
  intro x hx
  rcases List.mem_or_eq_of_mem_set hx with h1 | h1
  · exact h x h1
  · rw [h1]; exact hv
theorem dW_in {f s : List (List Int)} (h : PM f s) {w : List Int} (hw : inN f.length w) (i : Nat) : inN f.length (dW f s w i) := set_in (set_in hw (h.gF _ _)) (h.gS _ _)

def S_do (pg : Pg) (n : Nat) : Prop := ∀ (f s : List (List Int)) (w : List Int) (i : Nat), PM f s → i + 1 < w.length → w.length ≤ 1048576 → inN f.length w →
  Call pg n [sol f s, ix w, I i] [sol f s, ix w, I i] (.mem .own (some 1) ((dW f s w i).map I))
set_option maxRecDepth 10000 in
theorem do_of {pg : Pg} {n : Nat} (hp : pg.fn n = some c_spec_l02Do) (h31 : S_own pg) : S_do pg n := by
  intro f s w i h hi hl hw
  refine Call.intro hp rfl (by simp) ?_
  show wp _ _ c_spec_l02Do.body (post [.t 6] _ _ _) _
  have h1 := hw _ (List.getElem_mem (show i < w.length by omega))
  have h2 := hw _ (List.getElem_mem hi)
  have fr' := fun x hx => h.tf.row (x := x) hx
  have sr' : ∀ x (hx : x < s.length), (s[x]).length = f.length := fun x hx => (h.ts.row hx).trans h.len
  have hi0 : i < w.length := by omega
  have hiI : (i : Int) + 1 < w.length := by omega
  have e1 : ((i : Int) + 1).toNat = i + 1 := by omega
  have t1 : (w[i]).toNat < f.length := by omega
  have t2 : (w[i + 1]).toNat < f.length := by omega
  have hb : -9223372036854775808 ≤ (i : Int) + 1 ∧ (i : Int) + 1 ≤ 9223372036854775807 := by omega
  have hb0 : 0 ≤ (i : Int) + 1 := by omega
  simp [c_spec_l02Do]
  refine callR (h31 _ hl) rfl rfl (fun _ => by simp) ?_
  simp [hi, hb, hb0, hi0, hiI, e1, h1, h2, t1, t2, fr', sr', h.len, get_g2]
  refine ⟨by omega, by omega, ?_⟩
  simp [dW, hi0, hi]

def ybAt (f s : List (List Int)) (x y z : Nat) : Prop := dW f s (dW f s (dW f s [(x : Int), y, z] 0) 1) 0 = dW f s (dW f s (dW f s [(x : Int), y, z] 1) 0) 1
def YB (f s : List (List Int)) : Prop := ∀ x y z : Nat, x < f.length → y < f.length → z < f.length → ybAt f s x y z
instance (f s : List (List Int)) (x y z : Nat) : Decidable (ybAt f s x y z) := by unfold ybAt; infer_instance

theorem first3 (P : Nat → Nat → Nat → Prop) (n : Nat) : (∀ x y z, x < n → y < n → z < n → ¬ P x y z) ∨
    ∃ a b c, a < n ∧ b < n ∧ c < n ∧ P a b c ∧ ∀ x y z, x < n → y < n → z < n → P x y z → a < x ∨ (a = x ∧ (b < y ∨ (b = y ∧ c ≤ z))) := by
  by_cases h : ∃ a, a < n ∧ ∃ b, b < n ∧ ∃ c, c < n ∧ P a b c
  · right
    obtain ⟨a, ha, hb, h1⟩ := least h
    obtain ⟨b, hb, hc, h2⟩ := least hb
    obtain ⟨c, hc, hp, h3⟩ := least hc
    refine ⟨a, b, c, ha, hb, hc, hp, fun x y z hx hy hz hq => ?_⟩
    rcases Nat.lt_trichotomy a x with g | g | g
    · exact .inl g
    · subst g
      right
      refine ⟨rfl, ?_⟩
      rcases Nat.lt_trichotomy b y with g | g | g
      · exact .inl g
      · subst g
        right
        refine ⟨rfl, ?_⟩
        rcases Nat.lt_or_ge z c with g | g
        · exact absurd hq (h3 z g)
        · exact g
      · exact absurd ⟨z, hz, hq⟩ (h2 y g)
    · exact absurd ⟨y, hy, z, hz, hq⟩ (h1 x g)
  · left
    intro x y z hx hy hz hp
    exact h ⟨x, hx, y, hy, z, hz, hp⟩

theorem fault (f s : List (List Int)) : ∃ (a b c : Nat) (l : List Int), (l.length = 0 ↔ YB f s) ∧ (a < f.length → l = [(a : Int), b, c] ∧ b < f.length ∧ c < f.length ∧ ¬ ybAt f s a b c) ∧ (¬ a < f.length → a = f.length ∧ l = []) ∧ l.length ≤ 3 ∧
    ∀ x y z, x < f.length → y < f.length → z < f.length → ¬ ybAt f s x y z → a < x ∨ (a = x ∧ (b < y ∨ (b = y ∧ c ≤ z))) := by
  rcases first3 (fun x y z => ¬ ybAt f s x y z) f.length with h | ⟨a, b, c, ha, hb, hc, hp, h⟩
  · refine ⟨f.length, 0, 0, [], ⟨fun _ x y z hx hy hz => ?_, fun _ => rfl⟩, fun h => absurd h (Nat.lt_irrefl _), fun _ => ⟨rfl, rfl⟩, by simp, fun x y z hx hy hz hn => absurd hn (h x y z hx hy hz)⟩
    exact Decidable.of_not_not (h x y z hx hy hz)
  · exact ⟨a, b, c, [(a : Int), b, c], ⟨fun h => by simp at h, fun h => absurd (h a b c ha hb hc) hp⟩, fun _ => ⟨rfl, hb, hc, hp⟩, fun h => absurd ha h, by simp, h⟩

def S_fault58 (pg : Pg) : Prop := ∀ f s : List (List Int), PM f s → ∃ l : List Int, (l.length = 0 ↔ YB f s) ∧ l.length ≤ 3 ∧ Call pg 58 [sol f s] [sol f s] (.mem .own (some 1) (l.map I))

theorem w3_in {n x y z : Nat} (hx : x < n) (hy : y < n) (hz : z < n) : inN n [(x : Int), y, z] := by
  intro v hv
  simp at hv
  omega

set_option maxRecDepth 10000 in
theorem t_fault58 {pg : Pg} (hp : pg.fn 58 = some c_spec_l02Fault) (h68 : S_do pg 68) (h67 : S_same pg) : S_fault58 pg := by
  intro f s h
  obtain ⟨a, b, c, l, hl, hf1, hf2, hf3, hmin⟩ := fault f s
  have h0 := h.pos
  have h12 := h.small
  refine ⟨l, hl, hf3, Call.intro hp rfl (by simp) ?_⟩
  show wp _ _ c_spec_l02Fault.body (post [.t 2] _ _ _) _
  simp [c_spec_l02Fault]
  refine wpLoop_count (fun x e => x ≤ a ∧ e = fr [(1, some (.val (.mem .own none [tb f, tb s]))), (3, some (.val (I f.length))), (4, some (.val (I x)))]) f.length ?_ ?_ 0 _ (by omega) ?_
  · rintro x e hx ⟨hxa, rfl⟩
    simp [hx]
    refine wpLoop_count (fun y e => (x = a → y ≤ b) ∧ e = fr [(1, some (.val (.mem .own none [tb f, tb s]))), (3, some (.val (I f.length))), (4, some (.val (I x))), (5, some (.val (I y)))]) f.length ?_ ?_ 0 _ (by omega) ?_
    · rintro y e hy ⟨hyb, rfl⟩
      simp [hy]
      refine wpLoop_count (fun z e => (x = a → y = b → z ≤ c) ∧ e = fr [(1, some (.val (.mem .own none [tb f, tb s]))), (3, some (.val (I f.length))), (4, some (.val (I x))), (5, some (.val (I y))), (6, some (.val (I z)))]) f.length ?_ ?_ 0 _ (by omega) ?_
      · rintro z e hz ⟨hzc, rfl⟩
        have hw := w3_in hx hy hz
        have d1 := dW_in h hw 0
        have d2 := dW_in h d1 1
        have d3 := dW_in h hw 1
        have d4 := dW_in h d3 0
        simp [hz]
        refine callR (h68 f s [(x : Int), y, z] 0 h (by simp) (by simp) hw) rfl rfl (fun _ => by simp) ?_
        simp
        refine callR (h68 f s _ 1 h (by simp) (by simp) d1) rfl rfl (fun _ => by simp) ?_
        simp
        refine callR (h68 f s _ 0 h (by simp) (by simp) d2) rfl rfl (fun _ => by simp) ?_
        simp
        refine callR (h68 f s [(x : Int), y, z] 1 h (by simp) (by simp) hw) rfl rfl (fun _ => by simp) ?_
        simp
        refine callR (h68 f s _ 0 h (by simp) (by simp) d3) rfl rfl (fun _ => by simp) ?_
        simp
        refine callR (h68 f s _ 1 h (by simp) (by simp) d4) rfl rfl (fun _ => by simp) ?_
        simp
        refine callR (h67 _ _ (by simp)) rfl rfl (fun _ => rfl) ?_
        by_cases hy2 : ybAt f s x y z
        · have hy3 := hy2
          unfold ybAt at hy3
          simp [hy3]
          have : ¬ (x = a ∧ y = b ∧ z = c) := fun ⟨e1, e2, e3⟩ => by
            subst e1 e2 e3
            exact (hf1 hx).2.2.2 hy2
          omega
        · have hy3 := hy2
          unfold ybAt at hy3
          have := hmin x y z hx hy hz hy2
          have e1 : x = a := by omega
          subst e1
          have e2 : y = b := by have := hyb rfl; omega
          subst e2
          have e3 : z = c := by have := hzc rfl rfl; omega
          subst e3
          simp [hy3, (hf1 hx).1]
      · rintro e ⟨hzc, rfl⟩
        simp
        have : ¬ (x = a ∧ y = b) := fun ⟨e1, e2⟩ => by
          have := hzc e1 e2
          have := (hf1 (by omega)).2.2.1
          omega
        omega
      · simp
    · rintro e ⟨hyb, rfl⟩
      simp
      have : ¬ x = a := fun e1 => by
        have := hyb e1
        have := (hf1 (by omega)).2.1
        omega
      omega
    · simp
  · rintro e ⟨h1, rfl⟩
    simp [(hf2 (by omega)).2]
  · simp

theorem yb_v2 (f s : List (List Int)) (x y z : Nat) : ybAt f s x y z ↔
    (v2 f (v2 f x y).toNat (v2 f (v2 s x y).toNat z).toNat = v2 f x (v2 f y z).toNat ∧
     v2 s (v2 f x y).toNat (v2 f (v2 s x y).toNat z).toNat = v2 f (v2 s x (v2 f y z).toNat).toNat (v2 s y z).toNat ∧
     v2 s (v2 s x y).toNat z = v2 s (v2 s x (v2 f y z).toNat).toNat (v2 s y z).toNat) := by
  simp [ybAt, dW, g2]

def S_fault61 (pg : Pg) : Prop := ∀ f s : List (List Int), PM f s → ∃ o : Option (List Int), (o = none ↔ YB f s) ∧ Call pg 61 [sol f s] [sol f s] (ownI o)
set_option maxRecDepth 10000 in
theorem t_fault61 {pg : Pg} (hp : pg.fn 61 = some c_impl_equationFault) : S_fault61 pg := by
  intro f s h
  obtain ⟨a, b, c, l, hl, hf1, hf2, hf3, hmin⟩ := fault f s
  have h0 := h.pos
  have h12 := h.small
  have fr' := fun x hx => h.tf.row (x := x) hx
  have sr' : ∀ x (hx : x < s.length), (s[x]).length = f.length := fun x hx => (h.ts.row hx).trans h.len
  have hF0 : ∀ i j, 0 ≤ v2 f i j := h.tf.nonneg
  have hF1 : ∀ i j, v2 f i j < f.length := h.tf.lt h0
  have hF2 : ∀ i j, (v2 f i j).toNat < f.length := h.tf.ltN h0
  have hS0 : ∀ i j, 0 ≤ v2 s i j := h.ts.nonneg
  have hS1 : ∀ i j, v2 s i j < f.length := fun i j => by have := h.ts.lt (by rw [h.len]; exact h0) i j; rw [h.len] at this; exact this
  have hS2 : ∀ i j, (v2 s i j).toNat < f.length := fun i j => by have := hS0 i j; have := hS1 i j; omega
  refine ⟨if a < f.length then some l else none, ?_, Call.intro hp rfl (by simp) ?_⟩
  · by_cases ha : a < f.length
    · have h1 := (hf1 ha).1
      rw [← hl, if_pos ha, h1]
      simp
    · have h1 := (hf2 ha).2
      rw [← hl, if_neg ha, h1]
      simp
  show wp _ _ c_impl_equationFault.body (post [.t 2] _ _ _) _
  simp [c_impl_equationFault]
  refine wpLoop_count (fun x e => x ≤ a ∧ e = fr [(1, some (.val (.mem .own none [tb f, tb s]))), (3, some (.val (I f.length))), (16, some (.val (I f.length))), (17, some (.val (I x)))]) f.length ?_ ?_ 0 _ (by omega) ?_
  · rintro x e hx ⟨hxa, rfl⟩
    simp [hx]
    refine wpLoop_count (fun y e => (x = a → y ≤ b) ∧ e = fr [(1, some (.val (.mem .own none [tb f, tb s]))), (3, some (.val (I f.length))), (4, some (.val (I x))), (16, some (.val (I f.length))), (17, some (.val (I x))), (20, some (.val (I f.length))), (21, some (.val (I y)))]) f.length ?_ ?_ 0 _ (by omega) ?_
    · rintro y e hy ⟨hyb, rfl⟩
      simp [hy]
      refine wpLoop_count (fun z e => (x = a → y = b → z ≤ c) ∧ e = fr [(1, some (.val (.mem .own none [tb f, tb s]))), (3, some (.val (I f.length))), (4, some (.val (I x))), (5, some (.val (I y))), (16, some (.val (I f.length))), (17, some (.val (I x))), (20, some (.val (I f.length))), (21, some (.val (I y))), (24, some (.val (I f.length))), (25, some (.val (I z)))]) f.length ?_ ?_ 0 _ (by omega) ?_
      · rintro z e hz ⟨hzc, rfl⟩
        have hyb2 := yb_v2 f s x y z
        simp [hx, hy, hz, fr', sr', h.len, get_v2, hF0, hF1, hF2, hS0, hS1, hS2]
        have bad : ¬ ybAt f s x y z → x = a ∧ y = b ∧ z = c := fun hn => by
          have := hmin x y z hx hy hz hn
          have e1 : x = a := by omega
          have e2 : y = b := by have := hyb e1; omega
          have e3 : z = c := by have := hzc e1 e2; omega
          exact ⟨e1, e2, e3⟩
        by_cases e1 : v2 f (v2 f x y).toNat (v2 f (v2 s x y).toNat z).toNat = v2 f x (v2 f y z).toNat
        · by_cases e2 : v2 s (v2 f x y).toNat (v2 f (v2 s x y).toNat z).toNat = v2 f (v2 s x (v2 f y z).toNat).toNat (v2 s y z).toNat
          · by_cases e3 : v2 s (v2 s x y).toNat z = v2 s (v2 s x (v2 f y z).toNat).toNat (v2 s y z).toNat
            · simp [e1, e2, e3]
              have : ¬ (x = a ∧ y = b ∧ z = c) := fun ⟨g1, g2, g3⟩ => by
                subst g1 g2 g3
                exact (hf1 hx).2.2.2 (hyb2.2 ⟨e1, e2, e3⟩)
              omega
            · obtain ⟨g1, g2, g3⟩ := bad fun hh => e3 (hyb2.1 hh).2.2
              subst g1 g2 g3
              simp [e1, e2, e3, hx, (hf1 hx).1, ownI]
          · obtain ⟨g1, g2, g3⟩ := bad fun hh => e2 (hyb2.1 hh).2.1
            subst g1 g2 g3
            simp [e1, e2, undefV, hx, (hf1 hx).1, ownI]
        · obtain ⟨g1, g2, g3⟩ := bad fun hh => e1 (hyb2.1 hh).1
          subst g1 g2 g3
          simp [e1, undefV, hx, (hf1 hx).1, ownI]
      · rintro e ⟨hzc, rfl⟩
        simp
        have : ¬ (x = a ∧ y = b) := fun ⟨e1, e2⟩ => by
          have := hzc e1 e2
          have := (hf1 (by omega)).2.2.1
          omega
        omega
      · simp
    · rintro e ⟨hyb, rfl⟩
      simp
      have : ¬ x = a := fun e1 => by
        have := hyb e1
        have := (hf1 (by omega)).2.1
        omega
      omega
    · simp
  · rintro e ⟨h1, rfl⟩
    have h2 : ¬ a < f.length := by omega
    simp [h2, ownI]
  · simp

def isSol (f s : List (List Int)) : Prop := isPairMap f s ∧ Inj f s ∧ YB f s

noncomputable def dec (p : Prop) : Bool := @decide p (Classical.propDecidable p)
theorem dec_true {p : Prop} (h : p) : dec p = true := by simp [dec, h]
theorem dec_false {p : Prop} (h : ¬ p) : dec p = false := by simp [dec, h]

def S_isSol (pg : Pg) (n : Nat) : Prop := ∀ f s : List (List Int), fits f → fits s → Call pg n [sol f s] [sol f s] (B (dec (isSol f s)))
theorem t_l02Is {pg : Pg} (hp : pg.fn 41 = some c_spec_l02Is) (h56 : S_pairMap pg 56) (h57 : S_coll57 pg) (h58 : S_fault58 pg) : S_isSol pg 41 := by
  intro f s hf hs
  refine Call.intro hp rfl (by simp) ?_
  show wp _ _ c_spec_l02Is.body (post [.t 2] _ _ _) _
  simp [c_spec_l02Is]
  refine callR (h56 f s hf hs) rfl rfl (fun _ => rfl) ?_
  by_cases h1 : isPairMap f s
  · have hpm := PM.of h1
    obtain ⟨l, hl, hl2, hc⟩ := h57 f s hpm
    simp [h1]
    refine callR hc rfl rfl (fun _ => by simp) ?_
    by_cases h2 : Inj f s
    · have h3 := hl.2 h2
      obtain ⟨l2, hm, hm2, hc2⟩ := h58 f s hpm
      simp [h3]
      refine callR hc2 rfl rfl (fun _ => by simp) ?_
      by_cases h4 : YB f s
      · have h5 := hm.2 h4
        simp [h5, dec_true (show isSol f s from ⟨h1, h2, h4⟩)]
      · have h5 : ¬ l2.length = 0 := fun h => h4 (hm.1 h)
        have h6 : ¬ ((l2.length : Nat) : Int) = 0 := by omega
        simp [h5, dec_false (show ¬ isSol f s from fun h => h4 h.2.2)]
    · have h3 : ¬ l.length = 0 := fun h => h2 (hl.1 h)
      have h6 : ¬ ((l.length : Nat) : Int) = 0 := by omega
      simp [h3, undefV, dec_false (show ¬ isSol f s from fun h => h2 h.2.1)]
  · simp [h1, undefV, dec_false (show ¬ isSol f s from fun h => h1 h.1)]

theorem t_IsSolution {pg : Pg} (hp : pg.fn 42 = some c_impl_IsSolution) (h59 : S_pairMap pg 59) (h60 : S_coll60 pg) (h61 : S_fault61 pg) : S_isSol pg 42 := by
  intro f s hf hs
  refine Call.intro hp rfl (by simp) ?_
  show wp _ _ c_impl_IsSolution.body (post [.t 2] _ _ _) _
  simp [c_impl_IsSolution]
  refine callR (h59 f s hf hs) rfl rfl (fun _ => rfl) ?_
  by_cases h1 : isPairMap f s
  · have hpm := PM.of h1
    obtain ⟨l, hl, hc⟩ := h60 f s hpm
    simp [h1]
    refine callR hc rfl rfl (fun _ => by cases l <;> simp [ownI]) ?_
    by_cases h2 : Inj f s
    · have h3 := hl.2 h2
      subst h3
      obtain ⟨l2, hm, hc2⟩ := h61 f s hpm
      simp [ownI]
      refine callR hc2 rfl rfl (fun _ => by cases l2 <;> simp [ownI]) ?_
      by_cases h4 : YB f s
      · have h5 := hm.2 h4
        subst h5
        simp [ownI, dec_true (show isSol f s from ⟨h1, h2, h4⟩)]
      · cases l2 with
        | none => exact absurd (hm.1 rfl) h4
        | some l2 => simp [ownI, dec_false (show ¬ isSol f s from fun h => h4 h.2.2)]
    · cases l with
      | none => exact absurd (hl.1 rfl) h2
      | some l => simp [ownI, undefV, dec_false (show ¬ isSol f s from fun h => h2 h.2.1)]
  · simp [h1, undefV, dec_false (show ¬ isSol f s from fun h => h1 h.1)]
end Go.Mch
namespace Go.Mch

theorem rows_append (a b : List (List Int)) : rows (a ++ b) = rows a ++ rows b := by simp [rows]

def oL (l : List (List Int)) : Option (List (List Int)) := if l = [] then none else some l
end Go.Mch
namespace Go.Mch

def eT : Option (List (List Int)) → T
  | none => nil
  | some X => tb X
def ryT (o : Option (List (List Int))) : Rw (Rw Int) := Rw.ofO (o.map fun X => X.map .of)
theorem rawT_ry (o : Option (List (List Int))) : rawT (ryT o) = eT o := by
  cases o with
  | none => rfl
  | some X => exact rawT_tb X
theorem map_lst_of {α : Type} (X : List (List α)) : (X.map Rw.of).map lst = X := by simp [Function.comp_def]
theorem lst_ry (o : Option (List (List Int))) : (lst (ryT o)).map lst = lso o := by
  cases o with
  | none => rfl
  | some X => exact map_lst_of X
theorem small_ry {o : Option (List (List Int))} (h : smallT (lso o)) : small (ryT o) := by
  cases o with
  | none => exact ⟨by simp [ryT, Rw.ofO, lst], by simp [ryT, Rw.ofO, lst]⟩
  | some X => exact ⟨by simpa [ryT, Rw.ofO] using h.1, by simpa [ryT, Rw.ofO] using h.2⟩
theorem S_eqT.o {pg : Pg} (h : S_eqT pg) (o o' : Option (List (List Int))) (hs : smallT (lso o)) : Call pg 21 [eT o, eT o'] [eT o, eT o'] (B (decide (lso o = lso o'))) := by
  have := h (ryT o) (ryT o') (small_ry hs)
  simp only [rawT_ry, lst_ry] at this
  exact this
theorem S_heldT.o {pg : Pg} (h : S_heldT pg) (o : Option (List (List Int))) (k : Int) (hs : smallT (lso o)) (h1 : -1 ≤ k) (h2 : k ≤ 2305843009213693952) : Call pg 24 [eT o, I k] [eT o, I k] (I (heldL (lso o) k)) := by
  have := h (ryT o) k (small_ry hs) h1 h2
  simp only [rawT_ry, lst_ry] at this
  exact this
theorem S_eqSol.o {pg : Pg} (h : S_eqSol pg) (X Y Z W : List (List Int)) (hX : smallT X) (hY : smallT Y) : Call pg 18 [.agg [tb X, tb Y], .agg [tb Z, tb W]] [.agg [tb X, tb Y], .agg [tb Z, tb W]] (B (decide (X = Z ∧ Y = W))) := by
  have := h (ryT (some X)) (ryT (some Y)) (ryT (some Z)) (ryT (some W)) (small_ry hX) (small_ry hY)
  simp only [rawT_ry, lst_ry] at this
  exact this

theorem upT_small {X : List (List Int)} (h : smallT X) (k : Int) : smallT (upT k X) := by
  refine ⟨by simpa [upT] using h.1, fun r hr => ?_⟩
  simp only [upT, List.mem_map, List.mem_range] at hr
  obtain ⟨j, hj, rfl⟩ := hr
  rw [up_length]
  have := h.2 X[j] (List.getElem_mem hj)
  simpa [List.getD_eq_getElem?_getD, hj] using this

end Go.Mch
namespace Go.Mch

def isTup (n : Int) (xs : List Int) : Prop := xs.length ≤ 12 ∧ inR 0 (n - 1) xs
instance (n : Int) (xs : List Int) : Decidable (isTup n xs) := by unfold isTup; infer_instance
def S_clone (pg : Pg) : Prop := ∀ xs : List Int, xs.length ≤ 1048576 → Call pg 36 [ix xs] [ix xs] (.mem .own (some 1) (xs.map I))
theorem t_clone {pg : Pg} (hp : pg.fn 36 = some c_slices_Clone___int64_int64_) : S_clone pg := by
  intro xs hl
  refine Call.intro hp rfl (by simp) ?_
  show wp _ _ c_slices_Clone___int64_int64_.body (post [.t 2] _ _ _) _
  simp [c_slices_Clone___int64_int64_, roomy]
  omega

def tmOk (f : List (List Int)) (w : List Int) (p : Int) : Prop := isTup f.length w ∧ 0 ≤ p ∧ p ≤ (w.length : Int) - 2
instance (f : List (List Int)) (w : List Int) (p : Int) : Decidable (tmOk f w p) := by unfold tmOk; infer_instance
end Go.Mch
namespace Go.Mch

def eI : Option (List Int) → T
  | none => nil
  | some X => ix X
theorem rawI_ry (o : Option (List Int)) : rawI (Rw.ofO o) = eI o := by cases o <;> rfl
theorem S_eqI.o {pg : Pg} (h : S_eqI pg) (o o' : Option (List Int)) (hs : (lso o).length ≤ 1048576) : Call pg 9 [eI o, eI o'] [eI o, eI o'] (B (decide (lso o = lso o'))) := by
  have := h (Rw.ofO o) (Rw.ofO o') (by simpa using hs)
  simp only [rawI_ry, lst_ofO] at this
  exact this
theorem S_heldI.o {pg : Pg} (h : S_heldI pg) (o : Option (List Int)) (k : Int) (hs : (lso o).length ≤ 1048576) (h1 : -1 ≤ k) (h2 : k ≤ 4611686018427387904) : Call pg 13 [eI o, I k] [eI o, I k] (I (held (lso o) k)) := by
  have := h (Rw.ofO o) k (by simpa using hs) h1 h2
  simp only [rawI_ry, lst_ofO] at this
  exact this
end Go.Mch
namespace Go.Mch


theorem len_le_of_sub {α : Type} [DecidableEq α] : ∀ (l p : List α), l.Nodup → (∀ x ∈ l, x ∈ p) → l.length ≤ p.length
  | [], _, _, _ => by simp
  | a :: l, p, hd, hs => by
    have ha : a ∈ p := hs a (by simp)
    have hn := List.nodup_cons.1 hd
    have := len_le_of_sub l (p.erase a) hn.2 fun x hx => by
      have hne : x ≠ a := fun e => hn.1 (e ▸ hx)
      exact (List.mem_erase_of_ne hne).2 (hs x (by simp [hx]))
    have h2 := List.length_erase_of_mem ha
    have h3 : 0 < p.length := List.length_pos_of_mem ha
    simp only [List.length_cons]
    omega

theorem nodup_of_sub {α : Type} [DecidableEq α] : ∀ (l p : List α), l.Nodup → (∀ x ∈ l, x ∈ p) → p.length = l.length → p.Nodup
  | [], p, _, _, h => by
    have : p = [] := List.eq_nil_of_length_eq_zero (by simpa using h)
    subst this
    exact List.nodup_nil
  | a :: l, p, hd, hs, h => by
    have ha : a ∈ p := hs a (by simp)
    have hn := List.nodup_cons.1 hd
    have h2 := List.length_erase_of_mem ha
    have h4 : (p.erase a).length = l.length := by simp only [List.length_cons] at h; omega
    have hsub : ∀ x ∈ l, x ∈ p.erase a := fun x hx => by
      have hne : x ≠ a := fun e => hn.1 (e ▸ hx)
      exact (List.mem_erase_of_ne hne).2 (hs x (by simp [hx]))
    have hp := nodup_of_sub l (p.erase a) hn.2 hsub h4
    have hna : a ∉ p.erase a := fun hm => by
      have := len_le_of_sub (a :: l) (p.erase a) hd fun x hx => by
        rcases List.mem_cons.1 hx with rfl | hx
        · exact hm
        · exact hsub x hx
      simp only [List.length_cons] at this
      omega
    exact (List.perm_cons_erase ha).nodup_iff.2 (List.nodup_cons.2 ⟨hna, hp⟩)

def nums (n : Nat) : List Int := (List.range n).map Int.ofNat
theorem nums_nodup (n : Nat) : (nums n).Nodup := by
  refine List.Pairwise.map _ (fun a b h => ?_) (List.nodup_range (n := n))
  intro e
  exact h (Int.ofNat.inj e)
theorem perm_permuted {p : List Int} (h1 : 1 ≤ p.length) (h2 : p.length ≤ 12) (hr : ∀ x ∈ p, 0 ≤ x ∧ x < p.length) : isPerm p ↔ isPermuted p := by
  constructor
  · intro h
    refine ⟨hr, nodup_of_sub (nums p.length) p (nums_nodup _) (fun x hx => ?_) (by simp [nums])⟩
    simp only [nums, List.mem_map, List.mem_range] at hx
    obtain ⟨k, hk, rfl⟩ := hx
    exact h.2.2 k hk
  · intro h
    refine ⟨h1, h2, fun x hx => ?_⟩
    by_cases hm : (x : Int) ∈ p
    · exact hm
    · have := len_le_of_sub p ((nums p.length).erase x) h.2 fun y hy => by
        have hy2 := hr y hy
        have hne : y ≠ (x : Int) := fun e => hm (e ▸ hy)
        refine (List.mem_erase_of_ne hne).2 ?_
        simp only [nums, List.mem_map, List.mem_range]
        exact ⟨y.toNat, by omega, by show ((y.toNat : Nat) : Int) = y; omega⟩
      have hx2 : (x : Int) ∈ nums p.length := by
        simp only [nums, List.mem_map, List.mem_range]
        exact ⟨x, hx, rfl⟩
      have h3 := List.length_erase_of_mem hx2
      have h4 : (nums p.length).length = p.length := by simp [nums]
      omega
end Go.Mch
namespace Go.Mch

def sdAt (t : List (List Int)) (x y z : Nat) : Prop := v2 t x (v2 t y z).toNat = v2 t (v2 t x y).toNat (v2 t x z).toNat
instance (t : List (List Int)) (x y z : Nat) : Decidable (sdAt t x y z) := by unfold sdAt; infer_instance
end Go.Mch
namespace Go.Mch

theorem S_eqRack.o {pg : Pg} (h : S_eqRack pg) (X Z : List (List Int)) (hX : smallT X) : Call pg 10 [.agg [tb X], .agg [tb Z]] [.agg [tb X], .agg [tb Z]] (B (decide (X = Z))) := by
  have := h (ryT (some X)) (ryT (some Z)) (small_ry hX)
  simp only [rawT_ry, lst_ry] at this
  exact this

end Go.Mch
namespace Go.Mch

@[simp] theorem frzL_mapI (k : K) (xs : List Int) : T.frzL k (xs.map I) = xs.map I := by
  induction xs with
  | nil => rfl
  | cons x xs ih => simp [ih]
@[simp] theorem frzL_tbL (k : K) (t : List (List Int)) : T.frzL k (tbL t) = tbL t := by
  induction t with
  | nil => rfl
  | cons x xs ih => simp only [tbL, List.map_cons] at ih ⊢; simp [ih]
theorem map_range_succ {α : Type} (f : Nat → α) (k : Nat) : (List.range (k + 1)).map f = (List.range k).map f ++ [f k] := by simp [List.range_succ]

def tabL (n : Nat) (g : Nat → Nat → Int) : List (List Int) := (List.range n).map fun x => (List.range n).map fun y => g x y
@[simp] theorem tabL_length (n : Nat) (g : Nat → Nat → Int) : (tabL n g).length = n := by simp [tabL]
theorem tabL_row {n : Nat} {g : Nat → Nat → Int} {r : List Int} (h : r ∈ tabL n g) : r.length = n := by
  simp only [tabL, List.mem_map] at h
  obtain ⟨x, _, rfl⟩ := h
  simp
theorem v2_tabL {n : Nat} {g : Nat → Nat → Int} {x y : Nat} (hx : x < n) (hy : y < n) : v2 (tabL n g) x y = g x y := by
  simp [v2, tabL, hx, hy]
theorem tab_of {n : Nat} {g : Nat → Nat → Int} (h : ∀ x y, x < n → y < n → 0 ≤ g x y ∧ g x y < n) : Tab (tabL n g) := by
  intro r hr
  refine ⟨by rw [tabL_row hr]; simp, fun v hv => ?_⟩
  simp only [tabL, List.mem_map, List.mem_range] at hr
  obtain ⟨x, hx, rfl⟩ := hr
  simp only [List.mem_map, List.mem_range] at hv
  obtain ⟨y, hy, rfl⟩ := hv
  simpa using h x y hx hy
theorem tabL_congr {n : Nat} {g g' : Nat → Nat → Int} (h : ∀ x y, x < n → y < n → g x y = g' x y) : tabL n g = tabL n g' := by
  unfold tabL
  apply List.map_congr_left
  intro x hx
  apply List.map_congr_left
  intro y hy
  exact h x y (by simpa using hx) (by simpa using hy)
theorem tab_eq {t : List (List Int)} {n : Nat} (hn : t.length = n) (h : ∀ r ∈ t, r.length = n) : t = tabL n (v2 t) := by
  subst hn
  unfold tabL
  apply List.ext_getElem
  · simp
  · intro i h1 h2
    apply List.ext_getElem
    · simp [h _ (List.getElem_mem h1)]
    · intro j h3 h4
      simp [v2, h1, h3]

def colL (t : List (List Int)) (y : Nat) : List Int := (List.range t.length).map fun x => v2 t x y
def turnL (t : List (List Int)) : List (List Int) := tabL t.length fun x y => v2 t y x
@[simp] theorem colL_length (t : List (List Int)) (y : Nat) : (colL t y).length = t.length := by simp [colL]
@[simp] theorem turnL_length (t : List (List Int)) : (turnL t).length = t.length := by simp [turnL]
theorem turnL_tab {t : List (List Int)} (h : Tab t) (h0 : 0 < t.length) : Tab (turnL t) := by
  apply tab_of
  intro x y hx hy
  exact ⟨h.nonneg _ _, h.lt h0 _ _⟩

def S_column (pg : Pg) : Prop := ∀ (t : List (List Int)) (y : Nat), t.length ≤ 1048576 → (∀ r ∈ t, y < r.length) → Call pg 375 [tb t, I y] [tb t, I y] (.mem .own (some 1) ((colL t y).map I))
theorem t_column {pg : Pg} (hp : pg.fn 375 = some c_spec_l01Column) : S_column pg := by
  intro t y hl hr
  refine Call.intro hp rfl (by simp) ?_
  show wp _ _ c_spec_l01Column.body (post [.t 4] _ _ _) _
  simp [c_spec_l01Column]
  refine wpLoop_count (fun k e => e = fr [(0, some (.val (tb t))), (1, some (.val (I y))), (5, some (.val (.mem .own (some 1) (((List.range k).map fun x => v2 t x y).map I)))), (6, some (.val (I k)))]) t.length ?_ ?_ 0 _ (by omega) ?_
  · rintro k e hk rfl
    have hy := hr _ (List.getElem_mem hk)
    simp [hk, hy, get_v2, map_range_succ, roomy]
    omega
  · rintro e rfl
    simp [colL]
  · simp

def S_turn (pg : Pg) (n : Nat) : Prop := ∀ t : List (List Int), Tab t → t.length ≤ 12 → Call pg n [tb t] [tb t] (.mem .own (some 1) (rows (turnL t)))
theorem turnL_rows (t : List (List Int)) : turnL t = (List.range t.length).map fun y => colL t y := rfl
theorem t_l01Turn {pg : Pg} (hp : pg.fn 265 = some c_spec_l01Turn) (h375 : S_column pg) : S_turn pg 265 := by
  intro t ht hl
  refine Call.intro hp rfl (by simp) ?_
  show wp _ _ c_spec_l01Turn.body (post [.t 2] _ _ _) _
  simp [c_spec_l01Turn]
  refine wpLoop_count (fun k e => e = fr [(0, some (.val (tb t))), (3, some (.val (.mem .own (some 1) (rows ((List.range k).map fun y => colL t y))))), (4, some (.val (I k)))]) t.length ?_ ?_ 0 _ (by omega) ?_
  · rintro k e hk rfl
    simp [hk]
    refine callR (h375 t k (by omega) (fun r hr => by rw [(ht r hr).1]; exact hk)) rfl rfl (fun _ => by simp) ?_
    simp [map_range_succ, rows_append, roomy]
    simp [rows]
    omega
  · rintro e rfl
    simp [turnL_rows]
  · simp [rows]

def S_tableBy (pg : Pg) : Prop := ∀ (n : Nat) (g : Nat → Nat → Int) (f : Nat) (caps : List T), n ≤ 1048576 → T.eryL .old caps = caps → T.noOwnL caps = true →
  (∀ x y : Nat, x < n → y < n → Call pg f (I x :: I y :: caps) (I x :: I y :: caps) (I (g x y))) → Call pg 376 [I n, .fn f caps] [I n, .fn f caps] (.mem .own (some 1) (rows (tabL n g)))

theorem set_mid {α : Type} {l : List α} {r : List α} {k : Nat} {z v : α} (h : l.length = k) : (l ++ z :: r).set k v = l ++ v :: r := by
  subst h; simp
theorem fill_succ {α : Type} {n k : Nat} (z : α) (h : k < n) : List.replicate (n - k) z = z :: List.replicate (n - (k + 1)) z := by
  rw [show n - k = (n - (k + 1)) + 1 from by omega, List.replicate_succ]

set_option maxRecDepth 10000 in
theorem t_tableBy {pg : Pg} (hp : pg.fn 376 = some c_impl_tableBy) : S_tableBy pg := by
  intro n g f caps hn hc1 hc2 hc
  refine Call.intro hp rfl (by simp [hc2]) ?_
  show wp _ _ c_impl_tableBy.body (post [.t 4] _ _ _) _
  simp [c_impl_tableBy]
  refine ⟨by unfold roomy; omega, ?_⟩
  refine wpLoop_count (fun x e => e = fr [(0, some (.val (I n))), (1, some (.val (.fn f caps))), (5, some (.val (.mem .own (some 1) (rows ((List.range x).map fun i => (List.range n).map (g i)) ++ List.replicate (n - x) nil)))), (11, some (.val (I n))), (12, some (.val (I x)))]) n ?_ ?_ 0 _ (by omega) ?_
  · rintro x e hx rfl
    have hlen : (rows ((List.range x).map fun i => (List.range n).map (g i))).length = x := by simp
    rw [fill_succ nil hx]
    simp [hx, set_mid hlen]
    refine ⟨by unfold roomy; omega, by omega, ?_⟩
    refine wpLoop_count (fun y e => e = fr [(0, some (.val (I n))), (1, some (.val (.fn f caps))), (5, some (.val (.mem .own (some 1) (rows ((List.range x).map fun i => (List.range n).map (g i)) ++ .mem .own (some 1) (((List.range y).map (g x)).map I ++ List.replicate (n - y) (I 0)) :: List.replicate (n - (x + 1)) nil)))), (6, some (.val (I x))), (11, some (.val (I n))), (12, some (.val (I x))), (24, some (.val (I n))), (25, some (.val (I y)))]) n ?_ ?_ 0 _ (by omega) ?_
    · rintro y e hy rfl
      have hlen2 : (((List.range y).map (g x)).map I).length = y := by simp
      rw [fill_succ (I 0) hy]
      simp [hy]
      refine ⟨by omega, ?_⟩
      refine callR (by simpa [hc1] using hc x y hx hy) rfl rfl (fun _ => by simp) ?_
      simp [set_mid hlen, map_range_succ]
      omega
    · rintro e rfl
      simp [map_range_succ, rows_append]
      simp [rows]
      omega
    · simp
  · rintro e rfl
    simp [tabL, hc2]
  · simp [rows]

def S_turn1 (pg : Pg) : Prop := ∀ (t : List (List Int)) (x y : Nat) (hx : x < t.length) (hy : y < t.length), (t[y]).length = t.length → Call pg 377 [I x, I y, .mem .old none [tb t]] [I x, I y, .mem .old none [tb t]] (I (v2 t y x))
theorem t_turn1 {pg : Pg} (hp : pg.fn 377 = some c_impl_transposed_1) : S_turn1 pg := by
  intro t x y hx hy hr
  refine Call.intro hp rfl (by simp) ?_
  show wp _ _ c_impl_transposed_1.body (post [.t 5] _ _ _) _
  simp [c_impl_transposed_1, hx, hy, hr, get_v2]
theorem t_transposed {pg : Pg} (hp : pg.fn 267 = some c_impl_transposed) (h376 : S_tableBy pg) (h377 : S_turn1 pg) : S_turn pg 267 := by
  intro t ht hl
  refine Call.intro hp rfl (by simp) ?_
  show wp _ _ c_impl_transposed.body (post [.t 2] _ _ _) _
  simp [c_impl_transposed]
  refine callR (h376 t.length (fun x y => v2 t y x) 377 [.mem .old none [tb t]] (by omega) (by simp) (by simp) (fun x y hx hy => h377 t x y hx hy (ht.row hy))) rfl rfl (fun _ => by simp) ?_
  simp [turnL]

def nonDeg (f s : List (List Int)) : Prop := permRows f ∧ permRows (turnL s)
instance (f s : List (List Int)) : Decidable (nonDeg f s) := by unfold nonDeg; infer_instance
def S_nonDeg (pg : Pg) (n : Nat) : Prop := ∀ f s : List (List Int), PM f s → Call pg n [sol f s] [sol f s] (B (decide (nonDeg f s)))
theorem turnL_fits {t : List (List Int)} (h : t.length ≤ 12) : ∀ r ∈ turnL t, r.length ≤ 1048576 := fun r hr => by
  have := tabL_row hr
  omega

theorem t_isNondeg {pg : Pg} (hp : pg.fn 285 = some c_impl_isNondegenerate) (h51 : S_permRows pg) (h267 : S_turn pg 267) : S_nonDeg pg 285 := by
  intro f s h
  have h0 := h.pos
  have h12 := h.small
  have hl := h.len
  refine Call.intro hp rfl (by simp) ?_
  show wp _ _ c_impl_isNondegenerate.body (post [.t 2] _ _ _) _
  simp [c_impl_isNondegenerate]
  refine callR (h51 f (by omega) (fun r hr => by have := (h.tf r hr).1; omega)) rfl rfl (fun _ => rfl) ?_
  by_cases h1 : permRows f
  · simp [h1]
    refine callR (h267 s h.ts (by omega)) rfl rfl (fun _ => by simp) ?_
    simp
    refine callR (h51 (turnL s) (by simp; omega) (turnL_fits (by omega))) rfl rfl (fun _ => rfl) ?_
    simp [nonDeg, h1]
  · simp [h1, nonDeg, undefV]

theorem permRows_spec {t : List (List Int)} (h : Tab t) (h0 : 0 < t.length) (h12 : t.length ≤ 12) : (∀ r ∈ t, isPerm r) ↔ permRows t := by
  constructor
  · intro g r hr
    have := h r hr
    exact (perm_permuted (by omega) (by omega) (fun x hx => by have := this.2 x hx; omega)).1 (g r hr)
  · intro g r hr
    have := h r hr
    exact (perm_permuted (by omega) (by omega) (fun x hx => by have := this.2 x hx; omega)).2 (g r hr)

def S_l01Rows (pg : Pg) : Prop := ∀ t : List (List Int), Tab t → 0 < t.length → t.length ≤ 12 → Call pg 410 [tb t] [tb t] (B (decide (permRows t)))
theorem t_l01Rows {pg : Pg} (hp : pg.fn 410 = some c_spec_l01Rows) (h47 : S_perm pg 47) : S_l01Rows pg := by
  intro t ht h0 h12
  refine Call.intro hp rfl (by simp) ?_
  show wp _ _ c_spec_l01Rows.body (post [.t 2] _ _ _) _
  have hsp := permRows_spec ht h0 h12
  simp [c_spec_l01Rows]
  refine wpLoop_count (fun k e => (∀ i (h : i < t.length), i < k → isPerm t[i]) ∧ e = fr [(0, some (.val (tb t))), (3, some (.val (I k)))]) t.length ?_ ?_ 0 _ (by omega) ?_
  · rintro k e hk ⟨h1, rfl⟩
    simp [hk]
    refine callR (h47 _ (by have := ht.row hk; omega)) rfl rfl (fun _ => rfl) ?_
    by_cases hm : isPerm t[k]
    · simp [hm]
      refine ⟨by omega, fun i hi hik => ?_⟩
      rcases Nat.lt_or_ge i k with h2 | h2
      · exact h1 i hi h2
      · have : i = k := by omega
        subst this; exact hm
    · have : ¬ permRows t := fun h => hm (hsp.2 h _ (List.getElem_mem hk))
      simp [hm, this]
  · rintro e ⟨h1, rfl⟩
    have : permRows t := hsp.1 fun x hx => by
      obtain ⟨i, hi, rfl⟩ := List.getElem_of_mem hx
      exact h1 i hi hi
    simp [this]
  · simp

theorem t_l02Good {pg : Pg} (hp : pg.fn 350 = some c_spec_l02Good) (h410 : S_l01Rows pg) (h265 : S_turn pg 265) : S_nonDeg pg 350 := by
  intro f s h
  have h0 := h.pos
  have h12 := h.small
  have hl := h.len
  refine Call.intro hp rfl (by simp) ?_
  show wp _ _ c_spec_l02Good.body (post [.t 2] _ _ _) _
  simp [c_spec_l02Good]
  refine callR (h410 f h.tf h0 h12) rfl rfl (fun _ => rfl) ?_
  by_cases h1 : permRows f
  · simp [h1]
    refine callR (h265 s h.ts (by omega)) rfl rfl (fun _ => by simp) ?_
    simp
    refine callR (h410 (turnL s) (turnL_tab h.ts (by omega)) (by simp; omega) (by simp; omega)) rfl rfl (fun _ => rfl) ?_
    simp [nonDeg, h1]
  · simp [h1, nonDeg, undefV]

def isReg (f s : List (List Int)) : Prop := isSol f s ∧ nonDeg f s
def S_reg (pg : Pg) (n : Nat) : Prop := ∀ f s : List (List Int), fits f → fits s → Call pg n [sol f s] [sol f s] (B (dec (isReg f s)))
theorem t_l07Is {pg : Pg} (hp : pg.fn 264 = some c_spec_l07Is) (h41 : S_isSol pg 41) (h350 : S_nonDeg pg 350) : S_reg pg 264 := by
  intro f s hf hs
  refine Call.intro hp rfl (by simp) ?_
  show wp _ _ c_spec_l07Is.body (post [.t 2] _ _ _) _
  simp [c_spec_l07Is]
  refine callR (h41 f s hf hs) rfl rfl (fun _ => rfl) ?_
  by_cases h1 : isSol f s
  · simp [dec_true h1]
    refine callR (h350 f s (PM.of h1.1)) rfl rfl (fun _ => rfl) ?_
    by_cases h2 : nonDeg f s
    · simp [h2, dec_true (show isReg f s from ⟨h1, h2⟩)]
    · simp [h2, dec_false (show ¬ isReg f s from fun h => h2 h.2)]
  · simp [dec_false h1, undefV, dec_false (show ¬ isReg f s from fun h => h1 h.1)]
theorem t_isRegular {pg : Pg} (hp : pg.fn 266 = some c_impl_isRegular) (h42 : S_isSol pg 42) (h285 : S_nonDeg pg 285) : S_reg pg 266 := by
  intro f s hf hs
  refine Call.intro hp rfl (by simp) ?_
  show wp _ _ c_impl_isRegular.body (post [.t 2] _ _ _) _
  simp [c_impl_isRegular]
  refine callR (h42 f s hf hs) rfl rfl (fun _ => rfl) ?_
  by_cases h1 : isSol f s
  · simp [dec_true h1]
    refine callR (h285 f s (PM.of h1.1)) rfl rfl (fun _ => rfl) ?_
    by_cases h2 : nonDeg f s
    · simp [h2, dec_true (show isReg f s from ⟨h1, h2⟩)]
    · simp [h2, dec_false (show ¬ isReg f s from fun h => h2 h.2)]
  · simp [dec_false h1, undefV, dec_false (show ¬ isReg f s from fun h => h1 h.1)]

end Go.Mch
namespace Go.Mch

def thenL (p q : List Int) : List Int := p.map fun x => q.getD x.toNat 0
@[simp] theorem thenL_length (p q : List Int) : (thenL p q).length = p.length := by simp [thenL]
def S_then (pg : Pg) (n : Nat) : Prop := ∀ p q : List Int, p.length ≤ 1048576 → inN q.length p → Call pg n [ix p, ix q] [ix p, ix q] (.mem .own (some 1) ((thenL p q).map I))
theorem thenL_take {p q : List Int} {k : Nat} (hk : k < p.length) (h : (p[k]).toNat < q.length) : (thenL p q).take (k + 1) = (thenL p q).take k ++ [q[(p[k]).toNat]] := by
  rw [List.take_succ_eq_append_getElem (by simpa using hk)]
  simp [thenL, h]
theorem t_l01Then {pg : Pg} (hp : pg.fn 279 = some c_spec_l01Then) : S_then pg 279 := by
  intro p q hl hi
  refine Call.intro hp rfl (by simp) ?_
  show wp _ _ c_spec_l01Then.body (post [.t 4] _ _ _) _
  simp [c_spec_l01Then]
  refine wpLoop_count (fun k e => e = fr [(0, some (.val (ix p))), (1, some (.val (ix q))), (5, some (.val (.mem .own (some 1) (((thenL p q).take k).map I)))), (6, some (.val (I k)))]) p.length ?_ ?_ 0 _ (by omega) ?_
  · rintro k e hk rfl
    have h1 := hi _ (List.getElem_mem hk)
    have h2 : (p[k]).toNat < q.length := by omega
    simp [hk, h1, h2, thenL_take hk h2, roomy]
    omega
  · rintro e rfl
    simp [take_len]
  · simp
def S_equal (pg : Pg) : Prop := ∀ a b : List Int, a.length ≤ 1048576 → Call pg 276 [ix a, ix b] [ix a, ix b] (B (decide (a = b)))
theorem t_equal {pg : Pg} (hp : pg.fn 276 = some c_slices_Equal___int64_int64_) : S_equal pg := by
  intro a b hl
  refine Call.intro hp rfl (by simp) ?_
  show wp _ _ c_slices_Equal___int64_int64_.body (post [.t 4] _ _ _) _
  by_cases hab : a.length = b.length
  · simp [c_slices_Equal___int64_int64_, hab]
    refine wpLoop_count (fun k e => (∀ i, i < k → a[i]? = b[i]?) ∧ e = fr [(0, some (.val (ix a))), (1, some (.val (ix b))), (12, some (.val (I a.length))), (13, some (.val (I k)))]) a.length ?_ ?_ 0 _ (by omega) ?_
    · rintro k e hk ⟨h1, rfl⟩
      have hk2 : k < b.length := by omega
      by_cases hne : a[k] = b[k]
      · simp [hk, hk2, hne]
        refine ⟨by omega, fun i hi => ?_⟩
        rcases Nat.lt_or_ge i k with h2 | h2
        · exact h1 i h2
        · have : i = k := by omega
          subst this
          rw [List.getElem?_eq_getElem hk, List.getElem?_eq_getElem hk2, hne]
      · have : a ≠ b := fun h => hne (by simp [h])
        simp [hk, hk2, hne, this]
    · rintro e ⟨h1, rfl⟩
      have : a = b := by
        apply List.ext_getElem?
        intro i
        rcases Nat.lt_or_ge i a.length with h2 | h2
        · exact h1 i h2
        · rw [List.getElem?_eq_none h2, List.getElem?_eq_none (by omega)]
      simp [this]
    · simp [hab]
  · have : a ≠ b := fun h => hab (by rw [h])
    have h2 : (a.length : Int) ≠ b.length := by omega
    simp [c_slices_Equal___int64_int64_, h2, this]


def S_copyT (pg : Pg) (n : Nat) : Prop := ∀ t : List (List Int), fits t → Call pg n [tb t] [tb t] (.mem .own (some 1) (rows t))
theorem rows_take_succ {t : List (List Int)} {k : Nat} (hk : k < t.length) : rows (t.take (k + 1)) = rows (t.take k) ++ [.mem .own (some 1) ((t[k]).map I)] := by
  rw [List.take_succ_eq_append_getElem hk, rows_append]; rfl
theorem t_l01Own2 {pg : Pg} (hp : pg.fn 280 = some c_spec_l01Own2) (h31 : S_own pg) : S_copyT pg 280 := by
  intro t ht
  have hl := ht.1
  refine Call.intro hp rfl (by simp) ?_
  show wp _ _ c_spec_l01Own2.body (post [.t 2] _ _ _) _
  simp [c_spec_l01Own2]
  refine wpLoop_count (fun k e => e = fr [(0, some (.val (tb t))), (3, some (.val (.mem .own (some 1) (rows (t.take k))))), (4, some (.val (I k)))]) t.length ?_ ?_ 0 _ (by omega) ?_
  · rintro k e hk rfl
    simp [hk]
    refine callR (h31 _ (ht.2 _ (List.getElem_mem hk))) rfl rfl (fun _ => by simp) ?_
    simp [rows_take_succ hk, roomy]
    omega
  · rintro e rfl
    simp [take_len]
  · simp [rows]
theorem t_cloneTable {pg : Pg} (hp : pg.fn 275 = some c_impl_cloneTable) (h36 : S_clone pg) : S_copyT pg 275 := by
  intro t ht
  have hl := ht.1
  refine Call.intro hp rfl (by simp) ?_
  show wp _ _ c_impl_cloneTable.body (post [.t 2] _ _ _) _
  simp [c_impl_cloneTable]
  refine ⟨by unfold roomy; omega, ?_⟩
  refine wpLoop_count (fun k e => e = fr [(3, some (.val (.mem .own (some 1) (rows (t.take k) ++ List.replicate (t.length - k) nil)))), (9, some (.val (tb t))), (10, some (.val (I t.length))), (11, some (.val (I k)))]) t.length ?_ ?_ 0 _ (by omega) ?_
  · rintro k e hk rfl
    have hlen : (rows (t.take k)).length = k := by simp; omega
    rw [fill_succ nil hk]
    simp [hk]
    refine callR (h36 _ (ht.2 _ (List.getElem_mem hk))) rfl rfl (fun _ => by simp) ?_
    simp [rows_take_succ hk, set_mid hlen]
    omega
  · rintro e rfl
    simp [take_len]
  · simp [rows]


abbrev RT := List (List Int) → List (List Int) → List (List Int)
abbrev RI := List (List Int) → List (List Int) → Int
def S_solT (pg : Pg) (n : Nat) (R : RT) (C : RI) : Prop := ∀ f s : List (List Int), fits f → fits s → ∃ o, lso o = R f s ∧ Call pg n [sol f s] [sol f s] (.tup [ownT o, I (C f s)])
noncomputable def onReg {α : Type} (z : α) (X : List (List Int) → List (List Int) → α) (f s : List (List Int)) : α := if dec (isReg f s) then X f s else z
theorem onReg_true {α : Type} {z : α} {X : List (List Int) → List (List Int) → α} {f s : List (List Int)} (h : isReg f s) : onReg z X f s = X f s := by simp [onReg, dec_true h]
theorem onReg_false {α : Type} {z : α} {X : List (List Int) → List (List Int) → α} {f s : List (List Int)} (h : ¬ isReg f s) : onReg z X f s = z := by simp [onReg, dec_false h]

def S_lambda (pg : Pg) (n : Nat) : Prop := S_solT pg n (onReg [] fun f _ => f) (onReg 1 fun _ _ => 0)
theorem t_lam_impl {pg : Pg} (hp : pg.fn 135 = some c_impl_LambdaMaps) (h266 : S_reg pg 266) (h275 : S_copyT pg 275) : S_lambda pg 135 := by
  intro f s hf hs
  by_cases h : isReg f s
  · refine ⟨some f, by simp [onReg_true h], Call.intro hp rfl (by simp) ?_⟩
    show wp _ _ c_impl_LambdaMaps.body (post [.t 2, .t 3] _ _ _) _
    simp [c_impl_LambdaMaps]
    refine callR (h266 f s hf hs) rfl rfl (fun _ => rfl) ?_
    simp [dec_true h, onReg_true h]
    refine callR (h275 f hf) rfl rfl (fun _ => by simp) ?_
    simp [ownT]
  · refine ⟨none, by simp [onReg_false h], Call.intro hp rfl (by simp) ?_⟩
    show wp _ _ c_impl_LambdaMaps.body (post [.t 2, .t 3] _ _ _) _
    simp [c_impl_LambdaMaps]
    refine callR (h266 f s hf hs) rfl rfl (fun _ => rfl) ?_
    simp [dec_false h, onReg_false h, ownT]

def S_rho (pg : Pg) (n : Nat) : Prop := S_solT pg n (onReg [] fun _ s => turnL s) (onReg 1 fun _ _ => 0)
theorem t_rho_impl {pg : Pg} (hp : pg.fn 127 = some c_impl_RhoMaps) (h266 : S_reg pg 266) (h267 : S_turn pg 267) : S_rho pg 127 := by
  intro f s hf hs
  by_cases h : isReg f s
  · have hpm := PM.of h.1.1
    have h12 := hpm.small
    have hl := hpm.len
    refine ⟨some (turnL s), by simp [onReg_true h], Call.intro hp rfl (by simp) ?_⟩
    show wp _ _ c_impl_RhoMaps.body (post [.t 2, .t 3] _ _ _) _
    simp [c_impl_RhoMaps]
    refine callR (h266 f s hf hs) rfl rfl (fun _ => rfl) ?_
    simp [dec_true h, onReg_true h]
    refine callR (h267 s hpm.ts (by omega)) rfl rfl (fun _ => by simp) ?_
    simp [ownT]
  · refine ⟨none, by simp [onReg_false h], Call.intro hp rfl (by simp) ?_⟩
    show wp _ _ c_impl_RhoMaps.body (post [.t 2, .t 3] _ _ _) _
    simp [c_impl_RhoMaps]
    refine callR (h266 f s hf hs) rfl rfl (fun _ => rfl) ?_
    simp [dec_false h, onReg_false h, ownT]


def abel (f : List (List Int)) : Prop := ∀ x y : Nat, x < f.length → y < f.length → thenL (f.getD x []) (f.getD y []) = thenL (f.getD y []) (f.getD x [])
instance (f : List (List Int)) : Decidable (abel f) := by
  have : abel f ↔ ∀ x ∈ List.range f.length, ∀ y ∈ List.range f.length, thenL (f.getD x []) (f.getD y []) = thenL (f.getD y []) (f.getD x []) := by
    simp only [abel, List.mem_range]
    exact ⟨fun h x hx y hy => h x y hx hy, fun h x y hx hy => h x hx y hy⟩
  exact decidable_of_iff _ this.symm
theorem Tab.inN {t : List (List Int)} (h : Tab t) {x : Nat} (hx : x < t.length) : inN t.length t[x] := fun v hv => (h _ (List.getElem_mem hx)).2 v hv

end Go.Mch
namespace Go.Mch

def act (p : List Int) (x : Int) : Int := p.getD x.toNat 0
def Cl (ms : List (List Int)) (S : Int → Prop) : Prop := ∀ x, S x → ∀ p ∈ ms, S (act p x)
def Rch (ms : List (List Int)) (i x : Int) : Prop := ∀ S : Int → Prop, S i → Cl ms S → S x

noncomputable def markO (ms : List (List Int)) (i : Int) (lab : List Int) (c : Int) : List Int := (List.range lab.length).map fun x : Nat => if dec (Rch ms i x) then c else lab.getD x 0
@[simp] theorem markO_length (ms : List (List Int)) (i : Int) (lab : List Int) (c : Int) : (markO ms i lab c).length = lab.length := by simp [markO]
noncomputable def orbS (ms : List (List Int)) (n : Nat) : Nat → List Int × Int
  | 0 => (List.replicate n (-1), 0)
  | k + 1 => if 0 ≤ (orbS ms n k).1.getD k 0 then orbS ms n k else (markO ms k (orbS ms n k).1 (orbS ms n k).2, (orbS ms n k).2 + 1)
noncomputable def orbL (ms : List (List Int)) (n : Nat) : List Int := (orbS ms n n).1
@[simp] theorem orbS_length (ms : List (List Int)) (n k : Nat) : (orbS ms n k).1.length = n := by
  induction k with
  | zero => simp [orbS]
  | succ k ih => unfold orbS; split <;> simp [ih]
@[simp] theorem orbL_length (ms : List (List Int)) (n : Nat) : (orbL ms n).length = n := by simp [orbL]

end Go.Mch
namespace Go.Mch

theorem bx {α β : Type} {o : Option α} {f : α → Prop} {g : β → α → Prop} (hf : ∀ a, f a → ∃ r, g r a) (h : bindP o f) : ∃ r, bindP o (g r) := by
  obtain ⟨a, h1, h2⟩ := h
  obtain ⟨r, h3⟩ := hf a h2
  exact ⟨r, a, h1, h3⟩
theorem ax {β : Type} {p : Prop} {K : β → Prop} (h : p ∧ ∃ r, K r) : ∃ r, p ∧ K r := by
  obtain ⟨h1, r, h2⟩ := h
  exact ⟨r, h1, h2⟩

theorem stepQ_ex {β : Type} {G : Rl} {m : K} {d : Option Nat} {q : Q} {k : β → Env → Prop} {e : Env} (h : stepQ G m d q (fun e => ∃ r, k r e) e) : ∃ r, stepQ G m d q (k r) e := by
  cases q <;> simp only [stepQ] at h ⊢
  case mv => exact bx (fun _ h => h) h
  case mvw => exact bx (fun _ h => ax h) h
  case stsw => exact bx (fun _ h => bx (fun _ h => bx (fun _ h => ax ⟨h.1, bx (fun _ h => h) h.2⟩) h) h) h
  case sts x y =>
    refine bx (fun a ha => bx (fun v hv => ?_) ha) h
    split at hv
    · split at hv
      · exact ax hv
      · exact hv.elim
    · exact hv.elim
  case asg x =>
    refine bx (fun v hv => ?_) h
    cases v
    case val t => exact hv
    all_goals exact bx (fun _ h => h) hv
  case pick => exact bx (fun _ h => bx (fun _ h => h) h) h
  case bin => exact bx (fun _ h => bx (fun _ h => bx (fun _ h => h) h) h) h
  case beq => exact bx (fun _ h => bx (fun _ h => h) h) h
  case isnil => exact bx (fun _ h => h) h
  case fncl => exact bx (fun _ h => bx (fun _ h => h) h) h
  case slen => exact bx (fun _ h => h) h
  case un => exact bx (fun _ h => bx (fun _ h => h) h) h
  case conv => exact bx (fun _ h => h) h
  case len => exact bx (fun _ h => h) h
  case idx => exact bx (fun _ h => bx (fun _ h => bx (fun _ h => h) h) h) h
  case fld => exact bx (fun _ h => bx (fun _ h => h) h) h
  case fldv => exact bx (fun _ h => bx (fun _ h => h) h) h
  case ld => exact bx (fun _ h => bx (fun _ h => h) h) h
  case st =>
    refine bx (fun a ha => bx (fun v hv => bx (fun y hy => ?_) hv) ha) h
    split at hy
    · split at hy
      · exact ax hy
      · exact hy.elim
    · exact hy.elim
  case nilck =>
    refine bx (fun a ha => ?_) h
    split at ha
    · exact ha
    · exact ha
    · exact ha.elim
  case alloc => exact h
  case box => exact bx (fun _ h => bx (fun _ h => ax h) h) h
  case build => exact bx (fun _ h => bx (fun _ h => h) h) h
  case mks => exact bx (fun _ h => ax h) h
  case bsl => exact bx (fun _ h => bx (fun _ h => ax h) h) h
  case app =>
    refine bx (fun a ha => bx (fun b hb => bx (fun z hz => bx (fun u hu => ?_) hz) hb) ha) h
    have h2 := hu.2
    split at h2
    · by_cases h0 : u.1 = []
      · obtain ⟨r, h3⟩ := h2.1 h0
        exact ⟨r, hu.1, fun _ => h3, fun h4 => (h4 h0).elim⟩
      · obtain ⟨r, h3⟩ := h2.2 h0
        exact ⟨r, hu.1, fun h4 => (h0 h4).elim, fun _ => h3⟩
    · obtain ⟨r, h3⟩ := h2
      exact ⟨r, hu.1, h3⟩
  case sl => exact bx (fun _ h => bx (fun _ h => bx (fun _ h => bx (fun _ h => h) h) h) h) h
  case ext => exact bx (fun _ h => bx (fun _ h => h) h) h
  case fnc => exact bx (fun _ h => h) h
  case call f args =>
    refine bx (fun fv hv => ?_) h
    split at hv
    · refine bx (fun ts ht => ?_) hv
      obtain ⟨ts', r, h1, h2, h3, h4⟩ := ht
      obtain ⟨y, h5⟩ := bx (fun _ h => h) h4
      exact ⟨y, ts', r, h1, h2, h3, h5⟩
    · exact hv.elim
  case freeze => exact bx (fun _ h => h) h
  case settle => exact bx (fun _ h => h) h
  case mm => exact bx (fun _ h => bx (fun _ h => bx (fun _ h => h) h) h) h
  case cap0 => exact bx (fun _ h => bx (fun _ h => h) h) h
  case bstr => exact bx (fun _ h => bx (fun _ h => h) h) h
  case bsls => exact bx (fun _ h => bx (fun _ h => ax h) h) h
  case bslv => exact bx (fun _ h => bx (fun _ h => h) h) h
  case tk1 => exact bx (fun _ h => bx (fun _ h => ax h) h) h
  case exts => exact bx (fun _ h => bx (fun _ h => h) h) h
  case mvs => exact bx (fun _ h => bx (fun _ h => h) h) h
  case bslw => exact bx (fun _ h => bx (fun _ h => h) h) h
  case calls => exact bx (fun _ h => bx (fun _ h => bx (fun _ h => bx (fun _ h => bx (fun _ h => bx (fun _ h => bx (fun _ h => by
    obtain ⟨h0, ts', r, h1, x, h2⟩ := h
    exact ⟨x, h0, ts', r, h1, h2⟩) h) h) h) h) h) h) h
  case bsl1 n =>
    refine bx (fun v hv => ?_) h
    split at hv
    · exact ax hv
    · exact hv.elim
  case apz =>
    refine bx (fun v hv => bx (fun _ hv => ?_) hv) h
    split at hv
    · exact ax hv
    · exact hv.elim
  case arr => exact bx (fun _ h => bx (fun _ h => bx (fun _ h => h) h) h) h
  case mkset => exact h
  case look => exact bx (fun _ h => bx (fun _ h => bx (fun _ h => h) h) h) h
  case upd => exact bx (fun _ h => bx (fun _ h => bx (fun _ h => h) h) h) h
  case bslk x n =>
    refine bx (fun v hv => bx (fun u hu => ?_) hv) h
    split at hu
    · exact ax hu
    · exact hu.elim
  case appk x y n =>
    refine bx (fun v hv => bx (fun v hv => bx (fun v hv => bx (fun v hv => bx (fun u hu => ?_) hv) hv) hv) hv) h
    split at hu
    · exact ax hu
    · exact hu.elim
  case boxk s =>
    refine bx (fun v hv => ?_) h
    split at hv
    · exact ax hv
    · exact hv.elim
  case callm f args ks =>
    refine bx (fun fv hv => ?_) h
    cases fv <;> try exact hv.elim
    rename_i t
    cases t <;> try exact hv.elim
    refine bx (fun vs hv => ax ⟨hv.1, bx (fun y hy => ?_) hv.2⟩) hv
    obtain ⟨h0, ts', r, h1, h2, h3⟩ := hy
    obtain ⟨z, h4⟩ := bx (fun _ h => bx (fun _ h => h) h) h3
    exact ⟨z, h0, ts', r, h1, h2, h4⟩
  refine bx (fun a ha => bx (fun n hn => ?_) ha) h
  split at hn
  · exact bx (fun _ h => h) hn
  · exact hn.elim

theorem stepO_ex {β : Type} {G : Rl} {m : K} {o : O} {k : β → Env → Prop} {e : Env} (h : stepO G m o (fun e => ∃ r, k r e) e) : ∃ r, stepO G m o (k r) e := by
  unfold stepO at *
  split
  · rename_i hg; simp only [hg] at h; exact stepQ_ex h
  · rename_i s b hg
    simp only [hg] at h
    split at h
    · split at h
      · rename_i h1; simp only [if_pos h1]; exact stepQ_ex h
      · rename_i h1; simp only [if_neg h1]; exact h
    · exact h
    · exact h.elim

theorem wpL_ex {β : Type} {G : Rl} {m : K} : ∀ (l : List O) {k : β → Env → Prop} {e : Env}, wpL G m l (fun e => ∃ r, k r e) e → ∃ r, wpL G m l (k r) e
  | [], _, _, h => h
  | _ :: l, k, _, h => stepO_ex (k := fun r => wpL G m l (k r)) (stepO_mono (fun _ _ _ _ h => h) (fun _ h => wpL_ex l h) h)

theorem after_ex {β : Type} {n : β → Env → Prop} {R : β → X → Env → Prop} : ∀ x e, X.after (fun e => ∃ r, n r e) (fun x e => ∃ r, R r x e) x e → ∃ r, X.after (n r) (R r) x e
  | .nrm, _, h => h
  | .ext _, _, h => h
  | .ret, _, h => h

theorem wp_ex {β : Type} {G : Rl} {m : K} (c : C) : ∀ {R : β → X → Env → Prop} {e : Env}, wp G m c (fun x e => ∃ r, R r x e) e → ∃ r, wp G m c (R r) e := by
  induction c with
  | skip => exact fun h => h
  | region dr ops ks => exact fun h => wpL_ex ops h
  | seq a b iha ihb =>
    intro R e h
    exact iha (wp_mono (fun _ _ _ _ h => h) a (fun x e hx => after_ex x e (after_mono (fun _ h => ihb h) (fun _ _ h => h) x e hx)) h)
  | cond c a b iha ihb =>
    intro R e h
    refine bx (fun t ht => ?_) h
    cases t
    · exact ihb ht
    · exact iha ht
  | block id b ih =>
    intro R e h
    refine ih (wp_mono (fun _ _ _ _ h => h) b (fun x e hx => ?_) h)
    cases x
    · exact hx
    · simp only [X.out] at hx ⊢
      split at hx
      · rename_i h1; simp only [if_pos h1]; exact hx
      · rename_i h1; simp only [if_neg h1]; exact hx
    · exact hx
  | loop b ih =>
    intro R e h
    refine h (fun e => ∃ r, wp G m (.loop b) (R r) e) fun e he => ?_
    obtain ⟨r, hr⟩ := ih (R := fun r => X.after (wp G m (.loop b) (R r)) (R r)) (wp_mono (fun _ _ _ _ h => h) b (fun x e hx => after_ex x e hx) he)
    exact ⟨r, wpLoop_round hr⟩
  | exit id => exact fun h => h
  | ret => exact fun h => h
  | stuck => exact fun h => h.elim

theorem Call.find {α : Type} {pg : Pg} {f : Nat} {args : List T} {fn : F} {r : α → T} {Q : α → Prop} (hf : pg.fn f = some fn) (hn : fn.np = args.length) (hl : T.noOwnL args = true)
    (h : wp (Call pg) .fresh fn.body (fun x e => ∃ l, Q l ∧ post fn.rs args args (r l) x e) (init args)) : ∃ l, Q l ∧ Call pg f args args (r l) := by
  obtain ⟨⟨l, hq⟩, hl2⟩ := wp_ex (β := { l // Q l }) (R := fun l x e => post fn.rs args args (r l.1) x e) fn.body (wp_mono (fun _ _ _ _ h => h) _ (fun _ _ ⟨l, hq, hp⟩ => ⟨⟨l, hq⟩, hp⟩) h)
  exact ⟨l, hq, Call.intro hf hn hl hl2⟩
end Go.Mch
namespace Go.Mch

@[simp] theorem dec_True : dec True = true := dec_true trivial
@[simp] theorem dec_False : dec False = false := dec_false id

end Go.Mch
namespace Go.Mch

def S_indexIn (pg : Pg) (n : Nat) : Prop := ∀ (xs : List Int) (v : Int), xs.length ≤ 1048576 → Call pg n [ix xs, I v] [ix xs, I v] (I (ixOf xs v))
theorem t_slicesIndex {pg : Pg} (hp : pg.fn 384 = some c_slices_Index___int64_int64_) : S_indexIn pg 384 := by
  intro xs v hl
  refine Call.intro hp rfl (by simp) ?_
  show wp _ _ c_slices_Index___int64_int64_.body (post [.t 4] _ _ _) _
  simp [c_slices_Index___int64_int64_]
  refine wpLoop_count (fun k e => (∀ i (h : i < xs.length), i < k → xs[i] ≠ v) ∧ e = fr [(0, some (.val (ix xs))), (1, some (.val (I v))), (7, some (.val (I xs.length))), (8, some (.val (I k)))]) xs.length ?_ ?_ 0 _ (by omega) ?_
  · rintro k e hk ⟨h1, rfl⟩
    by_cases hm : xs[k] = v
    · have := ixOf_at hk (fun i hi => h1 i (by omega) hi) hm
      simp [hk, hm, this]
    · have hm2 : ¬ v = xs[k] := fun h => hm h.symm
      simp [hk, hm2]
      refine ⟨by omega, fun i hi hik => ?_⟩
      rcases Nat.lt_or_ge i k with h2 | h2
      · exact h1 i hi h2
      · have : i = k := by omega
        subst this; exact hm
  · rintro e ⟨h1, rfl⟩
    have := ixOf_none (xs := xs) (n := v) (fun i hi => h1 i hi hi)
    simp [this]
  · simp
def gbL (f : List (List Int)) (w : List Int) : Nat → List Int
  | 0 => []
  | i + 1 => gbL f w i ++ [(gbL f w i).foldl (fun x o => ixOf (f.getD o.toNat []) x) (w.getD i 0)]
@[simp] theorem gbL_length (f : List (List Int)) (w : List Int) : ∀ i, (gbL f w i).length = i
  | 0 => rfl
  | i + 1 => by simp [gbL, gbL_length f w i]
end Go.Mch
namespace Go.Mch

def uniqs (xs : List Int) : List Int := xs.foldl (fun s x => if x ∈ s then s else s ++ [x]) []
theorem uniqs_succ {xs : List Int} {k : Nat} (hk : k < xs.length) : uniqs (xs.take (k + 1)) = if xs[k] ∈ uniqs (xs.take k) then uniqs (xs.take k) else uniqs (xs.take k) ++ [xs[k]] := by
  rw [List.take_succ_eq_append_getElem hk]
  simp only [uniqs, List.foldl_append, List.foldl_cons, List.foldl_nil]
  rfl
theorem eryI_snoc (s : List Int) (x : Int) : T.eryL .old (s.map I ++ [I x]) = (s ++ [x]).map I := by
  rw [show s.map I ++ [I x] = (s ++ [x]).map I from by simp, eryL_mapI]
theorem uniqs_len (xs : List Int) : (uniqs xs).length ≤ xs.length := by
  have : ∀ (l s : List Int), (l.foldl (fun s x => if x ∈ s then s else s ++ [x]) s).length ≤ s.length + l.length := by
    intro l
    induction l with
    | nil => intro s; simp
    | cons x l ih =>
      intro s
      simp only [List.foldl_cons, List.length_cons]
      refine Nat.le_trans (ih _) ?_
      split <;> simp <;> omega
  simpa [uniqs] using this xs []
theorem ixOf_new {s : List Int} {x : Int} (h : x ∉ s) : ixOf (s ++ [x]) x = s.length :=
  ixOf_at (by simp) (fun i hi he => h (by rw [← he, List.getElem_append_left hi]; exact List.getElem_mem hi)) (by simp)
def renum (xs : List Int) : List Int := (List.range xs.length).map fun k => ixOf (uniqs (xs.take (k + 1))) (xs.getD k 0)
@[simp] theorem renum_length (xs : List Int) : (renum xs).length = xs.length := by simp [renum]

def S_renum (pg : Pg) (n : Nat) : Prop := ∀ xs : List Int, xs.length ≤ 1048576 → Call pg n [ix xs] [ix xs] (.mem .own (some 1) ((renum xs).map I))
theorem t_renumber {pg : Pg} (hp : pg.fn 385 = some c_spec_l07Renumber) (h62 : S_has pg) (h69 : S_index pg) : S_renum pg 385 := by
  intro xs hl
  refine Call.intro hp rfl (by simp) ?_
  show wp _ _ c_spec_l07Renumber.body (post [.t 2] _ _ _) _
  simp [c_spec_l07Renumber]
  refine wpLoop_count (fun k e => e = fr [(0, some (.val (ix xs))), (3, some (.val (.mem .own (some 1) ((uniqs (xs.take k)).map I)))), (4, some (.val (.mem .own (some 1) (((List.range k).map fun k => ixOf (uniqs (xs.take (k + 1))) (xs.getD k 0)).map I)))), (5, some (.val (I k)))]) xs.length ?_ ?_ 0 _ (by omega) ?_
  · rintro k e hk rfl
    have hu := uniqs_len (xs.take k)
    have hu2 := uniqs_len (xs.take (k + 1))
    simp only [List.length_take] at hu hu2
    simp [hk]
    refine callR (h62 _ _ (by omega)) rfl rfl (fun _ => rfl) ?_
    have hs := uniqs_succ hk
    by_cases hm : xs[k] ∈ uniqs (xs.take k)
    · rw [if_pos hm] at hs
      simp [hm, hk]
      refine callR (h69 _ _ (by omega)) rfl rfl (fun _ => rfl) ?_
      simp [map_range_succ, hs, hk, roomy]
      omega
    · rw [if_neg hm] at hs
      simp [hm, hk, roomy]
      refine ⟨by omega, ?_⟩
      have := h69 (uniqs (xs.take k) ++ [xs[k]]) xs[k] (by rw [← hs]; omega)
      rw [eryI_snoc]
      refine callR this rfl rfl (fun _ => rfl) ?_
      simp [map_range_succ, hs, hk, roomy]
      omega
  · rintro e rfl
    simp [renum]
  · simp [uniqs]

def S_index0 (pg : Pg) : Prop := ∀ v : Int, Call pg 384 [nil, I v] [nil, I v] (I (-1))
theorem t_slicesIndex0 {pg : Pg} (hp : pg.fn 384 = some c_slices_Index___int64_int64_) : S_index0 pg := by
  intro v
  refine Call.intro hp rfl (by simp) ?_
  show wp _ _ c_slices_Index___int64_int64_.body (post [.t 4] _ _ _) _
  simp [c_slices_Index___int64_int64_]
  refine wpLoop_round ?_
  simp
set_option maxRecDepth 10000 in
theorem t_numbered {pg : Pg} (hp : pg.fn 386 = some c_impl_numbered) (h384 : S_indexIn pg 384) (h0 : S_index0 pg) : S_renum pg 386 := by
  intro xs hl
  refine Call.intro hp rfl (by simp) ?_
  show wp _ _ c_impl_numbered.body (post [.t 2] _ _ _) _
  simp [c_impl_numbered]
  refine ⟨by unfold roomy; omega, ?_⟩
  refine wpLoop_count (fun k e => e = fr [(3, some (.val (if k = 0 then nil else .mem .own (some 1) ((uniqs (xs.take k)).map I)))), (4, some (.val (.mem .own (some 1) (((List.range k).map fun k => ixOf (uniqs (xs.take (k + 1))) (xs.getD k 0)).map I ++ List.replicate (xs.length - k) (I 0))))), (11, some (.val (ix xs))), (12, some (.val (I xs.length))), (13, some (.val (I k)))]) xs.length ?_ ?_ 0 _ (by omega) ?_
  · rintro k e hk rfl
    have hu := uniqs_len (xs.take k)
    simp only [List.length_take] at hu
    have hlen : (((List.range k).map fun k => ixOf (uniqs (xs.take (k + 1))) (xs.getD k 0)).map I).length = k := by simp
    rw [fill_succ (I 0) hk]
    have hs := uniqs_succ hk
    by_cases hk0 : k = 0
    · subst hk0
      have hs : uniqs (xs.take 1) = [xs[0]] := by simpa [uniqs] using hs
      have hi : ixOf [xs[0]] xs[0] = 0 := by simp [ixOf]
      simp [hk]
      refine callR (h0 _) rfl rfl (fun _ => rfl) ?_
      simp [roomy, hs, hi]
    · simp [hk, hk0]
      refine callR (h384 _ _ (by omega)) rfl rfl (fun _ => rfl) ?_
      have hm := ixOf_mem (uniqs (xs.take k)) xs[k]
      by_cases hm2 : xs[k] ∈ uniqs (xs.take k)
      · rw [if_pos hm2] at hs
        have h1 : ¬ ixOf (uniqs (xs.take k)) xs[k] < 0 := by have := hm.2 hm2; omega
        simp [h1, hk, map_range_succ, hs]
        omega
      · rw [if_neg hm2] at hs
        have h1 : ixOf (uniqs (xs.take k)) xs[k] < 0 := by
          have := mt hm.1 hm2; omega
        have h2 := ixOf_new hm2
        simp [h1, hk, map_range_succ, hs, h2, roomy]
        omega
  · rintro e rfl
    simp [renum]
  · simp
end Go.Mch
namespace Go.Mch

theorem PM.fitsF {f s : List (List Int)} (h : PM f s) : fits f := ⟨by have := h.small; omega, fun r hr => by have := (h.tf r hr).1; have := h.small; omega⟩
theorem frzL_rows (k : K) (t : List (List Int)) : T.frzL k (rows t) = t.map fun xs => .mem k (some 1) (xs.map I) := by
  have hI : ∀ xs : List Int, T.frzL k (xs.map I) = xs.map I := fun xs => by
    induction xs with
    | nil => rfl
    | cons x xs ih => simp [ih]
  induction t with
  | nil => rfl
  | cons r t ih =>
    show T.frz k _ :: T.frzL k (rows t) = _
    rw [ih]
    simp [hI]
theorem frz_rows_old (t : List (List Int)) : T.noOwnL (T.frzL .fresh (rows t)) = true ∧ T.eryL .old (T.frzL .fresh (rows t)) = tbL t := by
  rw [frzL_rows]
  induction t with
  | nil => exact ⟨rfl, rfl⟩
  | cons r t ih => exact ⟨by simp [ih.1], by simp [ih.2, tbL]⟩

end Go.Mch
namespace Go.Mch

def greatest (xs : List Int) : Int := xs.foldl (fun a x => if a ≤ x then x + 1 else a) 0
theorem greatest_succ {xs : List Int} {k : Nat} (hk : k < xs.length) : greatest (xs.take (k + 1)) = if greatest (xs.take k) ≤ xs[k] then xs[k] + 1 else greatest (xs.take k) := by
  rw [List.take_succ_eq_append_getElem hk]
  simp only [greatest, List.foldl_append, List.foldl_cons, List.foldl_nil]
  rfl
def S_greatest (pg : Pg) : Prop := ∀ xs : List Int, xs.length ≤ 1048576 → (∀ x ∈ xs, 0 ≤ x ∧ x ≤ 1048576) → Call pg 288 [ix xs] [ix xs] (I (greatest xs))
theorem t_greatest {pg : Pg} (hp : pg.fn 288 = some c_spec_l01Greatest) : S_greatest pg := by
  intro xs hl hx
  refine Call.intro hp rfl (by simp) ?_
  show wp _ _ c_spec_l01Greatest.body (post [.t 2] _ _ _) _
  simp [c_spec_l01Greatest]
  refine wpLoop_count (fun k e => e = fr [(0, some (.val (ix xs))), (3, some (.val (I (greatest (xs.take k))))), (4, some (.val (I k)))]) xs.length ?_ ?_ 0 _ (by omega) ?_
  · rintro k e hk rfl
    have h1 := hx _ (List.getElem_mem hk)
    have hs := greatest_succ hk
    by_cases hg : greatest (xs.take k) ≤ xs[k]
    · rw [if_pos hg] at hs
      simp [hk, hg, hs]
      omega
    · rw [if_neg hg] at hs
      simp [hk, hg, hs]
      omega
  · rintro e rfl
    simp
  · simp [greatest]
def eqv (a b : List (List Int)) (i j : Nat) : Prop := a.getD i [] = a.getD j [] ∧ b.getD i [] = b.getD j []
instance (a b : List (List Int)) (i j : Nat) : Decidable (eqv a b i j) := by unfold eqv; infer_instance
def lab (a b : List (List Int)) (i : Nat) : Nat := ((List.range i).find? fun j => decide (eqv a b i j)).getD i
theorem lab_eq {a b : List (List Int)} {i m : Nat} (h1 : m ≤ i) (h2 : m < i → eqv a b i m) (h3 : ∀ k, k < m → ¬ eqv a b i k) : lab a b i = m := by
  unfold lab
  rcases Nat.lt_or_ge m i with h | h
  · have : (List.range i).find? (fun j => decide (eqv a b i j)) = some m := by
      rw [List.find?_range_eq_some]
      exact ⟨by simpa using h2 h, by simpa using h, fun j hj => by simpa using h3 j hj⟩
    rw [this]; rfl
  · have hm : m = i := by omega
    subst hm
    have : (List.range m).find? (fun j => decide (eqv a b m j)) = none := by
      rw [List.find?_range_eq_none]
      intro j hj
      simpa using h3 j hj
    rw [this]; rfl
theorem lab_first {a b : List (List Int)} {i j : Nat} (h1 : eqv a b i j) (h3 : ∀ k, k < j → ¬ eqv a b i k) : lab a b j = j :=
  lab_eq (Nat.le_refl _) (fun h => by omega) (fun k hk hh => h3 k hk ⟨h1.1.trans hh.1, h1.2.trans hh.2⟩)
def classes (f s : List (List Int)) : List Int := renum ((List.range f.length).map fun i => (lab f (turnL s) i : Int))
@[simp] theorem classes_length (f s : List (List Int)) : (classes f s).length = f.length := by simp [classes]
def S_classes (pg : Pg) (n : Nat) : Prop := ∀ f s : List (List Int), PM f s → Call pg n [sol f s] [sol f s] (.mem .own (some 1) ((classes f s).map I))

theorem getD_row {t : List (List Int)} {i : Nat} (h : i < t.length) : t.getD i [] = t[i] := by simp [h]
set_option maxRecDepth 10000 in
theorem t_l08Classes {pg : Pg} (hp : pg.fn 289 = some c_spec_l08Classes) (h265 : S_turn pg 265) (h67 : S_same pg) (h385 : S_renum pg 385) : S_classes pg 289 := by
  intro f s h
  have h0 := h.pos
  have h12 := h.small
  have hls := h.len
  refine Call.intro hp rfl (by simp) ?_
  show wp _ _ c_spec_l08Classes.body (post [.t 2] _ _ _) _
  simp [c_spec_l08Classes]
  refine callR (h265 s h.ts (by omega)) rfl rfl (fun _ => by simp) ?_
  have hb : (turnL s).length = f.length := by simp [hls]
  have hbr : ∀ r ∈ turnL s, r.length ≤ 1048576 := fun r hr => by rw [tabL_row hr]; omega
  generalize hbe : turnL s = b at *
  simp
  refine wpLoop_count (fun i e => e = fr [(1, some (.val (.mem .own none [tb f, tb s]))), (3, some (.val (.mem .own (some 1) (rows b)))), (4, some (.val (.mem .own (some 1) (((List.range i).map fun i => (lab f b i : Int)).map I)))), (5, some (.val (I i)))]) f.length ?_ ?_ 0 _ (by omega) ?_
  · rintro i e hi rfl
    have hib : i < b.length := by omega
    simp [hi]
    refine ⟨by omega, ?_⟩
    refine wpLoop_count (fun c e => ∃ m : Nat, m ≤ i ∧ i - c ≤ m ∧ (m < i → eqv f b i m) ∧ (∀ k, i - c ≤ k → k < m → ¬ eqv f b i k) ∧ e = fr [(1, some (.val (.mem .own none [tb f, tb s]))), (3, some (.val (.mem .own (some 1) (rows b)))), (4, some (.val (.mem .own (some 1) (((List.range i).map fun i => (lab f b i : Int)).map I)))), (5, some (.val (I i))), (6, some (.val (I m))), (7, some (.val (I ((i : Int) - 1 - c))))]) i ?_ ?_ 0 _ (by omega) ?_
    · rintro c e hc ⟨m, hm1, hm2, hm3, hm4, rfl⟩
      have hj : (i : Int) - 1 - c = ((i - 1 - c : Nat) : Int) := by omega
      rw [hj]
      generalize hje : i - 1 - c = j at *
      have hji : j < i := by omega
      have hjf : j < f.length := by omega
      have hjb : j < b.length := by omega
      have hj0 : (0 : Int) ≤ j := by omega
      have l1 : (f[i]).length ≤ 1048576 := by have := (h.tf _ (List.getElem_mem hi)).1; omega
      have l2 : (b[i]).length ≤ 1048576 := hbr _ (List.getElem_mem hib)
      simp [hi, hjf]
      refine callR (h67 _ _ l1) rfl rfl (fun _ => rfl) ?_
      by_cases q1 : f[i] = f[j]
      · have e1 : (rows b)[i]? = some (.mem .own (some 1) (b[i].map I)) := by simp [rows, hib]
        have e2 : (rows b)[j]? = some (.mem .own (some 1) (b[j].map I)) := by simp [rows, hjb]
        simp [q1, hib, hjb]
        refine callR (h67 _ _ l2) rfl rfl (fun _ => rfl) ?_
        by_cases q2 : b[i] = b[j]
        · have hq : eqv f b i j := ⟨by rw [getD_row hi, getD_row hjf]; exact q1, by rw [getD_row hib, getD_row hjb]; exact q2⟩
          simp [q2]
          refine ⟨by omega, j, by omega, by omega, fun _ => hq, fun k h1 h2 => by omega, ?_⟩
          rw [show (j : Int) - 1 = (i : Int) - 1 - ((c : Int) + 1) from by omega]
        · have hq : ¬ eqv f b i j := fun hh => q2 (by rw [← getD_row hib, ← getD_row hjb]; exact hh.2)
          simp [q2]
          refine ⟨by omega, m, hm1, by omega, hm3, fun k h1 h2 => ?_, ?_⟩
          · by_cases hk : k = j
            · subst hk; exact hq
            · exact hm4 k (by omega) h2
          · rw [show (j : Int) - 1 = (i : Int) - 1 - ((c : Int) + 1) from by omega]
      · have hq : ¬ eqv f b i j := fun hh => q1 (by rw [← getD_row hi, ← getD_row hjf]; exact hh.1)
        simp [q1, undefV]
        refine ⟨by omega, m, hm1, by omega, hm3, fun k h1 h2 => ?_, ?_⟩
        · by_cases hk : k = j
          · subst hk; exact hq
          · exact hm4 k (by omega) h2
        · rw [show (j : Int) - 1 = (i : Int) - 1 - ((c : Int) + 1) from by omega]
    · rintro e ⟨m, hm1, hm2, hm3, hm4, rfl⟩
      have hl := lab_eq hm1 hm3 (fun k hk => hm4 k (by omega) hk)
      have hneg : ¬ ((i : Int) ≤ (i : Int) - 1) := by omega
      simp [map_range_succ, hl, roomy, hneg]
      omega
    · exact ⟨i, by omega, by omega, fun h => by omega, fun k h1 h2 => by omega, by simp⟩
  · rintro e rfl
    have hr := h385 ((List.range f.length).map fun i => (lab f b i : Int)) (by simp; omega)
    have hcl : classes f s = renum ((List.range f.length).map fun i => (lab f b i : Int)) := by rw [classes, hbe]
    have hlL : ((List.range f.length).map fun i => (lab f b i : Int)).length = f.length := by simp
    rw [hcl]
    generalize ((List.range f.length).map fun i => (lab f b i : Int)) = L at hr hlL ⊢
    simp [← hlL]
    refine callR hr rfl rfl (fun _ => by simp) ?_
    simp
  · simp

def idL (n : Nat) : List Int := (List.range n).map fun i : Nat => (i : Int)
@[simp] theorem idL_length (n : Nat) : (idL n).length = n := by simp [idL]
theorem idL_succ (n : Nat) : idL (n + 1) = idL n ++ [(n : Int)] := by simp [idL, List.range_succ]
def S_identity (pg : Pg) : Prop := ∀ n : Nat, n ≤ 1048576 → Call pg 335 [I n] [I n] (.mem .own (some 1) ((idL n).map I))
theorem t_identity {pg : Pg} (hp : pg.fn 335 = some c_impl_identity) : S_identity pg := by
  intro n hn
  refine Call.intro hp rfl (by simp) ?_
  show wp _ _ c_impl_identity.body (post [.t 2] _ _ _) _
  simp [c_impl_identity]
  refine ⟨by unfold roomy; omega, ?_⟩
  refine wpLoop_count (fun k e => e = fr [(3, some (.val (.mem .own (some 1) ((idL k).map I ++ List.replicate (n - k) (I 0))))), (8, some (.val (I n))), (9, some (.val (I k)))]) n ?_ ?_ 0 _ (by omega) ?_
  · rintro k e hk rfl
    have hlen : ((idL k).map I).length = k := by simp
    rw [fill_succ (I 0) hk]
    simp [hk, set_mid hlen, idL_succ]
    omega
  · rintro e rfl
    simp
  · simp [idL]

def midL (a b : List (List Int)) (n i : Nat) : List Int := (List.range n).map fun x : Nat => if x < i then (lab a b x : Int) else (x : Int)
@[simp] theorem midL_length (a b : List (List Int)) (n i : Nat) : (midL a b n i).length = n := by simp [midL]
theorem midL_get {a b : List (List Int)} {n i j : Nat} (hi : j < i) (h : j < (midL a b n i).length) : (midL a b n i)[j] = (lab a b j : Int) := by simp [midL, hi]
theorem midL_zero (a b : List (List Int)) (n : Nat) : midL a b n 0 = idL n := by simp [midL, idL]
theorem midL_last (a b : List (List Int)) (n : Nat) : midL a b n n = (List.range n).map fun x => (lab a b x : Int) := by
  apply List.map_congr_left
  intro x hx
  rw [if_pos (by simpa using hx)]
theorem midL_set (a b : List (List Int)) (n i : Nat) : (midL a b n i).set i (lab a b i : Int) = midL a b n (i + 1) := by
  apply List.ext_getElem
  · simp
  · intro k h1 h2
    simp only [List.getElem_set, midL, List.getElem_map, List.getElem_range]
    by_cases hk : i = k
    · subst hk; simp
    · rw [if_neg hk]
      by_cases h3 : k < i
      · rw [if_pos h3, if_pos (by omega)]
      · rw [if_neg h3, if_neg (by omega)]
theorem midL_same {a b : List (List Int)} {n i : Nat} (h : lab a b i = i) : midL a b n (i + 1) = midL a b n i := by
  apply List.map_congr_left
  intro x _
  by_cases hx : x = i
  · subst hx; simp [h]
  · by_cases h3 : x < i
    · rw [if_pos h3, if_pos (by omega)]
    · rw [if_neg h3, if_neg (by omega)]

set_option maxRecDepth 10000 in
theorem t_alikeClasses {pg : Pg} (hp : pg.fn 291 = some c_impl_alikeClasses) (h267 : S_turn pg 267) (h335 : S_identity pg) (h276 : S_equal pg) (h386 : S_renum pg 386) : S_classes pg 291 := by
  intro f s h
  have h0 := h.pos
  have h12 := h.small
  have hls := h.len
  refine Call.intro hp rfl (by simp) ?_
  show wp _ _ c_impl_alikeClasses.body (post [.t 2] _ _ _) _
  simp [c_impl_alikeClasses]
  refine callR (h267 s h.ts (by omega)) rfl rfl (fun _ => by simp) ?_
  have hb : (turnL s).length = f.length := by simp [hls]
  have hbr : ∀ r ∈ turnL s, r.length ≤ 1048576 := fun r hr => by rw [tabL_row hr]; omega
  generalize hbe : turnL s = b at *
  simp
  refine callR (h335 f.length (by omega)) rfl rfl (fun _ => by simp) ?_
  simp
  refine wpLoop_count (fun i e => e = fr [(1, some (.val (.mem .own none [tb f, tb s]))), (3, some (.val (.mem .own (some 1) (rows b)))), (4, some (.val (.mem .own (some 1) ((midL f b f.length i).map I)))), (15, some (.val (I f.length))), (16, some (.val (I i)))]) f.length ?_ ?_ 0 _ (by omega) ?_
  · rintro i e hi rfl
    have hib : i < b.length := by omega
    simp [hi]
    refine wpLoop_count (fun j e => (∀ k, k < j → ¬ eqv f b i k) ∧ e = fr [(1, some (.val (.mem .own none [tb f, tb s]))), (3, some (.val (.mem .own (some 1) (rows b)))), (4, some (.val (.mem .own (some 1) ((midL f b f.length i).map I)))), (5, some (.val (I i))), (15, some (.val (I f.length))), (16, some (.val (I i))), (19, some (.val (I i))), (20, some (.val (I j)))]) i ?_ ?_ 0 _ (by omega) ?_
    · rintro j e hji ⟨hm, rfl⟩
      have hjf : j < f.length := by omega
      have hjb : j < b.length := by omega
      have l1 : (f[i]).length ≤ 1048576 := by have := (h.tf _ (List.getElem_mem hi)).1; omega
      have l2 : (b[i]).length ≤ 1048576 := hbr _ (List.getElem_mem hib)
      simp [hi, hjf, hji]
      refine callR (h276 _ _ l1) rfl rfl (fun _ => rfl) ?_
      by_cases q1 : f[i] = f[j]
      · have e1 : (rows b)[i]? = some (.mem .own (some 1) (b[i].map I)) := by simp [rows, hib]
        have e2 : (rows b)[j]? = some (.mem .own (some 1) (b[j].map I)) := by simp [rows, hjb]
        simp [q1, hib, hjb]
        refine callR (h276 _ _ l2) rfl rfl (fun _ => rfl) ?_
        by_cases q2 : b[i] = b[j]
        · have hq : eqv f b i j := ⟨by rw [getD_row hi, getD_row hjf]; exact q1, by rw [getD_row hib, getD_row hjb]; exact q2⟩
          have e3 : lab f b i = j := lab_eq (by omega) (fun _ => hq) hm
          have e4 : lab f b j = j := lab_first hq hm
          have hg := midL_get (a := f) (b := b) (n := f.length) hji
          have hs := midL_set f b f.length i
          rw [e3] at hs
          simp [q2, hi, hjf, hg, e4]
          refine ⟨by omega, ?_⟩
          rw [← hs]
          simp
          omega
        · have hq : ¬ eqv f b i j := fun hh => q2 (by rw [← getD_row hib, ← getD_row hjb]; exact hh.2)
          simp [q2]
          refine ⟨by omega, fun k hk => ?_⟩
          by_cases hkj : k = j
          · subst hkj; exact hq
          · exact hm k (by omega)
      · have hq : ¬ eqv f b i j := fun hh => q1 (by rw [← getD_row hi, ← getD_row hjf]; exact hh.1)
        simp [q1, undefV]
        refine ⟨by omega, fun k hk => ?_⟩
        by_cases hkj : k = j
        · subst hkj; exact hq
        · exact hm k (by omega)
    · rintro e ⟨hm, rfl⟩
      have e3 : lab f b i = i := lab_eq (Nat.le_refl _) (fun h => by omega) hm
      simp [midL_same (n := f.length) e3]
      omega
    · simp
  · rintro e rfl
    have hr := h386 ((List.range f.length).map fun i => (lab f b i : Int)) (by simp; omega)
    have hcl : classes f s = renum ((List.range f.length).map fun i => (lab f b i : Int)) := by rw [classes, hbe]
    have hlL : ((List.range f.length).map fun i => (lab f b i : Int)).length = f.length := by simp
    rw [hcl, midL_last]
    generalize ((List.range f.length).map fun i => (lab f b i : Int)) = L at hr hlL ⊢
    simp [← hlL]
    refine callR hr rfl rfl (fun _ => by simp) ?_
    simp
  · simp [midL_zero]

theorem renum_rng {xs : List Int} {x : Int} (h : x ∈ renum xs) : 0 ≤ x ∧ x < xs.length := by
  simp only [renum, List.mem_map, List.mem_range] at h
  obtain ⟨k, hk, rfl⟩ := h
  have h1 := ixOf_le (uniqs (xs.take (k + 1))) (xs.getD k 0)
  have h2 := uniqs_len (xs.take (k + 1))
  have h3 : xs.getD k 0 ∈ uniqs (xs.take (k + 1)) := by
    rw [uniqs_succ hk, List.getD_eq_getElem?_getD, List.getElem?_eq_getElem hk, Option.getD_some]
    split
    · assumption
    · simp
  have h4 := (ixOf_mem _ _).2 h3
  simp only [List.length_take] at h2
  omega
theorem classes_rng {f s : List (List Int)} {x : Int} (h : x ∈ classes f s) : 0 ≤ x ∧ x < f.length := by
  have := renum_rng h
  simpa using this

def S_alike (pg : Pg) (n : Nat) : Prop := ∀ f s : List (List Int), fits f → fits s → ∃ o, lso o = onReg [] classes f s ∧ Call pg n [sol f s] [sol f s] (.tup [ownI o, I (onReg 1 (fun _ _ => 0) f s)])
theorem t_alike_impl {pg : Pg} (hp : pg.fn 163 = some c_impl_AlikeClasses) (h266 : S_reg pg 266) (h291 : S_classes pg 291) : S_alike pg 163 := by
  intro f s hf hs
  by_cases h : isReg f s
  · refine ⟨some (classes f s), by simp [onReg_true h], Call.intro hp rfl (by simp) ?_⟩
    show wp _ _ c_impl_AlikeClasses.body (post [.t 2, .t 3] _ _ _) _
    simp [c_impl_AlikeClasses]
    refine callR (h266 f s hf hs) rfl rfl (fun _ => rfl) ?_
    simp [dec_true h, onReg_true h]
    refine callR (h291 f s (PM.of h.1.1)) rfl rfl (fun _ => by simp) ?_
    simp [ownI]
  · refine ⟨none, by simp [onReg_false h], Call.intro hp rfl (by simp) ?_⟩
    show wp _ _ c_impl_AlikeClasses.body (post [.t 2, .t 3] _ _ _) _
    simp [c_impl_AlikeClasses]
    refine callR (h266 f s hf hs) rfl rfl (fun _ => rfl) ?_
    simp [dec_false h, onReg_false h, ownI]

end Go.Mch
namespace Go.Mch

def putL (lab : List Int) (l : List Int) (c : Int) : List Int := (List.range lab.length).map fun x : Nat => if (x : Int) ∈ l then c else lab.getD x 0
@[simp] theorem putL_length (lab l : List Int) (c : Int) : (putL lab l c).length = lab.length := by simp [putL]
end Go.Mch
namespace Go.Mch

noncomputable def solO (f s : List (List Int)) : List Int := orbL (f ++ turnL s) f.length
@[simp] theorem solO_length (f s : List (List Int)) : (solO f s).length = f.length := by simp [solO]

end Go.Mch
namespace Go.Mch

structure Nd (n : Nat) (σ τ : Nat → Nat → Nat) : Prop where
  rs : ∀ x y, x < n → y < n → σ x y < n
  rt : ∀ x y, x < n → y < n → τ x y < n
  is : ∀ x y y', x < n → y < n → y' < n → σ x y = σ x y' → y = y'
  it : ∀ x y y', x < n → y < n → y' < n → τ x y = τ x y' → y = y'
  ss : ∀ x w, x < n → w < n → ∃ y, y < n ∧ σ x y = w
  st : ∀ x w, x < n → w < n → ∃ y, y < n ∧ τ x y = w
  e1 : ∀ x y z, x < n → y < n → z < n → σ (σ x y) (σ (τ y x) z) = σ x (σ y z)
  e2 : ∀ x y z, x < n → y < n → z < n → τ (σ (τ y x) z) (σ x y) = σ (τ (σ y z) x) (τ z y)
  e3 : ∀ x y z, x < n → y < n → z < n → τ z (τ y x) = τ (τ z y) (τ (σ y z) x)

def Alk (n : Nat) (σ τ : Nat → Nat → Nat) (x x' : Nat) : Prop := ∀ y, y < n → σ x y = σ x' y ∧ τ x y = τ x' y
theorem Nd.c1 {n : Nat} {σ τ : Nat → Nat → Nat} (h : Nd n σ τ) {x y y' : Nat} (hx : x < n) (hy : y < n) (hy' : y' < n) (ha : Alk n σ τ y y') : Alk n σ τ (σ x y) (σ x y') := by
  intro w hw
  have ht := (ha x hx).2
  constructor
  · obtain ⟨z, hz, rfl⟩ := h.ss (τ y x) w (h.rt _ _ hy hx) hw
    have a1 := h.e1 x y z hx hy hz
    have a2 := h.e1 x y' z hx hy' hz
    rw [← ht] at a2
    rw [a1, a2, (ha z hz).1]
  · have a1 := h.e3 w x y hw hx hy
    have a2 := h.e3 w x y' hw hx hy'
    rw [← (ha _ (h.rt x w hx hw)).2, a1, ← ht] at a2
    exact h.it _ _ _ (h.rt _ _ hy hx) (h.rt _ _ (h.rs _ _ hx hy) hw) (h.rt _ _ (h.rs _ _ hx hy') hw) a2
theorem Nd.c2 {n : Nat} {σ τ : Nat → Nat → Nat} (h : Nd n σ τ) {x x' y : Nat} (hx : x < n) (hx' : x' < n) (hy : y < n) (ha : Alk n σ τ x x') : Alk n σ τ (τ y x) (τ y x') := by
  intro w hw
  have hs := (ha y hy).1
  constructor
  · have a1 := h.e1 x y w hx hy hw
    have a2 := h.e1 x' y w hx' hy hw
    rw [← (ha _ (h.rs y w hy hw)).1, ← a1, ← hs] at a2
    exact (h.is _ _ _ (h.rs _ _ hx hy) (h.rs _ _ (h.rt _ _ hy hx') hw) (h.rs _ _ (h.rt _ _ hy hx) hw) a2).symm
  · obtain ⟨u, hu, rfl⟩ := h.st (σ x y) w (h.rs _ _ hx hy) hw
    have a1 := h.e3 u x y hu hx hy
    have a2 := h.e3 u x' y hu hx' hy
    rw [← (ha u hu).2, a1, ← hs] at a2
    exact a2

structure Quo (n m : Nat) (σ τ : Nat → Nat → Nat) (c d : Nat → Nat) : Prop where
  cm : ∀ x, x < n → c x < m
  dn : ∀ i, i < m → d i < n
  cd : ∀ i, i < m → c (d i) = i
  ca : ∀ x x', x < n → x' < n → (c x = c x' ↔ Alk n σ τ x x')
theorem Quo.al {n m : Nat} {σ τ : Nat → Nat → Nat} {c d : Nat → Nat} (q : Quo n m σ τ c d) {x : Nat} (hx : x < n) : Alk n σ τ (d (c x)) x :=
  (q.ca _ _ (q.dn _ (q.cm x hx)) hx).1 (q.cd _ (q.cm x hx))
theorem Quo.fs {n m : Nat} {σ τ : Nat → Nat → Nat} {c d : Nat → Nat} (h : Nd n σ τ) (q : Quo n m σ τ c d) {x y : Nat} (hx : x < n) (hy : y < n) : c (σ (d (c x)) (d (c y))) = c (σ x y) := by
  have h1 := q.dn _ (q.cm x hx)
  have h2 := q.dn _ (q.cm y hy)
  rw [(q.al hx _ h2).1]
  exact (q.ca _ _ (h.rs _ _ hx h2) (h.rs _ _ hx hy)).2 (h.c1 hx h2 hy (q.al hy))
theorem Quo.ft {n m : Nat} {σ τ : Nat → Nat → Nat} {c d : Nat → Nat} (h : Nd n σ τ) (q : Quo n m σ τ c d) {x y : Nat} (hx : x < n) (hy : y < n) : c (τ (d (c y)) (d (c x))) = c (τ y x) := by
  have h1 := q.dn _ (q.cm x hx)
  have h2 := q.dn _ (q.cm y hy)
  rw [(q.al hy _ h1).2]
  exact (q.ca _ _ (h.rt _ _ hy h1) (h.rt _ _ hy hx)).2 (h.c2 h1 hx hy (q.al hx))

theorem inj_of_surj {m : Nat} {g : Nat → Nat} (hs : ∀ w, w < m → ∃ j, j < m ∧ g j = w) : ∀ j j', j < m → j' < m → g j = g j' → j = j' := by
  have hnd : ((List.range m).map g).Nodup := nodup_of_sub (List.range m) ((List.range m).map g) List.nodup_range (fun x hx => by
    obtain ⟨j, hj, rfl⟩ := hs x (by simpa using hx)
    exact List.mem_map.2 ⟨j, by simpa using hj, rfl⟩) (by simp)
  intro j j' hj hj' he
  have := (List.getElem_inj (xs := (List.range m).map g) (i := j) (j := j') (h₀ := by simpa using hj) (h₁ := by simpa using hj') hnd).1 (by simpa using he)
  exact this

theorem Quo.nd {n m : Nat} {σ τ : Nat → Nat → Nat} {c d : Nat → Nat} (h : Nd n σ τ) (q : Quo n m σ τ c d) : Nd m (fun i j => c (σ (d i) (d j))) (fun i j => c (τ (d i) (d j))) := by
  have rs : ∀ x y, x < m → y < m → c (σ (d x) (d y)) < m := fun x y hx hy => q.cm _ (h.rs _ _ (q.dn _ hx) (q.dn _ hy))
  have rt : ∀ x y, x < m → y < m → c (τ (d x) (d y)) < m := fun x y hx hy => q.cm _ (h.rt _ _ (q.dn _ hx) (q.dn _ hy))
  have ss : ∀ x w, x < m → w < m → ∃ y, y < m ∧ c (σ (d x) (d y)) = w := fun x w hx hw => by
    obtain ⟨y, hy, he⟩ := h.ss (d x) (d w) (q.dn _ hx) (q.dn _ hw)
    refine ⟨c y, q.cm _ hy, ?_⟩
    have := q.fs h (q.dn _ hx) hy
    rw [q.cd _ hx] at this
    rw [this, he, q.cd _ hw]
  have st : ∀ x w, x < m → w < m → ∃ y, y < m ∧ c (τ (d x) (d y)) = w := fun x w hx hw => by
    obtain ⟨y, hy, he⟩ := h.st (d x) (d w) (q.dn _ hx) (q.dn _ hw)
    refine ⟨c y, q.cm _ hy, ?_⟩
    have := q.ft h hy (q.dn _ hx)
    rw [q.cd _ hx] at this
    rw [this, he, q.cd _ hw]
  -- the class of a map of elements is the quotient's map of the classes
  have ks : ∀ u v, u < n → v < n → c (σ (d (c u)) (d (c v))) = c (σ u v) := fun u v hu hv => q.fs h hu hv
  have kt : ∀ u v, u < n → v < n → c (τ (d (c u)) (d (c v))) = c (τ u v) := fun u v hu hv => q.ft h hv hu
  constructor
  · exact rs
  · exact rt
  · exact fun x y y' hx hy hy' he => inj_of_surj (fun w hw => ss x w hx hw) y y' hy hy' he
  · exact fun x y y' hx hy hy' he => inj_of_surj (fun w hw => st x w hx hw) y y' hy hy' he
  · exact ss
  · exact st
  · intro x y z hx hy hz
    have dx := q.dn _ hx
    have dy := q.dn _ hy
    have dz := q.dn _ hz
    have a1 := h.e1 _ _ _ dx dy dz
    have l1 := ks _ _ (h.rt _ _ dy dx) dz
    rw [q.cd _ hz] at l1
    have l2 := ks _ _ (h.rs _ _ dx dy) (h.rs _ _ (h.rt _ _ dy dx) dz)
    have l3 := ks _ _ dx (h.rs _ _ dy dz)
    rw [q.cd _ hx] at l3
    rw [l1, l2, l3, a1]
  · intro x y z hx hy hz
    have dx := q.dn _ hx
    have dy := q.dn _ hy
    have dz := q.dn _ hz
    have a1 := h.e2 _ _ _ dx dy dz
    have l1 := ks _ _ (h.rt _ _ dy dx) dz
    rw [q.cd _ hz] at l1
    have l2 := kt _ _ (h.rs _ _ (h.rt _ _ dy dx) dz) (h.rs _ _ dx dy)
    have l3 := kt _ _ (h.rs _ _ dy dz) dx
    rw [q.cd _ hx] at l3
    have l4 := ks _ _ (h.rt _ _ (h.rs _ _ dy dz) dx) (h.rt _ _ dz dy)
    rw [l1, l2, l3, l4, a1]
  · intro x y z hx hy hz
    have dx := q.dn _ hx
    have dy := q.dn _ hy
    have dz := q.dn _ hz
    have a1 := h.e3 _ _ _ dx dy dz
    have l1 := kt _ _ dz (h.rt _ _ dy dx)
    rw [q.cd _ hz] at l1
    have l2 := kt _ _ (h.rs _ _ dy dz) dx
    rw [q.cd _ hx] at l2
    have l3 := kt _ _ (h.rt _ _ dz dy) (h.rt _ _ (h.rs _ _ dy dz) dx)
    rw [l1, l2, l3, a1]
end Go.Mch
namespace Go.Mch

def plK (xs : List Int) (P : Int → Bool) (k : Nat) : List Int := ((List.range k).filter fun i => P (xs.getD i 0)).map fun i : Nat => (i : Int)
def pl (xs : List Int) (P : Int → Bool) : List Int := plK xs P xs.length
def ownN (xs : List Int) : T := if xs = [] then nil else .mem .own (some 1) (xs.map I)
theorem ownN_ne {xs : List Int} (h : xs ≠ []) : ownN xs = .mem .own (some 1) (xs.map I) := by simp [ownN, h]

end Go.Mch
namespace Go.Mch

def σN (f : List (List Int)) (x y : Nat) : Nat := (v2 f x y).toNat
def τN (s : List (List Int)) (y x : Nat) : Nat := (v2 s x y).toNat
def Rg (f s : List (List Int)) : Prop := PM f s ∧ YB f s ∧ nonDeg f s
theorem rg_of {f s : List (List Int)} (h : isReg f s) : Rg f s := ⟨PM.of h.1.1, h.1.2.2, h.2⟩
theorem PM.v2f {f s : List (List Int)} (h : PM f s) (x y : Nat) : ((σN f x y : Nat) : Int) = v2 f x y ∧ σN f x y < f.length := by
  have h1 := h.tf.nonneg x y
  have h2 := h.tf.lt h.pos x y
  unfold σN
  omega
theorem PM.v2s {f s : List (List Int)} (h : PM f s) (x y : Nat) : ((τN s y x : Nat) : Int) = v2 s x y ∧ τN s y x < f.length := by
  have h1 := h.ts.nonneg x y
  have h2 := h.ts.lt (by rw [h.len]; exact h.pos) x y
  rw [h.len] at h2
  unfold τN
  omega
theorem row_inj {r : List Int} (h : isPermuted r) {y y' : Nat} (hy : y < r.length) (hy' : y' < r.length) (he : r.getD y 0 = r.getD y' 0) : y = y' := by
  rw [List.getD_eq_getElem?_getD, List.getD_eq_getElem?_getD, List.getElem?_eq_getElem hy, List.getElem?_eq_getElem hy'] at he
  exact (List.getElem_inj h.2).1 he
theorem surj_of_inj {n : Nat} {g : Nat → Nat} (hr : ∀ y, y < n → g y < n) (hi : ∀ y y', y < n → y' < n → g y = g y' → y = y') : ∀ w, w < n → ∃ y, y < n ∧ g y = w := by
  intro w hw
  apply Classical.byContradiction
  intro hno
  have hnd : (w :: (List.range n).map g).Nodup := by
    rw [List.nodup_cons]
    constructor
    · intro hm
      obtain ⟨y, hy, he⟩ := List.mem_map.1 hm
      exact hno ⟨y, by simpa using hy, he⟩
    · rw [List.Nodup, List.pairwise_map]
      refine (List.nodup_range (n := n)).imp_of_mem ?_
      intro a b ha hb hab he
      exact hab (hi a b (by simpa using ha) (by simpa using hb) he)
  have := len_le_of_sub (w :: (List.range n).map g) (List.range n) hnd fun x hx => by
    rcases List.mem_cons.1 hx with rfl | hx
    · simpa using hw
    · obtain ⟨y, hy, rfl⟩ := List.mem_map.1 hx
      simpa using hr y (by simpa using hy)
  simp at this
  omega
theorem nd_of {f s : List (List Int)} (h : Rg f s) : Nd f.length (σN f) (τN s) := by
  obtain ⟨hp, hy, hn⟩ := h
  have rs : ∀ x y, x < f.length → y < f.length → σN f x y < f.length := fun x y _ _ => (hp.v2f x y).2
  have rt : ∀ x y, x < f.length → y < f.length → τN s x y < f.length := fun x y _ _ => (hp.v2s y x).2
  have is : ∀ x y y', x < f.length → y < f.length → y' < f.length → σN f x y = σN f x y' → y = y' := fun x y y' hx h1 h2 he => by
    have hr := hn.1 f[x] (List.getElem_mem hx)
    have hl := (hp.tf f[x] (List.getElem_mem hx)).1
    have e : f.getD x [] = f[x] := by simp [hx]
    refine row_inj hr (by omega) (by omega) ?_
    have a1 := (hp.v2f x y).1
    have a2 := (hp.v2f x y').1
    simp only [v2, e] at a1 a2
    omega
  have it : ∀ x y y', x < f.length → y < f.length → y' < f.length → τN s x y = τN s x y' → y = y' := fun x y y' hx h1 h2 he => by
    have hls := hp.len
    have hxs : x < (turnL s).length := by simp; omega
    have hr := hn.2 (turnL s)[x] (List.getElem_mem hxs)
    have hl := tabL_row (List.getElem_mem hxs : (turnL s)[x] ∈ tabL s.length fun x y => v2 s y x)
    refine row_inj hr (by omega) (by omega) ?_
    have a1 := (hp.v2s y x).1
    have a2 := (hp.v2s y' x).1
    have b1 := v2_tabL (n := s.length) (g := fun x y => v2 s y x) (x := x) (y := y) (by omega) (by omega)
    have b2 := v2_tabL (n := s.length) (g := fun x y => v2 s y x) (x := x) (y := y') (by omega) (by omega)
    have e : (turnL s).getD x [] = (turnL s)[x] := by rw [List.getD_eq_getElem?_getD, List.getElem?_eq_getElem hxs]; rfl
    change v2 (turnL s) x y = _ at b1
    change v2 (turnL s) x y' = _ at b2
    simp only [v2, e] at b1 b2 a1 a2
    omega
  refine ⟨rs, rt, is, it, fun x w hx hw => surj_of_inj (fun y hy => rs x y hx hy) (fun y y' h1 h2 => is x y y' hx h1 h2) w hw, fun x w hx hw => surj_of_inj (fun y hy => rt x y hx hy) (fun y y' h1 h2 => it x y y' hx h1 h2) w hw, ?_, ?_, ?_⟩
  · intro x y z hx h1 h2
    have := ((yb_v2 f s x y z).1 (hy x y z hx h1 h2)).1
    exact congrArg Int.toNat this
  · intro x y z hx h1 h2
    have := ((yb_v2 f s x y z).1 (hy x y z hx h1 h2)).2.1
    exact congrArg Int.toNat this
  · intro x y z hx h1 h2
    have := ((yb_v2 f s x y z).1 (hy x y z hx h1 h2)).2.2
    exact congrArg Int.toNat this


theorem uniqs_pre (xs : List Int) : ∀ k j, k + j ≤ xs.length → ∃ r, uniqs (xs.take (k + j)) = uniqs (xs.take k) ++ r := by
  intro k j
  induction j with
  | zero => intro _; exact ⟨[], by simp⟩
  | succ j ih =>
    intro h
    obtain ⟨r, hr⟩ := ih (by omega)
    rw [show k + (j + 1) = k + j + 1 from rfl, uniqs_succ (show k + j < xs.length by omega)]
    split
    · exact ⟨r, hr⟩
    · exact ⟨r ++ [xs[k + j]], by rw [hr]; simp⟩
theorem ixOf_pre {a b : List Int} {x : Int} (h : x ∈ a) : ixOf (a ++ b) x = ixOf a x := by
  induction a with
  | nil => simp at h
  | cons y a ih =>
    simp only [List.cons_append, ixOf]
    by_cases hy : y = x
    · simp [hy]
    · rw [if_neg hy, if_neg hy, ih (by simpa [Ne.symm hy, eq_comm, hy] using h)]
theorem uniqs_has {xs : List Int} {k : Nat} (hk : k < xs.length) : xs[k] ∈ uniqs (xs.take (k + 1)) := by
  rw [uniqs_succ hk]
  split
  · assumption
  · simp
theorem uniqs_nodup (xs : List Int) : ∀ k, k ≤ xs.length → (uniqs (xs.take k)).Nodup := by
  intro k
  induction k with
  | zero => intro _; simp [uniqs]
  | succ k ih =>
    intro hk
    rw [uniqs_succ (by omega)]
    split
    · exact ih (by omega)
    · rename_i hn
      rw [List.nodup_append]
      exact ⟨ih (by omega), by simp, fun a ha b hb => by simp only [List.mem_singleton] at hb; subst hb; exact fun e => hn (e ▸ ha)⟩
theorem uniqs_sub (xs : List Int) : ∀ k, k ≤ xs.length → ∀ x ∈ uniqs (xs.take k), x ∈ xs := by
  intro k
  induction k with
  | zero => intro _ x hx; simp [uniqs] at hx
  | succ k ih =>
    intro hk x hx
    rw [uniqs_succ (show k < xs.length by omega)] at hx
    split at hx
    · exact ih (by omega) x hx
    · rcases List.mem_append.1 hx with h | h
      · exact ih (by omega) x h
      · simp only [List.mem_singleton] at h; subst h; exact List.getElem_mem _
theorem renum_get {xs : List Int} {k : Nat} (hk : k < xs.length) : (renum xs).getD k 0 = ixOf (uniqs xs) xs[k] := by
  have hg : xs.getD k 0 = xs[k] := by rw [List.getD_eq_getElem?_getD, List.getElem?_eq_getElem hk]; rfl
  have h1 : (renum xs).getD k 0 = ixOf (uniqs (xs.take (k + 1))) xs[k] := by
    rw [List.getD_eq_getElem?_getD, List.getElem?_eq_getElem (by simpa using hk)]
    simp only [renum, List.getElem_map, List.getElem_range, Option.getD_some, hg]
  obtain ⟨r, hr⟩ := uniqs_pre xs (k + 1) (xs.length - (k + 1)) (by omega)
  rw [show k + 1 + (xs.length - (k + 1)) = xs.length from by omega, List.take_length] at hr
  rw [h1, hr, ixOf_pre (uniqs_has hk)]
theorem uniqs_mem {xs : List Int} {k : Nat} (hk : k < xs.length) : xs[k] ∈ uniqs xs := by
  obtain ⟨r, hr⟩ := uniqs_pre xs (k + 1) (xs.length - (k + 1)) (by omega)
  rw [show k + 1 + (xs.length - (k + 1)) = xs.length from by omega, List.take_length] at hr
  rw [hr]
  exact List.mem_append_left _ (uniqs_has hk)
theorem ixOf_get : ∀ {l : List Int} {x : Int} (_ : x ∈ l), ∃ hi : (ixOf l x).toNat < l.length, l[(ixOf l x).toNat] = x
  | y :: l, x, h => by
    by_cases hy : y = x
    · subst hy; exact ⟨by simp [ixOf], by simp [ixOf]⟩
    · have hx : x ∈ l := by
        rcases List.mem_cons.1 h with h | h
        · exact absurd h.symm hy
        · exact h
      obtain ⟨hi, he⟩ := ixOf_get hx
      have h0 := (ixOf_mem l x).2 hx
      have hval : ixOf (y :: l) x = ixOf l x + 1 := by
        simp only [ixOf]; rw [if_neg hy, if_neg (by omega)]
      have ht : (ixOf (y :: l) x).toNat = (ixOf l x).toNat + 1 := by rw [hval]; omega
      refine ⟨by rw [ht]; simp; exact hi, ?_⟩
      simp only [ht, List.getElem_cons_succ]
      exact he
theorem ixOf_nodup {l : List Int} (hd : l.Nodup) {i : Nat} (hi : i < l.length) : ixOf l l[i] = i := by
  obtain ⟨h1, h2⟩ := ixOf_get (List.getElem_mem hi)
  have := (List.getElem_inj hd).1 h2
  have h3 := (ixOf_mem l l[i]).2 (List.getElem_mem hi)
  omega
theorem ixOf_inj {l : List Int} {x y : Int} (hx : x ∈ l) (hy : y ∈ l) (h : ixOf l x = ixOf l y) : x = y := by
  obtain ⟨h1, h2⟩ := ixOf_get hx
  obtain ⟨h3, h4⟩ := ixOf_get hy
  rw [← h2, ← h4]
  congr 1
  rw [h]


def labL (f s : List (List Int)) : List Int := (List.range f.length).map fun i => (lab f (turnL s) i : Int)
@[simp] theorem labL_length (f s : List (List Int)) : (labL f s).length = f.length := by simp [labL]
theorem labL_get (f s : List (List Int)) {x : Nat} (hx : x < (labL f s).length) : (labL f s)[x] = lab f (turnL s) x := by simp [labL]
theorem classes_renum (f s : List (List Int)) : classes f s = renum (labL f s) := rfl
def clM (f s : List (List Int)) : Nat := (uniqs (labL f s)).length
def clC (f s : List (List Int)) (x : Nat) : Nat := ((classes f s).getD x 0).toNat
def clD (f s : List (List Int)) (i : Nat) : Nat := (ixOf (labL f s) ((uniqs (labL f s)).getD i 0)).toNat
theorem clC_int {f s : List (List Int)} {x : Nat} (hx : x < f.length) : ((clC f s x : Nat) : Int) = (classes f s).getD x 0 ∧ (classes f s).getD x 0 = ixOf (uniqs (labL f s)) (lab f (turnL s) x) := by
  have hx' : x < (labL f s).length := by simpa using hx
  have h1 := renum_get hx'
  rw [labL_get f s hx'] at h1
  have h2 := (ixOf_mem (uniqs (labL f s)) (lab f (turnL s) x)).2 (by rw [← labL_get f s hx']; exact uniqs_mem hx')
  rw [classes_renum, h1]
  refine ⟨?_, rfl⟩
  unfold clC
  rw [classes_renum, h1]
  omega
theorem lab_spec (a b : List (List Int)) (i : Nat) : lab a b i ≤ i ∧ eqv a b i (lab a b i) ∧ ∀ k, k < lab a b i → ¬ eqv a b i k := by
  unfold lab
  cases h : (List.range i).find? fun j => decide (eqv a b i j) with
  | none =>
    rw [List.find?_range_eq_none] at h
    exact ⟨Nat.le_refl _, ⟨rfl, rfl⟩, fun k hk => by simpa using h k hk⟩
  | some m =>
    rw [List.find?_range_eq_some] at h
    refine ⟨?_, by simpa using h.1, fun k hk => by simpa using h.2.2 k hk⟩
    have := h.2.1
    simp only [List.mem_range] at this
    simp only [Option.getD_some]
    omega
theorem eqv_symm {a b : List (List Int)} {i j : Nat} (h : eqv a b i j) : eqv a b j i := ⟨h.1.symm, h.2.symm⟩
theorem eqv_trans {a b : List (List Int)} {i j k : Nat} (h : eqv a b i j) (h2 : eqv a b j k) : eqv a b i k := ⟨h.1.trans h2.1, h.2.trans h2.2⟩
theorem lab_iff {a b : List (List Int)} {i j : Nat} : lab a b i = lab a b j ↔ eqv a b i j := by
  obtain ⟨i1, i2, i3⟩ := lab_spec a b i
  obtain ⟨j1, j2, j3⟩ := lab_spec a b j
  constructor
  · intro h
    rw [h] at i2
    exact eqv_trans i2 (eqv_symm j2)
  · intro h
    rcases Nat.lt_trichotomy (lab a b i) (lab a b j) with g | g | g
    · exact absurd (eqv_trans (eqv_symm h) i2) (j3 _ g)
    · exact g
    · exact absurd (eqv_trans h j2) (i3 _ g)
theorem eqv_alk {f s : List (List Int)} (h : PM f s) {x x' : Nat} (hx : x < f.length) (hx' : x' < f.length) : eqv f (turnL s) x x' ↔ Alk f.length (σN f) (τN s) x x' := by
  have hls := h.len
  have rowEq : ∀ {a : List (List Int)} (hl : a.length = f.length) (_ : ∀ r ∈ a, r.length = f.length), a.getD x [] = a.getD x' [] ↔ ∀ y, y < f.length → v2 a x y = v2 a x' y := by
    intro a hl hr
    have e1 : a.getD x [] = a[x] := by rw [List.getD_eq_getElem?_getD, List.getElem?_eq_getElem (by omega)]; rfl
    have e2 : a.getD x' [] = a[x'] := by rw [List.getD_eq_getElem?_getD, List.getElem?_eq_getElem (by omega)]; rfl
    have l1 := hr _ (List.getElem_mem (show x < a.length by omega))
    have l2 := hr _ (List.getElem_mem (show x' < a.length by omega))
    constructor
    · intro he y _
      simp only [v2, he]
    · intro he
      rw [e1, e2]
      apply List.ext_getElem (by omega)
      intro y h1 h2
      have := he y (by omega)
      simp only [v2, e1, e2, List.getD_eq_getElem?_getD, List.getElem?_eq_getElem h1, List.getElem?_eq_getElem h2, Option.getD_some] at this
      exact this
  have ht : ∀ z y, z < f.length → y < f.length → v2 (turnL s) z y = v2 s y z := fun z y hz hy => v2_tabL (n := s.length) (g := fun x y => v2 s y x) (by omega) (by omega)
  unfold eqv
  rw [rowEq rfl (fun r hr => by have := (h.tf r hr).1; omega), rowEq (a := turnL s) (by simp; omega) (fun r hr => by rw [tabL_row hr]; exact hls)]
  constructor
  · rintro ⟨h1, h2⟩ y hy
    have a1 := h1 y hy
    have a2 := h2 y hy
    rw [ht _ _ hx hy, ht _ _ hx' hy] at a2
    exact ⟨congrArg Int.toNat a1, congrArg Int.toNat a2⟩
  · intro hh
    refine ⟨fun y hy => ?_, fun y hy => ?_⟩
    · have := (hh y hy).1
      have b1 := (h.v2f x y).1
      have b2 := (h.v2f x' y).1
      omega
    · have := (hh y hy).2
      have b1 := (h.v2s y x).1
      have b2 := (h.v2s y x').1
      rw [ht _ _ hx hy, ht _ _ hx' hy]
      omega
theorem quo_of {f s : List (List Int)} (h : PM f s) : Quo f.length (clM f s) (σN f) (τN s) (clC f s) (clD f s) := by
  have hU := uniqs_nodup (labL f s) (labL f s).length (Nat.le_refl _)
  rw [List.take_length] at hU
  have hmem : ∀ x, x < f.length → (lab f (turnL s) x : Int) ∈ uniqs (labL f s) := fun x hx => by
    have hx' : x < (labL f s).length := by simpa using hx
    rw [← labL_get f s hx']
    exact uniqs_mem hx'
  have hsub : ∀ i (hi : i < clM f s), (uniqs (labL f s))[i] ∈ labL f s := fun i hi => by
    have := uniqs_sub (labL f s) (labL f s).length (Nat.le_refl _)
    rw [List.take_length] at this
    exact this _ (List.getElem_mem hi)
  have hD : ∀ i (hi : i < clM f s), clD f s i < f.length ∧ (lab f (turnL s) (clD f s i) : Int) = (uniqs (labL f s))[i] := fun i hi => by
    have hg : (uniqs (labL f s)).getD i 0 = (uniqs (labL f s))[i] := by rw [List.getD_eq_getElem?_getD, List.getElem?_eq_getElem hi]; rfl
    obtain ⟨h1, h2⟩ := ixOf_get (hsub i hi)
    unfold clD
    rw [hg]
    refine ⟨by simpa using h1, ?_⟩
    rw [← labL_get f s h1]
    exact h2
  constructor
  · intro x hx
    obtain ⟨h1, h2⟩ := clC_int (s := s) hx
    obtain ⟨h3, _⟩ := ixOf_get (hmem x hx)
    have h4 := (ixOf_mem _ _).2 (hmem x hx)
    unfold clM
    omega
  · exact fun i hi => (hD i hi).1
  · intro i hi
    obtain ⟨h1, h2⟩ := hD i hi
    obtain ⟨h3, h4⟩ := clC_int (s := s) h1
    rw [h2, ixOf_nodup hU hi] at h4
    omega
  · intro x x' hx hx'
    obtain ⟨h1, h2⟩ := clC_int (s := s) hx
    obtain ⟨h3, h4⟩ := clC_int (s := s) hx'
    rw [← eqv_alk h hx hx', ← lab_iff]
    constructor
    · intro he
      have := ixOf_inj (hmem x hx) (hmem x' hx') (by omega)
      omega
    · intro he
      rw [he] at h2
      omega
end Go.Mch
namespace Go.Mch

theorem permuted_row {m : Nat} {g : Nat → Nat} (hr : ∀ y, y < m → g y < m) (hi : ∀ y y', y < m → y' < m → g y = g y' → y = y') : isPermuted ((List.range m).map fun y => (g y : Int)) := by
  refine ⟨fun x hx => ?_, ?_⟩
  · simp only [List.mem_map, List.mem_range] at hx
    obtain ⟨y, hy, rfl⟩ := hx
    have := hr y hy
    simp
    omega
  · rw [List.Nodup, List.pairwise_map]
    refine (List.nodup_range (n := m)).imp_of_mem ?_
    intro a b ha hb hab he
    exact hab (hi a b (by simpa using ha) (by simpa using hb) (by omega))
theorem rg_tab {m : Nat} {σ τ : Nat → Nat → Nat} (h : Nd m σ τ) (h0 : 0 < m) (h12 : m ≤ 12) : Rg (tabL m fun i j => (σ i j : Int)) (tabL m fun i j => (τ j i : Int)) := by
  have hf : ∀ x y, x < m → y < m → v2 (tabL m fun i j => (σ i j : Int)) x y = σ x y := fun x y hx hy => v2_tabL hx hy
  have hs : ∀ x y, x < m → y < m → v2 (tabL m fun i j => (τ j i : Int)) x y = τ y x := fun x y hx hy => v2_tabL hx hy
  have rs := h.rs
  have rt := h.rt
  refine ⟨⟨?_, ?_, by simp, by simpa using h0, by simpa using h12⟩, ?_, ?_, ?_⟩
  · exact tab_of fun x y hx hy => by have := rs x y hx hy; omega
  · exact tab_of fun x y hx hy => by have := rt y x hy hx; omega
  · intro x y z hx hy hz
    simp only [tabL_length] at hx hy hz
    rw [yb_v2]
    have a1 := rs x y hx hy
    have a2 := rt y x hy hx
    have a3 := rs y z hy hz
    have a4 := rt z y hz hy
    have a5 := rs _ z a2 hz
    have a6 := rt _ x a3 hx
    simp only [hf x y hx hy, hs x y hx hy, hf y z hy hz, hs y z hy hz, Int.toNat_natCast, hf _ z a2 hz, hs x _ hx a3, hf x _ hx a3, hf _ _ a1 a5, hs _ _ a1 a5, hf _ _ a6 a4, hs _ z a2 hz, hs _ _ a6 a4]
    have b1 := h.e1 x y z hx hy hz
    have b2 := h.e2 x y z hx hy hz
    have b3 := h.e3 x y z hx hy hz
    exact ⟨by rw [b1], by rw [b2], by rw [b3]⟩
  · intro r hr
    simp only [tabL, List.mem_map, List.mem_range] at hr
    obtain ⟨x, hx, rfl⟩ := hr
    exact permuted_row (fun y hy => rs x y hx hy) (fun y y' h1 h2 he => h.is x y y' hx h1 h2 he)
  · intro r hr
    have : turnL (tabL m fun i j => (τ j i : Int)) = tabL m fun i j => (τ i j : Int) := by
      unfold turnL
      rw [tabL_length]
      exact tabL_congr fun x y hx hy => hs y x hy hx
    rw [this] at hr
    simp only [tabL, List.mem_map, List.mem_range] at hr
    obtain ⟨x, hx, rfl⟩ := hr
    exact permuted_row (fun y hy => rt x y hx hy) (fun y y' h1 h2 he => h.it x y y' hx h1 h2 he)

def retF (f s : List (List Int)) : List (List Int) := tabL (clM f s) fun i j => (clC f s (σN f (clD f s i) (clD f s j)) : Int)
def retS (f s : List (List Int)) : List (List Int) := tabL (clM f s) fun i j => (clC f s (τN s (clD f s j) (clD f s i)) : Int)
@[simp] theorem retF_length (f s : List (List Int)) : (retF f s).length = clM f s := by simp [retF]
@[simp] theorem retS_length (f s : List (List Int)) : (retS f s).length = clM f s := by simp [retS]
theorem clM_le (f s : List (List Int)) : clM f s ≤ f.length := by
  have := uniqs_len (labL f s)
  simpa [clM] using this
theorem clM_pos {f s : List (List Int)} (h : 0 < f.length) : 0 < clM f s := by
  have hl : 0 < (labL f s).length := by simpa using h
  exact List.length_pos_of_mem (uniqs_mem hl)
theorem ret_rg {f s : List (List Int)} (h : Rg f s) : Rg (retF f s) (retS f s) :=
  rg_tab ((quo_of h.1).nd (nd_of h)) (clM_pos h.1.pos) (Nat.le_trans (clM_le f s) h.1.small)
theorem ret_at {f s : List (List Int)} (h : Rg f s) {a b : Nat} (ha : a < f.length) (hb : b < f.length) :
    v2 (retF f s) (clC f s a) (clC f s b) = clC f s (σN f a b) ∧ v2 (retS f s) (clC f s a) (clC f s b) = clC f s (τN s b a) := by
  have q := quo_of h.1
  have n := nd_of h
  have h1 := q.cm a ha
  have h2 := q.cm b hb
  refine ⟨?_, ?_⟩
  · rw [retF, v2_tabL h1 h2, q.fs n ha hb]
  · rw [retS, v2_tabL h1 h2, q.ft n ha hb]
theorem greatest_renum (xs : List Int) : ∀ k, k ≤ xs.length → greatest ((renum xs).take k) = (uniqs (xs.take k)).length := by
  intro k
  induction k with
  | zero => intro _; rfl
  | succ k ih =>
    intro hk
    have hkl : k < (renum xs).length := by simp; omega
    have hg : (renum xs)[k] = ixOf (uniqs (xs.take (k + 1))) xs[k] := by
      have e : xs.getD k 0 = xs[k] := by rw [List.getD_eq_getElem?_getD, List.getElem?_eq_getElem (by omega)]; rfl
      simp only [renum, List.getElem_map, List.getElem_range, e]
    have ih := ih (by omega)
    rw [greatest_succ hkl, ih, hg, uniqs_succ (show k < xs.length by omega)]
    have hb := ixOf_le (uniqs (xs.take k)) xs[k]
    by_cases hm : xs[k] ∈ uniqs (xs.take k)
    · rw [if_pos hm, if_neg (by omega)]
    · rw [if_neg hm, ixOf_new hm, if_pos (Int.le_refl _)]
      simp
theorem greatest_classes (f s : List (List Int)) : greatest (classes f s) = clM f s := by
  have := greatest_renum (labL f s) (labL f s).length (Nat.le_refl _)
  rw [List.take_length] at this
  have hl : (classes f s).length = (labL f s).length := by simp
  rw [classes_renum] at hl ⊢
  rw [← hl, List.take_length] at this
  exact this


def S_firsts (pg : Pg) : Prop := ∀ f s : List (List Int), PM f s → Call pg 399 [ix (classes f s)] [ix (classes f s)] (.mem .own (some 1) (((List.range (clM f s)).map fun i => (clD f s i : Int)).map I))
def fsts (f s : List (List Int)) (k : Nat) : List Int := (List.range (uniqs ((labL f s).take k)).length).map fun i => (clD f s i : Int)
@[simp] theorem fsts_length (f s : List (List Int)) (k : Nat) : (fsts f s k).length = (uniqs ((labL f s).take k)).length := by simp [fsts]
theorem ixOf_first {xs : List Int} {k : Nat} (hk : k < xs.length) (h : xs[k] ∉ uniqs (xs.take k)) : ixOf xs xs[k] = k := by
  refine ixOf_at hk (fun i hi he => h ?_) rfl
  have hi2 : i < (xs.take k).length := by simp; omega
  have := uniqs_mem hi2
  rw [List.getElem_take, he] at this
  exact this
theorem fsts_succ {f s : List (List Int)} {k : Nat} (hk : k < f.length) :
    fsts f s (k + 1) = if (classes f s).getD k 0 = (fsts f s k).length then fsts f s k ++ [(k : Int)] else fsts f s k := by
  have hkl : k < (labL f s).length := by simpa using hk
  have hc : (classes f s).getD k 0 = ixOf (uniqs ((labL f s).take (k + 1))) (labL f s)[k] := by
    have e : (labL f s).getD k 0 = (labL f s)[k] := by rw [List.getD_eq_getElem?_getD, List.getElem?_eq_getElem hkl]; rfl
    rw [classes_renum, List.getD_eq_getElem?_getD, List.getElem?_eq_getElem (by simpa using hk)]
    simp only [renum, List.getElem_map, List.getElem_range, Option.getD_some, e]
  have hU := uniqs_succ hkl
  have hb := ixOf_le (uniqs ((labL f s).take k)) (labL f s)[k]
  rw [hc, fsts_length]
  by_cases hm : (labL f s)[k] ∈ uniqs ((labL f s).take k)
  · rw [if_pos hm] at hU
    rw [hU, if_neg (by omega)]
    simp only [fsts, hU]
  · rw [if_neg hm] at hU
    rw [hU, ixOf_new hm, if_pos rfl]
    simp only [fsts, hU, List.length_append, List.length_cons, List.length_nil, List.range_succ, List.map_append, List.map_cons, List.map_nil]
    congr 2
    obtain ⟨r, hr⟩ := uniqs_pre (labL f s) (k + 1) ((labL f s).length - (k + 1)) (by omega)
    rw [show k + 1 + ((labL f s).length - (k + 1)) = (labL f s).length from by omega, List.take_length, hU] at hr
    have hget : (uniqs (labL f s)).getD (uniqs ((labL f s).take k)).length 0 = (labL f s)[k] := by
      rw [hr, List.append_assoc, List.getD_eq_getElem?_getD, List.getElem?_append_right (Nat.le_refl _), Nat.sub_self]
      rfl
    unfold clD
    rw [hget, ixOf_first hkl hm]
    simp
theorem fsts_all (f s : List (List Int)) : fsts f s f.length = (List.range (clM f s)).map fun i => (clD f s i : Int) := by
  have : (labL f s).take f.length = labL f s := List.take_of_length_le (by simp)
  simp only [fsts, clM, this]
theorem t_firstOf {pg : Pg} (hp : pg.fn 399 = some c_impl_firstOf) : S_firsts pg := by
  intro f s h
  have h0 := h.pos
  have h12 := h.small
  have hcl := classes_length f s
  refine Call.intro hp rfl (by simp) ?_
  show wp _ _ c_impl_firstOf.body (post [.t 2] _ _ _) _
  simp [c_impl_firstOf]
  refine wpLoop_count (fun k e => e = fr [(3, some (.val (ownN (fsts f s k)))), (6, some (.val (ix (classes f s)))), (7, some (.val (I f.length))), (8, some (.val (I k)))]) f.length ?_ ?_ 0 _ (by omega) ?_
  · rintro k e hk rfl
    have hs := fsts_succ (s := s) hk
    have hkc : k < (classes f s).length := by omega
    have hg : (classes f s).getD k 0 = (classes f s)[k] := by rw [List.getD_eq_getElem?_getD, List.getElem?_eq_getElem hkc]; rfl
    have hll : (fsts f s k).length ≤ k := by
      rw [fsts_length]
      have := uniqs_len ((labL f s).take k)
      simp only [List.length_take] at this
      omega
    rw [hg] at hs
    generalize fsts f s k = L at *
    generalize fsts f s (k + 1) = L' at *
    by_cases hv : (classes f s)[k] = (L.length : Int)
    · rw [if_pos hv] at hs
      subst hs
      by_cases hL : L = []
      · subst hL
        simp at hv
        simp [hk, hv, ownN, roomy]
        omega
      · have hL' : L ++ [(k : Int)] ≠ [] := by simp
        simp [hk, hv, ownN_ne hL, ownN_ne hL', roomy]
        omega
    · rw [if_neg hv] at hs
      subst hs
      by_cases hL : L' = []
      · subst hL
        simp at hv
        simp [hk, hv, ownN]
        omega
      · simp [hk, hv, ownN_ne hL]
        omega
  · rintro e rfl
    have hne : fsts f s f.length ≠ [] := fun hh => by
      have := congrArg List.length hh
      rw [fsts_all] at this
      have h2 := clM_pos (s := s) h0
      simp at this
      omega
    rw [ownN_ne hne, fsts_all]
    simp
  · simp [fsts, uniqs, ownN]
end Go.Mch
namespace Go.Mch

def raV (f s : List (List Int)) (x y : Nat) : Int := v2 f x (v2 s y (ixOf (f.getD y []) x).toNat).toNat
def raT (f s : List (List Int)) : List (List Int) := tabL f.length (raV f s)
@[simp] theorem raT_length (f s : List (List Int)) : (raT f s).length = f.length := by simp [raT]


def S_heldRack (pg : Pg) : Prop := ∀ (o : Option (List (List Int))) (k : Int), smallT (lso o) → 0 ≤ k → k ≤ 2305843009213693952 → heldL (lso o) k ≤ 4611686018427387904 → Call pg 149 [.agg [eT o], I k] [.agg [eT o], I k] (I (if heldL (lso o) k < 0 then -1 else heldL (lso o) k))
end Go.Mch
namespace Go.Mch

@[simp] theorem isPrefixOf_cons2 (a b : Nat) (as bs : List Nat) : (a :: as).isPrefixOf (b :: bs) = (a == b && as.isPrefixOf bs) := rfl

def solT : Option (List (List Int) × List (List Int)) → T
  | none => .agg [nil, nil]
  | some (X, Y) => .agg [.mem .own (some 1) (rows X), .mem .own (some 1) (rows Y)]
theorem S_heldRack.at {pg : Pg} (h : S_heldRack pg) (Y : List (List Int)) (m : Int) (hY : smallT Y) (h1 : 0 ≤ m) (h2 : m ≤ 1152921504606846976) : Call pg 149 [.agg [tb (upT m Y)], I m] [.agg [tb (upT m Y)], I m] (I (kAt m Y Y.length)) := by
  have hk := kAt_le (k := m) hY Y.length (Nat.le_refl _)
  have hl := hY.1
  have := h (some (upT m Y)) m (upT_small hY m) h1 (by omega) (by simp [heldL_all _ _ h1]; omega)
  simp only [lso_some, heldL_all _ _ h1] at this
  rw [if_neg (by omega)] at this
  exact this
def S_heldSol (pg : Pg) : Prop := ∀ (o o' : Option (List (List Int))) (k m : Int), smallT (lso o) → smallT (lso o') → 0 ≤ k → k ≤ 1152921504606846976 → 0 ≤ heldL (lso o) k → heldL (lso o) k ≤ 1152921504606846976 → heldL (lso o') (heldL (lso o) k) = m → 0 ≤ m → Call pg 172 [.agg [eT o, eT o'], I k] [.agg [eT o, eT o'], I k] (I m)
theorem S_heldSol.at {pg : Pg} (h : S_heldSol pg) (X Y : List (List Int)) (m : Int) (hX : smallT X) (hY : smallT Y) (h1 : 0 ≤ m) (h2 : m ≤ 1048576) : Call pg 172 [.agg [tb (upT m X), tb (upT (kAt m X X.length) Y)], I m] [.agg [tb (upT m X), tb (upT (kAt m X X.length) Y)], I m] (I (kAt (kAt m X X.length) Y Y.length)) := by
  have hk := kAt_le (k := m) hX X.length (Nat.le_refl _)
  have hk2 := kAt_le (k := kAt m X X.length) hY Y.length (Nat.le_refl _)
  have hl := hX.1
  have e1 := heldL_all X m h1
  have e2 := heldL_all Y (kAt m X X.length) (by omega)
  exact h (some (upT m X)) (some (upT _ Y)) m _ (upT_small hX m) (upT_small hY _) h1 (by omega) (by simp [e1]; omega) (by simp [e1]; omega) (by simp [e1, e2]) (by omega)
end Go.Mch
namespace Go.Mch


def S_sol1 (pg : Pg) (n : Nat) (snd : Bool) : Prop := ∀ (x y g1 g2 : Int) (f : Nat) (caps : List T), T.eryL .old caps = caps → T.noOwnL caps = true → Call pg f (I x :: I y :: caps) (I x :: I y :: caps) (.tup [I g1, I g2]) →
  Call pg n [I x, I y, .mem .old none [.fn f caps]] [I x, I y, .mem .old none [.fn f caps]] (I (if snd then g2 else g1))
theorem t_solutionBy1 {pg : Pg} (hp : pg.fn 391 = some c_impl_solutionBy_1) : S_sol1 pg 391 false := by
  intro x y g1 g2 f caps hc1 hc2 hc
  refine Call.intro hp rfl (by simp [hc2]) ?_
  show wp _ _ c_impl_solutionBy_1.body (post [.t 5] _ _ _) _
  simp [c_impl_solutionBy_1]
  refine callR (by simpa [hc1] using hc) rfl rfl (fun _ => by simp) ?_
  simp [hc2]
theorem t_solutionBy2 {pg : Pg} (hp : pg.fn 392 = some c_impl_solutionBy_2) : S_sol1 pg 392 true := by
  intro x y g1 g2 f caps hc1 hc2 hc
  refine Call.intro hp rfl (by simp [hc2]) ?_
  show wp _ _ c_impl_solutionBy_2.body (post [.t 5] _ _ _) _
  simp [c_impl_solutionBy_2]
  refine callR (by simpa [hc1] using hc) rfl rfl (fun _ => by simp) ?_
  simp [hc2]
def S_solBy (pg : Pg) : Prop := ∀ (n : Nat) (g1 g2 : Nat → Nat → Int) (f : Nat) (caps : List T), n ≤ 1048576 → T.eryL .old caps = caps → T.noOwnL caps = true →
  (∀ x y : Nat, x < n → y < n → Call pg f (I x :: I y :: caps) (I x :: I y :: caps) (.tup [I (g1 x y), I (g2 x y)])) →
  Call pg 308 [I n, .fn f caps] [I n, .fn f caps] (.agg [.mem .own (some 1) (rows (tabL n g1)), .mem .own (some 1) (rows (tabL n g2))])
theorem t_solutionBy {pg : Pg} (hp : pg.fn 308 = some c_impl_solutionBy) (h376 : S_tableBy pg) (h391 : S_sol1 pg 391 false) (h392 : S_sol1 pg 392 true) : S_solBy pg := by
  intro n g1 g2 f caps hn hc1 hc2 hc
  refine Call.intro hp rfl (by simp [hc2]) ?_
  show wp _ _ c_impl_solutionBy.body (post [.cell 4 (some 2)] _ _ _) _
  simp [c_impl_solutionBy, hc1, hc2]
  have k1 : ∀ x y : Nat, x < n → y < n → Call pg 391 (I x :: I y :: [.mem .old none [.fn f caps]]) (I x :: I y :: [.mem .old none [.fn f caps]]) (I (g1 x y)) := fun x y hx hy => h391 x y (g1 x y) (g2 x y) f caps hc1 hc2 (hc x y hx hy)
  have k2 : ∀ x y : Nat, x < n → y < n → Call pg 392 (I x :: I y :: [.mem .old none [.fn f caps]]) (I x :: I y :: [.mem .old none [.fn f caps]]) (I (g2 x y)) := fun x y hx hy => h392 x y (g1 x y) (g2 x y) f caps hc1 hc2 (hc x y hx hy)
  refine callR (h376 n g1 391 [.mem .old none [.fn f caps]] hn (by simp [hc1]) (by simp [hc2]) k1) rfl rfl (fun _ => by simp) ?_
  simp [hc1, hc2]
  refine callR (h376 n g2 392 [.mem .old none [.fn f caps]] hn (by simp [hc1]) (by simp [hc2]) k2) rfl rfl (fun _ => by simp) ?_
  simp [hc2]


def dL (f s : List (List Int)) : List Int := (List.range (clM f s)).map fun i => (clD f s i : Int)
@[simp] theorem dL_length (f s : List (List Int)) : (dL f s).length = clM f s := by simp [dL]
theorem dL_get (f s : List (List Int)) {i : Nat} (h : i < (dL f s).length) : (dL f s)[i] = (clD f s i : Int) := by simp [dL]
abbrev retCaps (f s : List (List Int)) : List T := [.mem .old none [ix (dL f s)], .mem .old none [ix (classes f s)], .mem .old none [tb f, tb s]]
def S_ret1 (pg : Pg) : Prop := ∀ (f s : List (List Int)) (x y : Nat), PM f s → x < clM f s → y < clM f s →
  Call pg 400 (I x :: I y :: retCaps f s) (I x :: I y :: retCaps f s) (.tup [I (v2 (retF f s) x y), I (v2 (retS f s) x y)])
theorem t_retract1 {pg : Pg} (hp : pg.fn 400 = some c_impl_retractOf_1) : S_ret1 pg := by
  intro f s x y h hx hy
  have q := quo_of h
  have hls := h.len
  have dx := q.dn x hx
  have dy := q.dn y hy
  have hf := h.v2f (clD f s x) (clD f s y)
  have hs := h.v2s (clD f s x) (clD f s y)
  have hcl := classes_length f s
  have e1 : v2 (retF f s) x y = (classes f s).getD (σN f (clD f s x) (clD f s y)) 0 := by
    rw [retF, v2_tabL hx hy]; exact (clC_int hf.2).1
  have e2 : v2 (retS f s) x y = (classes f s).getD (τN s (clD f s y) (clD f s x)) 0 := by
    rw [retS, v2_tabL hx hy]; exact (clC_int hs.2).1
  have hfr := h.tf.row dx
  have hsr := (h.ts.row (x := clD f s x) (by omega)).trans hls
  have hfg : (f[clD f s x])[clD f s y]'(by omega) = v2 f (clD f s x) (clD f s y) := get_v2 _ _
  have hsg : (s[clD f s x])[clD f s y]'(by omega) = v2 s (clD f s x) (clD f s y) := get_v2 _ _
  have g1 := dL_get f s (i := x) (by simpa using hx)
  have g2' := dL_get f s (i := y) (by simpa using hy)
  have n1 : (0 : Int) ≤ v2 f (clD f s x) (clD f s y) := by omega
  have n2 : (0 : Int) ≤ v2 s (clD f s x) (clD f s y) := by omega
  have t1 : (v2 f (clD f s x) (clD f s y)).toNat < f.length := by omega
  have t2 : (v2 s (clD f s x) (clD f s y)).toNat < f.length := by omega
  have t1' : v2 f (clD f s x) (clD f s y) < f.length := by omega
  have t2' : v2 s (clD f s x) (clD f s y) < f.length := by omega
  have dxs : clD f s x < s.length := by omega
  have c1 : (classes f s)[(v2 f (clD f s x) (clD f s y)).toNat]'(by omega) = v2 (retF f s) x y := by
    rw [e1, List.getD_eq_getElem?_getD, List.getElem?_eq_getElem (by rw [hcl]; exact hf.2)]; rfl
  have c2 : (classes f s)[(v2 s (clD f s x) (clD f s y)).toNat]'(by omega) = v2 (retS f s) x y := by
    rw [e2, List.getD_eq_getElem?_getD, List.getElem?_eq_getElem (by rw [hcl]; exact hs.2)]; rfl
  refine Call.intro hp rfl (by simp) ?_
  show wp _ _ c_impl_retractOf_1.body (post [.t 7, .t 8] _ _ _) _
  simp [c_impl_retractOf_1, hx, hy, g1, g2', dx, dy, dxs, hfr, hsr, hfg, hsg, n1, n2, t1, t2, t1', t2', c1, c2]

def S_retract (pg : Pg) (n : Nat) : Prop := ∀ f s : List (List Int), Rg f s → Call pg n [sol f s] [sol f s] (.agg [.mem .own (some 1) (rows (retF f s)), .mem .own (some 1) (rows (retS f s))])
theorem t_retractOf {pg : Pg} (hp : pg.fn 321 = some c_impl_retractOf) (h291 : S_classes pg 291) (h399 : S_firsts pg) (h308 : S_solBy pg) (h400 : S_ret1 pg) : S_retract pg 321 := by
  intro f s h
  have hpm := h.1
  have h12 := hpm.small
  have hm := clM_le f s
  refine Call.intro hp rfl (by simp) ?_
  show wp _ _ c_impl_retractOf.body (post [.cell 2 (some 2)] _ _ _) _
  simp [c_impl_retractOf]
  refine callR (h291 f s hpm) rfl rfl (fun _ => by simp) ?_
  simp
  have hfi : Call pg 399 [ix (classes f s)] [ix (classes f s)] (.mem .own (some 1) ((dL f s).map I)) := h399 f s hpm
  refine callR hfi rfl rfl (fun _ => by simp) ?_
  have hk : ∀ x y : Nat, x < clM f s → y < clM f s → Call pg 400 (I x :: I y :: retCaps f s) (I x :: I y :: retCaps f s) (.tup [I (v2 (retF f s) x y), I (v2 (retS f s) x y)]) := fun x y hx hy => h400 f s x y hpm hx hy
  have hsb := h308 (clM f s) (v2 (retF f s)) (v2 (retS f s)) 400 (retCaps f s) (by omega) (by simp) (by simp) hk
  have hr1 : tabL (clM f s) (v2 (retF f s)) = retF f s := (tab_eq (by simp) fun r hr => by rw [retF] at hr; exact tabL_row hr).symm
  have hr2 : tabL (clM f s) (v2 (retS f s)) = retS f s := (tab_eq (by simp) fun r hr => by rw [retS] at hr; exact tabL_row hr).symm
  rw [hr1, hr2] at hsb
  have hdl := dL_length f s
  simp only [retCaps] at hsb
  generalize dL f s = D at *
  rw [← hdl] at hsb
  simp
  refine callR hsb rfl rfl (fun _ => by simp) ?_
  simp


open Classical in
noncomputable def roR (f s : List (List Int)) : Option (List (List Int) × List (List Int)) := if isReg f s then some (retF f s, retS f s) else none
def S_ro (pg : Pg) (n : Nat) : Prop := ∀ f s : List (List Int), fits f → fits s → Call pg n [sol f s] [sol f s] (.tup [solT (roR f s), I (onReg 1 (fun _ _ => 0) f s)])
theorem t_ro_impl {pg : Pg} (hp : pg.fn 187 = some c_impl_RetractOf) (h266 : S_reg pg 266) (h321 : S_retract pg 321) : S_ro pg 187 := by
  intro f s hf hs
  refine Call.intro hp rfl (by simp) ?_
  show wp _ _ c_impl_RetractOf.body (post [.cell 2 (some 2), .t 3] _ _ _) _
  simp [c_impl_RetractOf]
  refine callR (h266 f s hf hs) rfl rfl (fun _ => rfl) ?_
  by_cases h : isReg f s
  · simp [dec_true h, onReg_true h]
    refine callR (h321 f s (rg_of h)) rfl rfl (fun _ => by simp) ?_
    simp [roR, h, solT]
  · simp [onReg_false h, roR, h, solT]
end Go.Mch
namespace Go.Mch

def cmpI (a b : Int) : Int := if a < b then -1 else if b < a then 1 else 0
def cmpW {α : Type} (c : α → α → Int) : List α → List α → Int
  | [], [] => 0
  | [], _ :: _ => -1
  | _ :: _, [] => 1
  | a :: as, b :: bs => if c a b ≠ 0 then c a b else cmpW c as bs
theorem cmpI_zero (a b : Int) : cmpI a b = 0 ↔ a = b := by
  unfold cmpI
  constructor
  · intro h
    split at h
    · omega
    · split at h <;> omega
  · rintro rfl; simp
theorem cmpW_zero {α : Type} {c : α → α → Int} (hc : ∀ a b, c a b = 0 ↔ a = b) : ∀ as bs : List α, cmpW c as bs = 0 ↔ as = bs
  | [], [] => by simp [cmpW]
  | [], _ :: _ => by simp [cmpW]
  | _ :: _, [] => by simp [cmpW]
  | a :: as, b :: bs => by
    have ih := cmpW_zero hc as bs
    unfold cmpW
    by_cases h : c a b = 0
    · have := (hc a b).1 h
      subst this
      simp [h, ih]
    · have : a ≠ b := fun he => h ((hc a b).2 he)
      simp [h, this]
abbrev cmpL : List Int → List Int → Int := cmpW cmpI
theorem cmpL_zero (a b : List Int) : cmpL a b = 0 ↔ a = b := cmpW_zero cmpI_zero a b
end Go.Mch
namespace Go.Mch

def atV (k : Env → Prop) (e : Env) (d : Option Nat) (n : Int) : V → Prop
  | .val (.sc (.string s)) => bindP (if 0 ≤ n then s[n.toNat]? else none) fun b => k (e.setD d (.val (.sc (.int .u8 b.toNat))))
  | _ => False
section
variable (G : Rl) (m : K) (d : Option Nat) (k : Env → Prop) (e : Env)
@[simp] theorem q_at (x i : Opd) : stepQ G m d (.at x i) k e = bindP (e.opd x) fun a => bindP ((e.opd i).bind asI) fun n => atV k e d n a := by
  unfold stepQ atV
  rfl
@[simp ↓, simp] theorem asgV_same (r : Nat) : asgV e d k (.same r) = bindP (e.take (.same r)) fun y => k (y.2.setD d (.val y.1)) := rfl
@[simp ↓, simp] theorem atV_str (n : Int) (s : ByteArray) : atV k e d n (.val (.sc (.string s))) = bindP (if 0 ≤ n then s[n.toNat]? else none) fun b => k (e.setD d (.val (.sc (.int .u8 b.toNat)))) := rfl
end

theorem cmpI_neg (a b : Int) : cmpI b a = - cmpI a b := by
  unfold cmpI
  split
  · rw [if_neg (by omega)]
  · split <;> rfl
theorem cmpL_neg : ∀ a b : List Int, cmpL b a = - cmpL a b
  | [], [] => rfl
  | [], _ :: _ => rfl
  | _ :: _, [] => rfl
  | a :: as, b :: bs => by
    have ih := cmpL_neg as bs
    have h := cmpI_neg a b
    simp only [cmpW]
    by_cases hz : cmpI a b = 0
    · have hz2 : cmpI b a = 0 := by omega
      simp only [hz, hz2, ne_eq, not_true_eq_false, if_false]
      exact ih
    · have hz2 : cmpI b a ≠ 0 := by omega
      simp only [ne_eq, hz, hz2, not_false_eq_true, if_true]
      exact h
theorem cmpI_lt {a b : Int} : cmpI a b < 0 ↔ a < b := by
  unfold cmpI
  by_cases h : a < b
  · simp [h]
  · by_cases h2 : b < a
    · simp [h, h2]
    · simp [h, h2]
theorem cmpL_trans : ∀ a b c : List Int, cmpL a b < 0 → cmpL b c < 0 → cmpL a c < 0
  | [], [], _, h, _ => by simp [cmpW] at h
  | [], _ :: _, [], _, h => by simp [cmpW] at h
  | [], _ :: _, _ :: _, _, _ => by simp [cmpW]
  | _ :: _, [], _, h, _ => by simp [cmpW] at h
  | _ :: _, _ :: _, [], _, h => by simp [cmpW] at h
  | a :: as, b :: bs, c :: cs, h1, h2 => by
    have ih := cmpL_trans as bs cs
    simp only [cmpW] at h1 h2 ⊢
    have z1 := cmpI_zero a b
    have z2 := cmpI_zero b c
    have l1 := @cmpI_lt a b
    have l2 := @cmpI_lt b c
    have l3 := @cmpI_lt a c
    have z3 := cmpI_zero a c
    by_cases e1 : cmpI a b = 0
    · have := z1.1 e1
      subst this
      by_cases e2 : cmpI a c = 0
      · simp [e1, e2] at h1 h2 ⊢
        exact ih h1 h2
      · simp only [ne_eq, e2, not_false_eq_true, if_true] at h2 ⊢
        exact h2
    · by_cases e2 : cmpI b c = 0
      · have := z2.1 e2
        subst this
        simp only [ne_eq, e1, not_false_eq_true, if_true] at h1 ⊢
        exact h1
      · simp only [ne_eq, e1, e2, not_false_eq_true, if_true] at h1 h2
        have : cmpI a c < 0 := l3.2 (by have := l1.1 h1; have := l2.1 h2; omega)
        rw [if_pos (by omega)]
        exact this
def Srt (X : List (List Int)) : Prop := X.Pairwise fun a b => cmpL a b < 0
theorem Srt.lt {X : List (List Int)} (h : Srt X) {i j : Nat} (hj : j < X.length) (hij : i < j) : cmpL (X[i]'(by omega)) X[j] < 0 :=
  List.pairwise_iff_getElem.1 h i j (by omega) hj hij
end Go.Mch
namespace Go.Mch

def gt (X : List (List Int)) (k : Nat) : List Int := X.getD k []
theorem gt_at {X : List (List Int)} {k : Nat} (h : k < X.length) : X[k] = gt X k := by simp [gt, h]
def tau (i j k : Nat) : Nat := if k = j then i else if k = i then j else k
theorem tau_inj {i j k k' : Nat} (h : tau i j k = tau i j k') : k = k' := by
  unfold tau at h
  split at h <;> split at h <;> (try split at h) <;> (try split at h) <;> omega
theorem tau_tau (i j k : Nat) : tau i j (tau i j k) = k := by
  unfold tau
  split <;> (try split) <;> (try split) <;> (try split) <;> omega
theorem tau_in {i j k a b : Nat} (hi : a ≤ i ∧ i < b) (hj : a ≤ j ∧ j < b) (hk : a ≤ k ∧ k < b) : a ≤ tau i j k ∧ tau i j k < b := by
  unfold tau
  split <;> (try split) <;> omega
def swL (X : List (List Int)) (i j : Nat) : List (List Int) := (X.set i (gt X j)).set j (gt X i)
@[simp] theorem swL_length (X : List (List Int)) (i j : Nat) : (swL X i j).length = X.length := by simp [swL]
theorem gt_swL {X : List (List Int)} {i j : Nat} (hi : i < X.length) (hj : j < X.length) (k : Nat) : gt (swL X i j) k = gt X (tau i j k) := by
  unfold tau
  simp only [gt, swL, List.getD_eq_getElem?_getD, List.getElem?_set, List.length_set]
  by_cases h1 : j = k
  · subst h1; simp [hj]
  · have h1' : ¬ k = j := fun h => h1 h.symm
    by_cases h2 : i = k
    · subst h2; simp [h1, h1', hi]
    · have h2' : ¬ k = i := fun h => h2 h.symm
      simp [h1, h2, h1', h2']
def Dj (X : List (List Int)) : Prop := ∀ k k', k < X.length → k' < X.length → gt X k = gt X k' → k = k'
def bef (x y : List Int) : Prop := cmpL x y < 0
instance (x y : List Int) : Decidable (bef x y) := by unfold bef; infer_instance
theorem bef_trans {x y z : List Int} (h1 : bef x y) (h2 : bef y z) : bef x z := cmpL_trans _ _ _ h1 h2
theorem bef_irr (x : List Int) : ¬ bef x x := by
  have := (cmpL_zero x x).2 rfl
  unfold bef
  omega
theorem bef_not {x y : List Int} (h : bef x y) : ¬ bef y x := fun h2 => bef_irr x (bef_trans h h2)
theorem bef_or {x y : List Int} (hne : x ≠ y) (h : ¬ bef x y) : bef y x := by
  have h1 := cmpL_neg x y
  have h2 : cmpL x y ≠ 0 := fun hz => hne ((cmpL_zero x y).1 hz)
  unfold bef at h ⊢
  omega
theorem Dj.or {X : List (List Int)} (h : Dj X) {i j : Nat} (hi : i < X.length) (hj : j < X.length) (hij : i ≠ j) (hn : ¬ bef (gt X i) (gt X j)) : bef (gt X j) (gt X i) :=
  bef_or (fun he => hij (h i j hi hj he)) hn
theorem Dj.swap {X : List (List Int)} (h : Dj X) {i j : Nat} (hi : i < X.length) (hj : j < X.length) : Dj (swL X i j) := by
  intro k k' hk hk' he
  rw [swL_length] at hk hk'
  rw [gt_swL hi hj, gt_swL hi hj] at he
  have h1 := tau_in (i := i) (j := j) (a := 0) (b := X.length) (k := k) (by omega) (by omega) (by omega)
  have h2 := tau_in (i := i) (j := j) (a := 0) (b := X.length) (k := k') (by omega) (by omega) (by omega)
  exact tau_inj (h _ _ h1.2 h2.2 he)
structure PI (X Y : List (List Int)) (a b : Nat) : Prop where
  len : Y.length = X.length
  out : ∀ k, k < a ∨ b ≤ k → gt Y k = gt X k
  fwd : ∀ k, a ≤ k → k < b → ∃ k', a ≤ k' ∧ k' < b ∧ gt Y k = gt X k'
  bwd : ∀ k, a ≤ k → k < b → ∃ k', a ≤ k' ∧ k' < b ∧ gt X k = gt Y k'
  dj : Dj Y
theorem PI.refl {X : List (List Int)} (h : Dj X) (a b : Nat) : PI X X a b := ⟨rfl, fun _ _ => rfl, fun k h1 h2 => ⟨k, h1, h2, rfl⟩, fun k h1 h2 => ⟨k, h1, h2, rfl⟩, h⟩
theorem PI.trans {X Y Z : List (List Int)} {a b : Nat} (h : PI X Y a b) (g : PI Y Z a b) : PI X Z a b :=
  ⟨g.len.trans h.len, fun k hk => (g.out k hk).trans (h.out k hk), fun k h1 h2 => by
    obtain ⟨k', p1, p2, p3⟩ := g.fwd k h1 h2
    obtain ⟨k'', q1, q2, q3⟩ := h.fwd k' p1 p2
    exact ⟨k'', q1, q2, p3.trans q3⟩, fun k h1 h2 => by
    obtain ⟨k', p1, p2, p3⟩ := h.bwd k h1 h2
    obtain ⟨k'', q1, q2, q3⟩ := g.bwd k' p1 p2
    exact ⟨k'', q1, q2, p3.trans q3⟩, g.dj⟩
theorem PI.swap {X Y : List (List Int)} {a b i j : Nat} (h : PI X Y a b) (hb : b ≤ X.length) (hi : a ≤ i ∧ i < b) (hj : a ≤ j ∧ j < b) : PI X (swL Y i j) a b := by
  have hl := h.len
  have hg := gt_swL (X := Y) (i := i) (j := j) (by omega) (by omega)
  refine ⟨by simp [hl], fun k hk => ?_, fun k h1 h2 => ?_, fun k h1 h2 => ?_, h.dj.swap (by omega) (by omega)⟩
  · rw [hg]
    have : tau i j k = k := by unfold tau; split <;> (try split) <;> omega
    rw [this]
    exact h.out k hk
  · rw [hg]
    have := tau_in hi hj ⟨h1, h2⟩
    exact h.fwd _ this.1 this.2
  · obtain ⟨k', p1, p2, p3⟩ := h.bwd k h1 h2
    have := tau_in hi hj ⟨p1, p2⟩
    exact ⟨tau i j k', this.1, this.2, by rw [hg, tau_tau]; exact p3⟩
def SI (X : List (List Int)) (a b : Nat) : Prop := ∀ p q, a ≤ p → p < q → q < b → bef (gt X p) (gt X q)
theorem SI.one (X : List (List Int)) {a b : Nat} (h : b ≤ a + 1) : SI X a b := fun p q h1 h2 h3 => by omega
def SJ (X : List (List Int)) (a j i : Nat) : Prop := ∀ p q, a ≤ p → p < q → q < i → q ≠ j → bef (gt X p) (gt X q)
theorem SJ.done {X : List (List Int)} {a j i : Nat} (h : SJ X a j i) (hj : j = a ∨ bef (gt X (j - 1)) (gt X j)) : SI X a i := fun p q h1 h2 h3 => by
  by_cases hq : q = j
  · subst hq
    rcases hj with hj | hj
    · omega
    · by_cases hp : p = q - 1
      · subst hp; exact hj
      · exact bef_trans (h p (q - 1) h1 (by omega) (by omega) (by omega)) hj
  · exact h p q h1 h2 h3 hq
theorem SJ.step {X : List (List Int)} {a j i : Nat} (h : SJ X a (j + 1) i) (haj : a ≤ j) (hji : j + 1 < i) (hi : i ≤ X.length) (hb : bef (gt X (j + 1)) (gt X j)) : SJ (swL X (j + 1) j) a j i := by
  have hg := gt_swL (X := X) (i := j + 1) (j := j) (by omega) (by omega)
  intro p q h1 h2 h3 h4
  rw [hg, hg]
  unfold tau
  by_cases hq : q = j + 1
  · subst hq
    rw [if_neg h4, if_pos rfl]
    by_cases hp : p = j
    · rw [if_pos hp]; exact hb
    · rw [if_neg hp, if_neg (by omega)]
      exact h p j h1 (by omega) (by omega) (by omega)
  · rw [if_neg h4, if_neg hq]
    by_cases hp : p = j
    · rw [if_pos hp]; exact h (j + 1) q (by omega) (by omega) h3 hq
    · rw [if_neg hp]
      by_cases hp2 : p = j + 1
      · rw [if_pos hp2]; exact h j q (by omega) (by omega) h3 hq
      · rw [if_neg hp2]; exact h p q h1 h2 h3 hq
theorem SI.srt {X : List (List Int)} (h : SI X 0 X.length) : Srt X := by
  refine List.pairwise_iff_getElem.2 fun i j hi hj hij => ?_
  have := h i j (by omega) hij hj
  rw [← gt_at hi, ← gt_at hj] at this
  exact this
theorem PI.mem {X Y : List (List Int)} (h : PI X Y 0 X.length) (x : List Int) : x ∈ Y ↔ x ∈ X := by
  have hl := h.len
  constructor
  · intro hm
    obtain ⟨k, hk, rfl⟩ := List.getElem_of_mem hm
    obtain ⟨k', _, p2, p3⟩ := h.fwd k (by omega) (by omega)
    rw [gt_at hk, p3, ← gt_at p2]
    exact List.getElem_mem p2
  · intro hm
    obtain ⟨k, hk, rfl⟩ := List.getElem_of_mem hm
    obtain ⟨k', _, p2, p3⟩ := h.bwd k (by omega) hk
    have hk' : k' < Y.length := by omega
    rw [gt_at hk, p3, ← gt_at hk']
    exact List.getElem_mem hk'
end Go.Mch
namespace Go.Mch

def Sm (X : List (List Int)) : Prop := X.length ≤ 1000000 ∧ ∀ k, (gt X k).length ≤ 1048576
theorem Sm.pi {X Y : List (List Int)} {a b : Nat} (h : Sm X) (p : PI X Y a b) : Sm Y := ⟨by rw [p.len]; exact h.1, fun k => by
  by_cases hk : a ≤ k ∧ k < b
  · obtain ⟨k', _, _, q⟩ := p.fwd k hk.1 hk.2
    rw [q]; exact h.2 k'
  · rw [p.out k (by omega)]; exact h.2 k⟩
def postX {α : Type} (Q : α → Prop) (rs : List RV) (args : List T) (args' : α → List T) (r : α → T) : X → Env → Prop := fun x e => ∃ l, Q l ∧ post rs args (args' l) (r l) x e
theorem Call.findA {α : Type} {pg : Pg} {f : Nat} {args : List T} {fn : F} {args' : α → List T} {r : α → T} {Q : α → Prop} (hf : pg.fn f = some fn) (hn : fn.np = args.length) (hl : fn.lets args = true) (hk : kindOf args = .old)
    (h : wp (Call pg) .old fn.body (postX Q fn.rs args args' r) (init args)) : ∃ l, Q l ∧ Call pg f args (args' l) (r l) := by
  obtain ⟨⟨l, hq⟩, hl2⟩ := wp_ex (β := { l // Q l }) (R := fun l x e => post fn.rs args (args' l.1) (r l.1) x e) fn.body (wp_mono (fun _ _ _ _ h => h) _ (fun _ _ ⟨l, hq, hp⟩ => ⟨⟨l, hq⟩, hp⟩) h)
  exact ⟨l, hq, Call.intro_own hf hn hl (by rw [hk]; exact hl2)⟩
def ExY (P : List (List Int) → Prop) : Prop := ∃ Q, P Q
theorem ExY.mk {P : List (List Int) → Prop} (Q : List (List Int)) (h : P Q) : ExY P := ⟨Q, h⟩
theorem SI.less {X : List (List Int)} {a i b : Nat} (h : SI X a i) (hb : b ≤ i) : SI X a b := fun p q h1 h2 h3 => h p q h1 h2 (by omega)

end Go.Mch
namespace Go.Mch

def chd (c p : Nat) : Prop := c = 2 * p + 1 ∨ c = 2 * p + 2
def Hp (X : List (List Int)) (f lo hi : Nat) : Prop := ∀ p c, lo ≤ p → chd c p → c < hi → ¬ bef (gt X (f + p)) (gt X (f + c))
def HpR (X : List (List Int)) (f lo hi r : Nat) : Prop := (∀ p c, lo ≤ p → p ≠ r → chd c p → c < hi → ¬ bef (gt X (f + p)) (gt X (f + c))) ∧ ∀ q c, lo ≤ q → chd r q → chd c r → c < hi → ¬ bef (gt X (f + q)) (gt X (f + c))
theorem Hp.start {X : List (List Int)} {f lo hi : Nat} (h : Hp X f (lo + 1) hi) : HpR X f lo hi lo :=
  ⟨fun p c h1 h2 h3 h4 => h p c (by omega) h3 h4, fun q c h1 h2 h3 h4 => by unfold chd at h2; omega⟩
theorem HpR.out {X : List (List Int)} {f lo hi r : Nat} (h : HpR X f lo hi r) (hr : hi ≤ 2 * r + 1) : Hp X f lo hi := fun p c h1 h2 h3 => by
  by_cases hp : p = r
  · subst hp; unfold chd at h2; omega
  · exact h.1 p c h1 hp h2 h3
def Big (X : List (List Int)) (f hi r d : Nat) : Prop := chd d r ∧ d < hi ∧ ∀ c, chd c r → c < hi → ¬ bef (gt X (f + d)) (gt X (f + c))
theorem HpR.step {X : List (List Int)} {f lo hi r d : Nat} (h : HpR X f lo hi r) (hr : lo ≤ r) (hl : f + hi ≤ X.length) (hb : Big X f hi r d) (hn : bef (gt X (f + r)) (gt X (f + d))) : HpR (swL X (f + r) (f + d)) f lo hi d := by
  obtain ⟨b1, b2, b3⟩ := hb
  have hrd : r < d := by unfold chd at b1; omega
  have hg := gt_swL (X := X) (i := f + r) (j := f + d) (by omega) (by omega)
  have hgr : gt (swL X (f + r) (f + d)) (f + r) = gt X (f + d) := by rw [hg]; unfold tau; rw [if_neg (by omega), if_pos rfl]
  have hgd : gt (swL X (f + r) (f + d)) (f + d) = gt X (f + r) := by rw [hg]; unfold tau; rw [if_pos rfl]
  have hgo : ∀ k, k ≠ r → k ≠ d → gt (swL X (f + r) (f + d)) (f + k) = gt X (f + k) := fun k h1 h2 => by rw [hg]; unfold tau; rw [if_neg (by omega), if_neg (by omega)]
  refine ⟨fun p c h1 h2 h3 h4 => ?_, fun q c h1 h2 h3 h4 => ?_⟩
  · by_cases hp : p = r
    · subst hp
      rw [hgr]
      by_cases hc : c = d
      · subst hc; rw [hgd]; exact bef_not hn
      · have hcr : c ≠ p := by unfold chd at h3; omega
        rw [hgo c hcr hc]
        exact b3 c h3 h4
    · rw [hgo p hp h2]
      by_cases hc : c = r
      · subst hc
        rw [hgr]
        exact h.2 p d h1 h3 b1 b2
      · have hcd : c ≠ d := fun he => by subst he; unfold chd at h3 b1; omega
        rw [hgo c hc hcd]
        exact h.1 p c h1 hp h3 h4
  · have hq : q = r := by unfold chd at h2 b1; omega
    subst hq
    have hcq : c ≠ q := by unfold chd at h3; omega
    have hcd : c ≠ d := by unfold chd at h3; omega
    rw [hgr, hgo c hcq hcd]
    exact h.1 d c (by omega) (by omega) h3 h4

end Go.Mch
namespace Go.Mch

theorem wr64 {n : Nat} (h : n ≤ 100000000) : IntKind.i64.wrap (n : Int) = n := by
  have h1 : (n : Int) % 18446744073709551616 = n := by omega
  show (if (true && decide ((n : Int) % 18446744073709551616 ≥ 9223372036854775808)) = true then _ else (n : Int) % 18446744073709551616) = _
  rw [h1, if_neg (by simp; omega)]
theorem wru {a : Int} (h0 : 0 ≤ a) (h : a < 18446744073709551616) : IntKind.u64.wrap a = a := by
  show a % 18446744073709551616 = a
  omega

end Go.Mch
namespace Go.Mch

abbrev Y8 (x : Int) : T := .sc (.int .u8 x)
abbrev H64 (x : Int) : T := .sc (.int .u64 x)
def rawB : Rw Int → T
  | .no => nil
  | .odd a => .sc (.slice (some a) 0 0)
  | .of xs => .mem .old (some 1) (xs.map Y8)
@[simp] theorem noOwnL_mapU (xs : List Int) : T.noOwnL (xs.map Y8) = true := by
  induction xs with
  | nil => rfl
  | cons x xs ih => simp [ih]
@[simp] theorem eryL_mapU (k : K) (xs : List Int) : T.eryL k (xs.map Y8) = xs.map Y8 := by
  induction xs with
  | nil => rfl
  | cons x xs ih => simp [ih]
@[simp] theorem lendL_mapU (xs : List Int) : T.lendL (xs.map Y8) = xs.map Y8 := by
  induction xs with
  | nil => rfl
  | cons x xs ih => simp [ih]
@[simp] theorem rawB_noOwn (a : Rw Int) : (rawB a).noOwn = true := by cases a <;> simp [rawB]
@[simp] theorem rawB_peek (a : Rw Int) (n : Nat) (p : List Nat) : (rawB a).peek n p = .val (rawB a) := by cases a <;> rfl
@[simp] theorem rawB_ery (a : Rw Int) : (rawB a).ery .old = rawB a := by cases a <;> simp [rawB]
@[simp] theorem rawB_lend (a : Rw Int) : (rawB a).lend = rawB a := by cases a <;> simp [rawB]
@[simp] theorem rawB_len (a : Rw Int) : lenV (.val (rawB a)) = some (lst a).length := by cases a <;> simp [rawB]
@[simp] theorem rawB_isCell (a : Rw Int) : (rawB a).isCell = true := by cases a <;> rfl
@[simp] theorem rawB_cells (a : Rw Int) : (rawB a).cells = [rawB a] := by cases a <;> rfl
@[simp] theorem fillV_rawB (vs : List V) (i n : Nat) (c : Rw Int) (r : List (Nat × Nat × V)) : fillV vs ((i, n, .val (rawB c)) :: r) = if n = 1 ∧ i + n ≤ vs.length then fillV (vs.take i ++ [.val (rawB c)] ++ vs.drop (i + n)) r else none := by cases c <;> rfl
@[simp] theorem rawB_idx (a : Rw Int) (i : Int) : idxV 1 (.val (rawB a)) i = if 0 ≤ i ∧ i < ((lst a).length : Int) then some (.val (.mem .old none (win ((lst a).map Y8) (i.toNat * 1) 1))) else none := by
  cases a with
  | no =>
    simp only [rawB, idxV, lst_no, List.length_nil, List.map_nil]
    rw [if_neg]
    omega
  | odd ad =>
    simp only [rawB, idxV, lst_odd, List.length_nil, List.map_nil]
    rw [if_neg]
    omega
  | of xs => simp [rawB]

@[simp] theorem arith_u64 (n : Int) : arith .u64 n = some (.int .u64 (IntKind.u64.wrap n)) := by rw [arith, if_neg (by decide)]

abbrev src (c : Rw Int) (s : Int × Int) : T := .mem .own none [rawB c, I s.1, H64 s.2]
def okB (c : Rw Int) : Prop := (lst c).length ≤ 1048576 ∧ ∀ x ∈ lst c, 0 ≤ x ∧ x < 256
def Sr (c : Rw Int) (s : Int × Int) : Prop := okB c ∧ 0 ≤ s.1 ∧ s.1 ≤ (lst c).length

theorem and24 (a : Nat) : ∃ y : Nat, y ≤ 16777215 ∧ IntKind.i64.wrap (IntKind.u64.wrap ((a &&& 16777215 % 2 ^ IntKind.u64.bits : Nat) : Int)) = (y : Int) := by
  have h : a &&& 16777215 % 2 ^ IntKind.u64.bits ≤ 16777215 := by
    show a &&& 16777215 % 2 ^ 64 ≤ 16777215
    exact Nat.le_trans Nat.and_le_right (by decide)
  refine ⟨_, h, ?_⟩
  rw [wru (by omega) (by omega), wr64 (by omega)]
def S_nxt (pg : Pg) : Prop := ∀ (c : Rw Int) (s : Int × Int) (n : Int), Sr c s → ∃ (s' : Int × Int) (r : Int), (Sr c s' ∧ 0 ≤ r ∧ (1 ≤ n → r < n) ∧ (n < 1 → r = 0)) ∧ Call pg 336 [src c s, I n] [src c s', I n] (I r)
set_option maxRecDepth 10000 in
theorem t_nxt {pg : Pg} (hp : pg.fn 336 = some c_spec_l01Next) : S_nxt pg := by
  intro c s n hs
  have hfind := Call.findA (α := (Int × Int) × Int) (Q := fun Y => Sr c Y.1 ∧ 0 ≤ Y.2 ∧ (1 ≤ n → Y.2 < n) ∧ (n < 1 → Y.2 = 0)) (args := [src c s, I n]) (args' := fun Y => [src c Y.1, I n]) (r := fun Y => I Y.2) hp rfl (by simp [F.lets, c_spec_l01Next, List.range, List.range.loop]) (by simp [kindOf]) ?_
  · obtain ⟨Y, h1, h2⟩ := hfind
    exact ⟨_, _, h1, h2⟩
  show wp _ _ c_spec_l01Next.body (postX _ [.t 4] _ _ _) _
  generalize hR : postX (fun Y : (Int × Int) × Int => Sr c Y.1 ∧ 0 ≤ Y.2 ∧ (1 ≤ n → Y.2 < n) ∧ (n < 1 → Y.2 = 0)) [.t 4] [src c s, I n] (fun Y => [src c Y.1, I n]) (fun Y => I Y.2) = R
  obtain ⟨a, h⟩ := s
  obtain ⟨hc, ha, hl⟩ := hs
  have hb := hc.1
  simp only at ha hl
  by_cases hn : n < 1
  · simp [c_spec_l01Next, hn]
    subst hR
    exact ⟨((a, h), 0), ⟨⟨hc, ha, hl⟩, by simp; omega⟩, by simp [post]⟩
  · simp [c_spec_l01Next, hn]
    generalize IntKind.u64.wrap (IntKind.u64.wrap (h * 6364136223846793005) + 1442695040888963407) = h'
    generalize (h'.fdiv (2 ^ min 33 IntKind.u64.bits) % 2 ^ IntKind.u64.bits).toNat = z
    obtain ⟨y, hy, e⟩ := and24 z
    have hn0 : ¬ n = 0 := by omega
    have hmod : ∀ x : Int, 0 ≤ x → 0 ≤ x.tmod n ∧ x.tmod n < n := fun x hx => by
      rw [Int.tmod_eq_emod_of_nonneg hx]
      exact ⟨Int.emod_nonneg _ hn0, Int.emod_lt_of_pos _ (by omega)⟩
    rw [e]
    by_cases hlt : a < (lst c).length
    · obtain ⟨i, rfl⟩ : ∃ i : Nat, a = i := ⟨a.toNat, by omega⟩
      have hi : i < (lst c).length := by omega
      have hx := hc.2 _ (List.getElem_mem hi)
      have hw : IntKind.i64.wrap ((lst c)[i]) = (lst c)[i] := by
        obtain ⟨x, hx'⟩ : ∃ x : Nat, (lst c)[i] = x := ⟨((lst c)[i]).toNat, by omega⟩
        rw [hx', wr64 (by omega)]
      simp [hlt, hi, hn0, hw]
      subst hR
      have := hmod (y + (lst c)[i]) (by omega)
      refine ⟨by omega, by omega, ((i + 1, h'), ((y : Int) + (lst c)[i]).tmod n), ⟨⟨hc, by simp only; omega, by simp only; omega⟩, by simp only; omega⟩, by simp [post]⟩
    · simp [hlt, hn0]
      subst hR
      have := hmod y (by omega)
      exact ⟨((a, h'), (y : Int).tmod n), ⟨⟨hc, ha, hl⟩, by simp only; omega⟩, by simp [post]⟩
theorem callS {G : Rl} {d : Option Nat} {k : Env → Prop} {e : Env} {n id : Nat} {ts us ts' : List T} {r : T} (hc : G id (.mem .own none (T.lendL ts) :: T.lendL us) (.mem .own none ts' :: us) r) (hk : k ((e.over n (.mem .own none ts')).setD d (.val r))) : callsP G d k e n id ts us := ⟨ts', r, hc, hk⟩
def S_pick (pg : Pg) : Prop := ∀ (c : Rw Int) (s : Int × Int) (l : List Int), Sr c s → 0 < l.length → l.length ≤ 1048576 → ∃ (s' : Int × Int) (r : Int), (Sr c s' ∧ r ∈ l) ∧ Call pg 292 [src c s, ix l] [src c s', ix l] (I r)
set_option maxRecDepth 10000 in
theorem t_pick {pg : Pg} (hp : pg.fn 292 = some c_spec_l01Pick) (h336 : S_nxt pg) : S_pick pg := by
  intro c s l hs h0 hl
  obtain ⟨s', r, ⟨g1, g2, g3, _⟩, hc⟩ := h336 c s l.length hs
  have g3 := g3 (by omega)
  obtain ⟨i, rfl⟩ : ∃ i : Nat, r = i := ⟨r.toNat, by omega⟩
  have hi : i < l.length := by omega
  refine ⟨s', l[i], ⟨g1, List.getElem_mem hi⟩, Call.intro_own hp rfl (by simp [F.lets, c_spec_l01Pick, List.range, List.range.loop]) ?_⟩
  show wp _ _ c_spec_l01Pick.body (post [.t 4] _ _ _) _
  simp [c_spec_l01Pick]
  refine callS (ts' := [rawB c, I s'.1, H64 s'.2]) (r := I i) (by simpa using hc) ?_
  simp [hi]
def S_from (pg : Pg) : Prop := ∀ c : Rw Int, okB c → ∃ s : Int × Int, Sr c s ∧ Call pg 269 [rawB c] [rawB c] (src c s)
set_option maxRecDepth 10000 in
theorem t_from {pg : Pg} (hp : pg.fn 269 = some c_spec_l01From) : S_from pg := by
  intro c hc
  have hb := hc.1
  have hfind := Call.find (α := Int × Int) (Q := fun s => Sr c s) (args := [rawB c]) (r := fun s => src c s) hp rfl (by simp) ?_
  · exact hfind
  show wp _ _ c_spec_l01From.body (postX _ [.t 2] _ _ _) _
  generalize hR : postX (fun s : Int × Int => Sr c s) [.t 2] [rawB c] (fun _ => [rawB c]) (fun s => src c s) = R
  simp [c_spec_l01From]
  obtain ⟨m, m1, m2, m3⟩ : ∃ m : Nat, m ≤ (lst c).length ∧ m ≤ 4096 ∧ (m = (lst c).length ∨ m = 4096) := by
    by_cases h1 : (lst c).length ≤ 4096
    · exact ⟨_, Nat.le_refl _, h1, .inl rfl⟩
    · exact ⟨4096, by omega, Nat.le_refl _, .inr rfl⟩
  refine wpLoop_count (fun k e => ∃ h : Int, e = fr [(0, some (.val (rawB c))), (3, some (.val (src c (0, h)))), (4, some (.val (I k)))]) m ?_ ?_ 0 _ (by omega) ⟨_, rfl⟩
  · rintro k e hk ⟨h, rfl⟩
    have k1 : k < (lst c).length := by omega
    have k2 : (k : Int) < 4096 := by omega
    simp [k1, k2]
    exact ⟨by omega, _, rfl⟩
  · rintro e ⟨h, rfl⟩
    have hok : Sr c (0, h) := ⟨hc, by simp, by simp⟩
    by_cases h1 : m = (lst c).length
    · subst h1
      simp [undefV]
      subst hR
      exact ⟨(0, h), hok, by simp [post]⟩
    · have h2 : m = 4096 := by omega
      subst h2
      have h3 : (4096 : Int) < (lst c).length := by omega
      simp [h3]
      subst hR
      exact ⟨(0, h), hok, by simp [post]⟩
end Go.Mch
namespace Go.Mch
section
variable {H : Type} {enc : TypeId × Value → H} {P : Program} {w : World} {base : Nat} {held : Bool} {fm : Nat → Nat}
theorem u8_wf {n : Int} (h : (Lit.int .u8 n).wf = true) : 0 ≤ n ∧ n < 256 := by
  simp only [Lit.wf, Bool.and_eq_true, decide_eq_true_eq] at h
  have h1 : IntKind.u8.min = 0 := by decide
  have h2 : IntKind.u8.max = 255 := by decide
  omega
theorem open_rawB {m : DataW H → Nat} (hm : Bulk m) {t e : TypeId} {fuel : Nat} {cs : List Value} {x : DataW H × List MemPlace} (ht : P.underlying t = some (.slice e)) (he : P.underlying e = some (.int .u8)) (hc : P.cellsOf e = 1)
    (h : DataW.trod enc P w base (fun _ => true) held fuel t cs = some x) : ∃ v o, cs = [v] ∧ rep fm okCl w v (rawB o) ∧ (lst o).length ≤ m x.1 ∧ ∀ n ∈ lst o, 0 ≤ n ∧ n < 256 := by
  rcases open_raw ht hc h with ⟨rfl, hx⟩ | ⟨a, rfl, hx⟩ | ⟨b, off, len, cap, ds, rest, n, rfl, hl, hx, hlen, hel⟩
  · exact ⟨_, .no, rfl, ⟨rfl, rfl⟩, by simp, by simp⟩
  · exact ⟨_, .odd a, rfl, ⟨rfl, rfl⟩, by simp, by simp⟩
  · obtain ⟨zs, h1, h2⟩ := each (Q := fun i (z : Int) => w.cell? ⟨b, off + i, none⟩ = some (.int .u8 z) ∧ (Lit.int .u8 z).wf = true) len (fun i hi => by
      obtain ⟨c, y, h3, h4, _⟩ := hel i hi
      obtain ⟨z, h5, _, h6⟩ := DataW.trod_int he h4
      simp only [List.cons.injEq, and_true] at h5
      exact ⟨z, by rw [h3, h5], h6⟩)
    refine ⟨_, .of zs, rfl, rep_slice (by simp [h1]) hl (by simp) (fun i hi => ?_), ?_, fun n hn => ?_⟩
    · have hi' : i < zs.length := by simpa using hi
      exact ⟨_, (h2 i hi').1, by simp [rep, scal]⟩
    · rw [hx]
      exact Nat.le_trans (by simp [h1, hlen]) (hm.slice ds rest)
    · obtain ⟨i, hi, rfl⟩ := List.getElem_of_mem hn
      exact u8_wf (h2 i hi).2
theorem open_argB {m : DataW H → Nat} (hm : Bulk m) {rc : Reach} {b0 : Nat} {t e : TypeId} {v : Value} {d : DataW H} {ps : List MemPlace} (ht : P.underlying t = some (.slice e)) (he : P.underlying e = some (.int .u8)) (hc : P.cellsOf e = 1)
    (hval : Value.okWide P w rc b0 t v) (h : DataW.Trod enc P w base (fun _ => true) held t v d ps) : ∃ a, rep fm okCl w v (rawB a) ∧ (lst a).length ≤ m d ∧ ∀ n ∈ lst a, 0 ≤ n ∧ n < 256 := by
  obtain ⟨ad, len, cap, rfl⟩ := Go.WideShapes.okWide_slice ht hval
  obtain ⟨fuel, h⟩ := h
  obtain ⟨v0, a, e1, e2, e3, e4⟩ := open_rawB (fm := fm) hm ht he hc h
  simp only [Value.cells, List.cons.injEq, and_true] at e1
  subst e1
  exact ⟨a, e2, e3, e4⟩
end
end Go.Mch
namespace Go.Mch

def zeroT (m k : Nat) : List (List Int) := List.replicate k (List.replicate m 0)
def zT (m k : Nat) : T := if k = 0 then nil else .mem .own (some 1) (rows (zeroT m k))
theorem zT_succ (m k : Nat) : zT m (k + 1) = .mem .own (some 1) (rows (zeroT m k) ++ [.mem .own (some 1) (List.replicate m (I 0))]) := by
  simp [zT, zeroT, List.replicate_succ', rows_append]
  simp [rows]
def S_empty (pg : Pg) : Prop := ∀ m : Nat, 0 < m → m ≤ 1000 → Call pg 398 [I m] [I m] (.agg [.mem .own (some 1) (rows (zeroT m m)), .mem .own (some 1) (rows (zeroT m m))])
theorem t_l02Empty {pg : Pg} (hp : pg.fn 398 = some c_spec_l02Empty) : S_empty pg := by
  intro m h0 hm
  refine Call.intro hp rfl (by simp) ?_
  show wp _ _ c_spec_l02Empty.body (post [.cell 2 (some 2)] _ _ _) _
  simp [c_spec_l02Empty]
  refine wpLoop_count (fun k e => e = fr [(0, some (.val (I m))), (2, some (.val (.mem .own none [nil, nil]))), (3, some (.val (.mem .own none [zT m k, zT m k]))), (4, some (.val (I k)))]) m ?_ ?_ 0 _ (by omega) ?_
  · rintro k e hk rfl
    have hr : m ≤ roomy := by unfold roomy; omega
    by_cases hk0 : k = 0
    · subst hk0
      have h1 : 1 ≤ roomy := by unfold roomy; omega
      rw [zT_succ]
      simp [hk, zT, zeroT, rows, hr, h1]
    · have hlen : (zeroT m k).length = k := by simp [zeroT]
      have h1 : k + 1 ≤ roomy := by unfold roomy; omega
      rw [zT_succ]
      have hz : zT m k = .mem .own (some 1) (rows (zeroT m k)) := by simp [zT, hk0]
      rw [hz]
      generalize zeroT m k = Z at *
      simp [hk, hr, hlen, h1]
      omega
  · rintro e rfl
    have hz : zT m m = .mem .own (some 1) (rows (zeroT m m)) := by simp [zT]; omega
    rw [hz]
    simp
  · simp [zT]

def cov (f s : List (List Int)) (a b i j : Nat) : Prop := ∃ x y, x < f.length ∧ y < f.length ∧ (x < a ∨ (x = a ∧ y < b)) ∧ clC f s x = i ∧ clC f s y = j
noncomputable def pT (f s R : List (List Int)) (a b : Nat) : List (List Int) := tabL (clM f s) fun i j => if dec (cov f s a b i j) then v2 R i j else 0
@[simp] theorem pT_length (f s R : List (List Int)) (a b : Nat) : (pT f s R a b).length = clM f s := by simp [pT]
theorem pT_zero (f s R : List (List Int)) : pT f s R 0 0 = zeroT (clM f s) (clM f s) := by
  apply List.ext_getElem
  · simp [zeroT]
  · intro i h1 h2
    apply List.ext_getElem
    · simp [pT, tabL, zeroT]
    · intro j h3 h4
      have : ¬ cov f s 0 0 i j := fun ⟨x, y, _, _, h, _⟩ => by omega
      simp [pT, tabL, zeroT, dec_false this]
theorem pT_next (f s R : List (List Int)) (a : Nat) : pT f s R a f.length = pT f s R (a + 1) 0 := by
  apply tabL_congr
  intro i j _ _
  have : cov f s a f.length i j ↔ cov f s (a + 1) 0 i j := by
    constructor
    · rintro ⟨x, y, h1, h2, h3, h4⟩
      exact ⟨x, y, h1, h2, by omega, h4⟩
    · rintro ⟨x, y, h1, h2, h3, h4⟩
      exact ⟨x, y, h1, h2, by omega, h4⟩
  by_cases hc : cov f s a f.length i j
  · rw [dec_true hc, dec_true (this.1 hc)]
  · rw [dec_false hc, dec_false (fun h => hc (this.2 h))]
theorem pT_all {f s R : List (List Int)} (h : PM f s) (hR : R = tabL (clM f s) (v2 R)) : pT f s R f.length 0 = R := by
  have q := quo_of h
  rw [hR]
  apply tabL_congr
  intro i j hi hj
  have : cov f s f.length 0 i j := ⟨clD f s i, clD f s j, q.dn i hi, q.dn j hj, .inl (q.dn i hi), q.cd i hi, q.cd j hj⟩
  rw [dec_true this, ← hR]
  rfl
theorem pT_set {f s R : List (List Int)} {a b : Nat} (ha : a < f.length) (hb : b < f.length) :
    (pT f s R a b).set (clC f s a) (((pT f s R a b).getD (clC f s a) []).set (clC f s b) (v2 R (clC f s a) (clC f s b))) = pT f s R a (b + 1) := by
  have hcov : ∀ i j, cov f s a (b + 1) i j ↔ cov f s a b i j ∨ (i = clC f s a ∧ j = clC f s b) := fun i j => by
    constructor
    · rintro ⟨x, y, h1, h2, h3, rfl, rfl⟩
      by_cases hxy : x = a ∧ y = b
      · obtain ⟨rfl, rfl⟩ := hxy; exact .inr ⟨rfl, rfl⟩
      · exact .inl ⟨x, y, h1, h2, by omega, rfl, rfl⟩
    · rintro (⟨x, y, h1, h2, h3, h4⟩ | ⟨rfl, rfl⟩)
      · exact ⟨x, y, h1, h2, by omega, h4⟩
      · exact ⟨a, b, ha, hb, by omega, rfl, rfl⟩
  apply List.ext_getElem
  · simp
  · intro i h1 h2
    simp only [pT_length] at h2
    have hgi : ∀ b', (pT f s R a b')[i]'(by simpa using h2) = (List.range (clM f s)).map fun j => if dec (cov f s a b' i j) then v2 R i j else 0 := fun b' => by simp [pT, tabL]
    rw [List.getElem_set, hgi (b + 1)]
    by_cases hi : clC f s a = i
    · rw [if_pos hi]
      subst hi
      have hgd : (pT f s R a b).getD (clC f s a) [] = (pT f s R a b)[clC f s a]'(by simpa using h2) := by
        rw [List.getD_eq_getElem?_getD, List.getElem?_eq_getElem (by simpa using h2)]; rfl
      rw [hgd, hgi b]
      apply List.ext_getElem
      · simp
      · intro j h3 h4
        simp only [List.length_map, List.length_range] at h4
        simp only [List.getElem_set, List.getElem_map, List.getElem_range]
        by_cases hj : clC f s b = j
        · subst hj
          rw [if_pos rfl, dec_true ((hcov _ _).2 (.inr ⟨rfl, rfl⟩))]
          rfl
        · rw [if_neg hj]
          by_cases hc : cov f s a b (clC f s a) j
          · rw [dec_true hc, dec_true ((hcov _ _).2 (.inl hc))]
          · rw [dec_false hc, dec_false fun h => ((hcov _ _).1 h).elim hc fun h => hj h.2.symm]
    · rw [if_neg hi, hgi b]
      apply List.map_congr_left
      intro j _
      by_cases hc : cov f s a b i j
      · rw [dec_true hc, dec_true ((hcov _ _).2 (.inl hc))]
      · rw [dec_false hc, dec_false fun h => ((hcov _ _).1 h).elim hc fun h => hi h.1.symm]
end Go.Mch
namespace Go.Mch

theorem retF_tab (f s : List (List Int)) : retF f s = tabL (clM f s) (v2 (retF f s)) := tab_eq (by simp) fun r hr => by rw [retF] at hr; exact tabL_row hr
theorem retS_tab (f s : List (List Int)) : retS f s = tabL (clM f s) (v2 (retS f s)) := tab_eq (by simp) fun r hr => by rw [retS] at hr; exact tabL_row hr
theorem classes_get {f s : List (List Int)} {x : Nat} (h : x < (classes f s).length) : (classes f s)[x] = clC f s x := by
  have hx : x < f.length := by simpa using h
  have := (clC_int (s := s) hx).1
  rw [List.getD_eq_getElem?_getD, List.getElem?_eq_getElem h] at this
  exact this.symm

theorem rows_set2 {X : List (List Int)} {i j : Nat} {v : Int} (h : i < X.length) : (rows X).set i (.mem .own (some 1) ((X[i].map I).set j (I v))) = rows (X.set i (X[i].set j v)) := by
  simp [rows, List.map_set]
theorem pT_row (f s R : List (List Int)) (a b : Nat) {i : Nat} (h : i < (pT f s R a b).length) : (pT f s R a b)[i].length = clM f s := tabL_row (by rw [← pT]; exact List.getElem_mem h)
set_option maxRecDepth 10000 in
theorem t_l08Retract {pg : Pg} (hp : pg.fn 320 = some c_spec_l08Retract) (h289 : S_classes pg 289) (h288 : S_greatest pg) (h398 : S_empty pg) : S_retract pg 320 := by
  intro f s h
  have hpm := h.1
  have h0 := hpm.pos
  have h12 := hpm.small
  have hls := hpm.len
  have hm := clM_le f s
  have hm0 := clM_pos (s := s) h0
  have q := quo_of hpm
  have hcl := classes_length f s
  have hgc := greatest_classes f s
  refine Call.intro hp rfl (by simp) ?_
  show wp _ _ c_spec_l08Retract.body (post [.cell 2 (some 2)] _ _ _) _
  simp [c_spec_l08Retract]
  refine callR (h289 f s hpm) rfl rfl (fun _ => by simp) ?_
  simp
  refine callR (h288 (classes f s) (by omega) (fun x hx => by have := classes_rng hx; omega)) rfl rfl (fun _ => rfl) ?_
  rw [hgc]
  simp
  refine callR (h398 (clM f s) hm0 (by omega)) rfl rfl (fun _ => by simp) ?_
  simp
  refine wpLoop_count (fun a e => e = fr [(1, some (.val (.mem .own none [tb f, tb s]))), (2, some (.val (.mem .own none [nil, nil]))), (3, some (.val (.mem .own (some 1) ((classes f s).map I)))), (4, some (.val (.mem .own none [.mem .own (some 1) (rows (pT f s (retF f s) a 0)), .mem .own (some 1) (rows (pT f s (retS f s) a 0))]))), (5, some (.val (I a)))]) f.length ?_ ?_ 0 _ (by omega) ?_
  · rintro a e ha rfl
    have hac : a < (classes f s).length := by omega
    have hca := classes_get hac
    have hcm := q.cm a ha
    have hF0 := fun a b {i : Nat} h => pT_row f s (retF f s) a b (i := i) h
    have hS0 := fun a b {i : Nat} h => pT_row f s (retS f s) a b (i := i) h
    simp [ha, hca, hcm, hF0, hS0]
    refine wpLoop_count (fun b e => e = fr [(1, some (.val (.mem .own none [tb f, tb s]))), (2, some (.val (.mem .own none [nil, nil]))), (3, some (.val (.mem .own (some 1) ((classes f s).map I)))), (4, some (.val (.mem .own none [.mem .own (some 1) (rows (pT f s (retF f s) a b)), .mem .own (some 1) (rows (pT f s (retS f s) a b))]))), (5, some (.val (I a))), (6, some (.sref 4 [0, clC f s a] 1 0 (clM f s))), (7, some (.sref 4 [1, clC f s a] 1 0 (clM f s))), (8, some (.val (I b)))]) f.length ?_ ?_ 0 _ (by omega) ?_
    · rintro b e hb rfl
      have hbc : b < (classes f s).length := by omega
      have hcb := classes_get hbc
      have hcmb := q.cm b hb
      have hr := ret_at h ha hb
      have hf := hpm.v2f a b
      have hs2 := hpm.v2s a b
      have hfr := hpm.tf.row ha
      have hsr := (hpm.ts.row (x := a) (by omega)).trans hls
      have has : a < s.length := by omega
      have hfg : (f[a])[b]'(by omega) = v2 f a b := get_v2 _ _
      have hsg : (s[a])[b]'(by omega) = v2 s a b := get_v2 _ _
      have n1 : (0 : Int) ≤ v2 f a b := by omega
      have n2 : (0 : Int) ≤ v2 s a b := by omega
      have t1 : (v2 f a b).toNat < f.length := by omega
      have t2 : (v2 s a b).toNat < f.length := by omega
      have t1' : v2 f a b < f.length := by omega
      have t2' : v2 s a b < f.length := by omega
      have c1 : (classes f s)[(v2 f a b).toNat]'(by omega) = v2 (retF f s) (clC f s a) (clC f s b) := by
        rw [classes_get (by omega), hr.1]; rfl
      have c2 : (classes f s)[(v2 s a b).toNat]'(by omega) = v2 (retS f s) (clC f s a) (clC f s b) := by
        rw [classes_get (by omega), hr.2]; rfl
      have p1 := pT_set (f := f) (s := s) (R := retF f s) ha hb
      have p2 := pT_set (f := f) (s := s) (R := retS f s) ha hb
      have l1 := pT_length f s (retF f s) a b
      have l2 := pT_length f s (retS f s) a b
      have r1 := fun {i : Nat} h => hF0 a b (i := i) h
      have r2 := fun {i : Nat} h => hS0 a b (i := i) h
      clear hF0 hS0
      rw [← p1, ← p2]
      generalize pT f s (retF f s) a b = X at *
      generalize pT f s (retS f s) a b = Y at *
      have xr := r1 (i := clC f s a) (by omega)
      have yr := r2 (i := clC f s a) (by omega)
      have lx : clC f s a < X.length := by omega
      have ly : clC f s a < Y.length := by omega
      simp [ha, hb, hcb, hcmb, has, hfr, hsr, hfg, hsg, n1, n2, t1, t2, t1', t2', c1, c2, lx, ly, xr, yr]
      refine ⟨by omega, by omega, ?_⟩
      rw [← rows_set2 lx, ← rows_set2 ly]
    · rintro e rfl
      rw [pT_next, pT_next]
      simp
      omega
    · simp
  · rintro e rfl
    rw [pT_all hpm (retF_tab f s), pT_all hpm (retS_tab f s)]
    simp
  · simp [pT_zero]

theorem t_ro_spec {pg : Pg} (hp : pg.fn 186 = some c_spec_RetractOf) (h264 : S_reg pg 264) (h320 : S_retract pg 320) : S_ro pg 186 := by
  intro f s hf hs
  refine Call.intro hp rfl (by simp) ?_
  show wp _ _ c_spec_RetractOf.body (post [.cell 2 (some 2), .t 3] _ _ _) _
  simp [c_spec_RetractOf]
  refine callR (h264 f s hf hs) rfl rfl (fun _ => rfl) ?_
  by_cases h : isReg f s
  · simp [dec_true h, onReg_true h]
    refine callR (h320 f s (rg_of h)) rfl rfl (fun _ => by simp) ?_
    simp [roR, h, solT]
  · simp [onReg_false h, roR, h, solT]
end Go.Mch
namespace Go.Mch

def frT (X : List (List Int)) : T := .mem .fresh (some 1) (X.map fun xs => .mem .fresh (some 1) (xs.map I))
@[simp] theorem frT_noOwn (X : List (List Int)) : (frT X).noOwn = true := by
  have := (frz_rows_old X).1
  rw [frzL_rows] at this
  simp [frT, this]
@[simp] theorem frT_ery (X : List (List Int)) : (frT X).ery .old = tb X := by
  have := (frz_rows_old X).2
  rw [frzL_rows] at this
  simp [frT, this]
@[simp] theorem frT_peek (X : List (List Int)) (r : Nat) (p : List Nat) : (frT X).peek r p = .val (frT X) := rfl
@[simp] theorem frT_cell (X : List (List Int)) : (frT X).isCell = true := rfl
@[simp] theorem frT_cells (X : List (List Int)) : (frT X).cells = [frT X] := rfl
@[simp] theorem frT_len (X : List (List Int)) : lenV (.val (frT X)) = some X.length := by simp [frT]
def serL : Nat → List (List Int) → List (List Int) → List (List (List Int) × List (List Int))
  | 0, _, _ => []
  | k + 1, f, s => (f, s) :: if clM f s = f.length then [] else serL k (retF f s) (retS f s)
def frL (l : List (List (List Int) × List (List Int))) : List T := l.flatMap fun x => [frT x.1, frT x.2]
@[simp] theorem frL_nil : frL [] = [] := rfl
@[simp] theorem frL_cons (x : List (List Int) × List (List Int)) (l : List (List (List Int) × List (List Int))) : frL (x :: l) = frT x.1 :: frT x.2 :: frL l := rfl
end Go.Mch
namespace Go.Mch

def subG (f : List (List Int)) (xs : List Int) (i j : Nat) : Int := ixOf xs (g2 f (xs.getD i 0) (xs.getD j 0))
def subT (f : List (List Int)) (xs : List Int) : List (List Int) := tabL xs.length (subG f xs)

def ascAt (xs : List Int) (k : Nat) : Prop := xs.getD k 0 < xs.getD (k + 1) 0
def asc (xs : List Int) : Prop := ∀ k : Nat, k + 1 < xs.length → ascAt xs k
def isSetL (n : Int) (xs : List Int) : Prop := 0 < xs.length ∧ inR 0 (n - 1) xs ∧ asc xs
end Go.Mch
namespace Go.Mch

def invQ (p : List Int) (x : Nat) : Nat := (ixOf p x).toNat
structure Pm (p : List Int) : Prop where
  pm : isPermuted p
  pos : 0 < p.length
  sm : p.length ≤ 12
theorem Pm.mem {p : List Int} (h : Pm p) {x : Nat} (hx : x < p.length) : (x : Int) ∈ p :=
  ((perm_permuted (by have := h.pos; omega) h.sm h.pm.1).2 h.pm).2.2 x hx
theorem Pm.lt {p : List Int} (h : Pm p) {x : Nat} (hx : x < p.length) : invQ p x < p.length := by
  have h1 := ixOf_le p x
  have h2 := (ixOf_mem p x).2 (h.mem hx)
  unfold invQ
  omega
theorem ixOf_getD : ∀ (xs : List Int) (v : Int), 0 ≤ ixOf xs v → xs.getD (ixOf xs v).toNat 0 = v := by
  intro xs v
  induction xs with
  | nil => intro h; simp [ixOf] at h
  | cons z xs ih =>
    intro h
    unfold ixOf at h ⊢
    by_cases hz : z = v
    · simp [hz]
    · rw [if_neg hz] at h ⊢
      by_cases hn : ixOf xs v < 0
      · rw [if_pos hn] at h; omega
      · rw [if_neg hn]
        have := ih (by omega)
        rw [show (ixOf xs v + 1).toNat = (ixOf xs v).toNat + 1 by omega]
        simpa using this
theorem Pm.at {p : List Int} (h : Pm p) {x : Nat} (hx : x < p.length) : p.getD (invQ p x) 0 = x :=
  ixOf_getD p x ((ixOf_mem p x).2 (h.mem hx))
theorem Pm.back {p : List Int} (h : Pm p) {i : Nat} (hi : i < p.length) : invQ p (p[i]).toNat = i := by
  have hr := h.pm.1 _ (List.getElem_mem hi)
  have e : (((p[i]).toNat : Nat) : Int) = p[i] := by omega
  unfold invQ
  rw [e, ixOf_at hi (fun j hj he => ?_) rfl]
  · simp
  · have := (List.getElem_inj h.pm.2).1 he
    omega
def invL (p : List Int) : List Int := (List.range p.length).map fun x => (invQ p x : Int)
@[simp] theorem invL_length (p : List Int) : (invL p).length = p.length := by simp [invL]
def invK (p : List Int) (k : Nat) : List Int := (List.range p.length).map fun x => if invQ p x < k then (invQ p x : Int) else 0
@[simp] theorem invK_length (p : List Int) (k : Nat) : (invK p k).length = p.length := by simp [invK]
theorem invK_zero (p : List Int) : invK p 0 = List.replicate p.length 0 := by
  apply List.ext_getElem
  · simp
  · intro i h1 h2; simp [invK]
theorem invK_last {p : List Int} (h : Pm p) : invK p p.length = invL p := by
  refine List.map_congr_left fun x hx => ?_
  rw [if_pos (h.lt (List.mem_range.1 hx))]
theorem invK_set {p : List Int} (h : Pm p) {k : Nat} (hk : k < p.length) : (invK p k).set (p[k]).toNat k = invK p (k + 1) := by
  have hr := h.pm.1 _ (List.getElem_mem hk)
  apply List.ext_getElem
  · simp
  · intro x h1 h2
    have hx : x < p.length := by simpa using h2
    simp only [List.getElem_set, invK, List.getElem_map, List.getElem_range]
    by_cases hxk : (p[k]).toNat = x
    · subst hxk
      rw [if_pos rfl, h.back hk, if_pos (by omega)]
    · rw [if_neg hxk]
      have hne : invQ p x ≠ k := fun he => by
        have := h.at hx
        rw [he] at this
        simp [hk] at this
        omega
      by_cases hlt : invQ p x < k
      · rw [if_pos hlt, if_pos (by omega)]
      · rw [if_neg hlt, if_neg (by omega)]
def S_inv (pg : Pg) (n : Nat) : Prop := ∀ p : List Int, Pm p → Call pg n [ix p] [ix p] (.mem .own (some 1) ((invL p).map I))
theorem t_l01Back {pg : Pg} (hp : pg.fn 304 = some c_spec_l01Back) : S_inv pg 304 := by
  intro p h
  have h12 := h.sm
  refine Call.intro hp rfl (by simp) ?_
  show wp _ _ c_spec_l01Back.body (post [.t 2] _ _ _) _
  simp [c_spec_l01Back]
  refine ⟨by unfold roomy; omega, ?_⟩
  refine wpLoop_count (fun k e => e = fr [(0, some (.val (ix p))), (3, some (.val (.mem .own (some 1) ((invK p k).map I)))), (4, some (.val (I k)))]) p.length ?_ ?_ 0 _ (by omega) ?_
  · rintro k e hk rfl
    have hr := h.pm.1 _ (List.getElem_mem hk)
    have hl := invK_length p k
    have hs := invK_set h hk
    have ht : (p[k]).toNat < p.length := by omega
    rw [← hs]
    generalize invK p k = K at *
    simp [hk, hr, ht, hl]
    omega
  · rintro e rfl
    simp [invK_last h]
  · simp [invK_zero]

def imG (t : List (List Int)) (p : List Int) (x y : Nat) : Int := p.getD (v2 t (invQ p x) (invQ p y)).toNat 0
def imT (t : List (List Int)) (p : List Int) : List (List Int) := tabL t.length (imG t p)
def imK (t : List (List Int)) (p : List Int) (a b : Nat) : List (List Int) := tabL t.length fun x y => if invQ p x < a ∨ (invQ p x = a ∧ invQ p y < b) then imG t p x y else v2 t x y
@[simp] theorem imK_length (t : List (List Int)) (p : List Int) (a b : Nat) : (imK t p a b).length = t.length := by simp [imK]
def S_image (pg : Pg) (n : Nat) : Prop := ∀ (t : List (List Int)) (p : List Int), Tab t → Pm p → p.length = t.length → Call pg n [tb t, ix p] [tb t, ix p] (.mem .own (some 1) (rows (imT t p)))
end Go.Mch
namespace Go.Mch

def S_unit (pg : Pg) : Prop := ∀ n : Nat, n ≤ 1048576 → Call pg 334 [I n] [I n] (.mem .own (some 1) ((idL n).map I))
theorem t_unit {pg : Pg} (hp : pg.fn 334 = some c_spec_l01Unit) : S_unit pg := by
  intro n hn
  refine Call.intro hp rfl (by simp) ?_
  show wp _ _ c_spec_l01Unit.body (post [.t 2] _ _ _) _
  simp [c_spec_l01Unit]
  refine wpLoop_count (fun k e => e = fr [(0, some (.val (I n))), (3, some (.val (.mem .own (some 1) ((idL k).map I)))), (4, some (.val (I k)))]) n ?_ ?_ 0 _ (by omega) ?_
  · rintro k e hk rfl
    simp [hk, roomy, idL_succ]
    omega
  · rintro e rfl
    simp
  · simp [idL]

def slL (f s : List (List Int)) : Nat → List Int
  | 0 => idL f.length
  | k + 1 => thenL (slL f s k) (classes ((serL f.length f s).getD k ([], [])).1 ((serL f.length f s).getD k ([], [])).2)
@[simp] theorem slL_length (f s : List (List Int)) (k : Nat) : (slL f s k).length = f.length := by
  induction k with
  | zero => simp [slL]
  | succ k ih => simp [slL, ih]
end Go.Mch
namespace Go.Mch

def boxT : Option T → Bool
  | some (.mem _ none _) => true
  | _ => false
@[simp] theorem boxT_mem (k : K) (ts : List T) : boxT (some (.mem k none ts)) = true := rfl
@[simp] theorem whole_pref {e : Env} (r : Nat) (p : List Nat) (off : Nat) : e.whole (.pref r p off) = (off == 0 && boxT (e.tree r p)) := by
  unfold Env.whole boxT
  rfl
@[simp] theorem hole_pref {e : Env} (r : Nat) (p : List Nat) (off : Nat) : e.hole (.pref r p off) = e.isHole r p := rfl
@[simp] theorem give_pref {e : Env} (r : Nat) (p : List Nat) (off : Nat) (t : T) : e.give (.pref r p off) t = e.back1 r p t := by cases t <;> rfl
end Go.Mch
namespace Go.Mch

structure PV (X Y : List (List Int)) (a b i j : Nat) : Prop where
  pi : PI X Y a b
  l : ∀ k, a < k → k < i → bef (gt Y k) (gt Y a)
  r : ∀ k, j < k → k < b → ¬ bef (gt Y k) (gt Y a)
  h1 : a < i
  h2 : i ≤ j + 1
  h3 : j < b
def PtQ (X Y : List (List Int)) (a b m : Nat) : Prop := PI X Y a b ∧ a ≤ m ∧ m < b ∧ (∀ k, a ≤ k → k < m → bef (gt Y k) (gt Y m)) ∧ ∀ k, m < k → k < b → bef (gt Y m) (gt Y k)
section
variable {X Y : List (List Int)} {a b i j : Nat}
theorem PV.len (h : PV X Y a b i j) : Y.length = X.length := h.pi.len
theorem PV.left (h : PV X Y a b i j) (hij : i ≤ j) (hb : bef (gt Y i) (gt Y a)) : PV X Y a b (i + 1) j :=
  ⟨h.pi, fun k h1 h2 => by
    by_cases hk : k = i
    · subst hk; exact hb
    · exact h.l k h1 (by omega), h.r, by have := h.h1; omega, by omega, h.h3⟩
theorem PV.right (h : PV X Y a b i j) (hij : i ≤ j) (hb : ¬ bef (gt Y j) (gt Y a)) : PV X Y a b i (j - 1) :=
  ⟨h.pi, h.l, fun k h1 h2 => by
    by_cases hk : k = j
    · subst hk; exact hb
    · exact h.r k (by omega) h2, h.h1, by have := h.h1; omega, by have := h.h3; omega⟩
theorem PV.swap (h : PV X Y a b i j) (hij : i < j) (hj : bef (gt Y j) (gt Y a)) (hi : ¬ bef (gt Y i) (gt Y a)) (hb : b ≤ X.length) : PV X (swL Y i j) a b (i + 1) (j - 1) := by
  have hl := h.len
  have h1 := h.h1
  have h3 := h.h3
  have hg := gt_swL (X := Y) (i := i) (j := j) (by omega) (by omega)
  have ha : tau i j a = a := by unfold tau; rw [if_neg (by omega), if_neg (by omega)]
  refine ⟨h.pi.swap hb (by omega) (by omega), fun k k1 k2 => ?_, fun k k1 k2 => ?_, by omega, by omega, by omega⟩
  · rw [hg, hg, ha]
    by_cases hk : k = i
    · subst hk
      have : tau k j k = j := by unfold tau; rw [if_neg (by omega), if_pos rfl]
      rw [this]; exact hj
    · have : tau i j k = k := by unfold tau; rw [if_neg (by omega), if_neg hk]
      rw [this]; exact h.l k k1 (by omega)
  · rw [hg, hg, ha]
    by_cases hk : k = j
    · subst hk
      have : tau i k k = i := by unfold tau; rw [if_pos rfl]
      rw [this]; exact hi
    · have : tau i j k = k := by unfold tau; rw [if_neg hk, if_neg (by omega)]
      rw [this]; exact h.r k (by omega) k2
theorem PV.fin (h : PV X Y a b i j) (hji : j < i) (hb : b ≤ X.length) : PtQ X (swL Y j a) a b j := by
  have hl := h.len
  have h1 := h.h1
  have h2 := h.h2
  have h3 := h.h3
  have hg := gt_swL (X := Y) (i := j) (j := a) (by omega) (by omega)
  have hj : tau j a j = a := by
    unfold tau
    by_cases he : j = a
    · rw [if_pos he, he]
    · rw [if_neg he, if_pos rfl]
  refine ⟨h.pi.swap hb (by omega) (by omega), by omega, h3, fun k k1 k2 => ?_, fun k k1 k2 => ?_⟩
  · rw [hg, hg, hj]
    by_cases hk : k = a
    · have : tau j a k = j := by unfold tau; rw [if_pos hk]
      rw [this]; exact h.l j (by omega) hji
    · have : tau j a k = k := by unfold tau; rw [if_neg hk, if_neg (by omega)]
      rw [this]; exact h.l k (by omega) (by omega)
  · rw [hg, hg, hj]
    have : tau j a k = k := by unfold tau; rw [if_neg (by omega), if_neg (by omega)]
    rw [this]
    exact h.pi.dj.or (by omega) (by omega) (by omega) (h.r k k1 k2)
end
end Go.Mch
namespace Go.Mch

def Lb (X : List (List Int)) (a b : Nat) : Prop := a = 0 ∨ ∀ k, a ≤ k → k < b → bef (gt X (a - 1)) (gt X k)
theorem Lb.pi {X Y : List (List Int)} {a b : Nat} (h : Lb X a b) (g : PI X Y a b) : Lb Y a b := by
  rcases h with h | h
  · exact .inl h
  · by_cases h0 : a = 0
    · exact .inl h0
    · refine .inr fun k h1 h2 => ?_
      obtain ⟨k', p1, p2, p3⟩ := g.fwd k h1 h2
      rw [g.out (a - 1) (by omega), p3]
      exact h k' p1 p2
theorem SI.keep {Y Z : List (List Int)} {a i : Nat} (h : SI Y a i) (hk : ∀ k, k < i → gt Z k = gt Y k) : SI Z a i := fun p q h1 h2 h3 => by
  rw [hk p (by omega), hk q h3]
  exact h p q h1 h2 h3
theorem SI.grow {Y : List (List Int)} {a r : Nat} (h : SI Y a (r + 1)) (hb : bef (gt Y r) (gt Y (r + 1))) : SI Y a (r + 2) := fun p q h1 h2 h3 => by
  by_cases hq : q = r + 1
  · subst hq
    by_cases hp : p = r
    · subst hp; exact hb
    · exact bef_trans (h p r h1 (by omega) (by omega)) hb
  · exact h p q h1 h2 (by omega)
end Go.Mch
namespace Go.Mch

def Cut (Y : List (List Int)) (m a b : Nat) : Prop := ∀ p q, a ≤ p → p < m → m ≤ q → q < b → bef (gt Y p) (gt Y q)
section
variable {Y Z : List (List Int)} {m a b c d u v : Nat}
theorem Cut.pi (h : Cut Y m a b) (g : PI Y Z u v) (hu : a ≤ u) (hv : v ≤ b) (hm : v ≤ m ∨ m ≤ u) : Cut Z m a b := by
  intro p q h1 h2 h3 h4
  have hp : ∃ p', a ≤ p' ∧ p' < m ∧ gt Z p = gt Y p' := by
    by_cases hk : u ≤ p ∧ p < v
    · obtain ⟨p', q1, q2, q3⟩ := g.fwd p hk.1 hk.2
      exact ⟨p', by omega, by omega, q3⟩
    · exact ⟨p, h1, h2, g.out p (by omega)⟩
  have hq : ∃ q', m ≤ q' ∧ q' < b ∧ gt Z q = gt Y q' := by
    by_cases hk : u ≤ q ∧ q < v
    · obtain ⟨p', q1, q2, q3⟩ := g.fwd q hk.1 hk.2
      exact ⟨p', by omega, by omega, q3⟩
    · exact ⟨q, h3, h4, g.out q (by omega)⟩
  obtain ⟨p', p1, p2, p3⟩ := hp
  obtain ⟨q', q1, q2, q3⟩ := hq
  rw [p3, q3]
  exact h p' q' p1 p2 q1 q2
theorem SI.out (h : SI Y c d) (g : PI Y Z u v) (hm : d ≤ u ∨ v ≤ c) : SI Z c d := fun p q h1 h2 h3 => by
  rw [g.out p (by omega), g.out q (by omega)]
  exact h p q h1 h2 h3
theorem SI.join (h1 : SI Y c m) (h2 : SI Y m d) (h : Cut Y m a b) (hc : a ≤ c) (hd : d ≤ b) : SI Y c d := fun p q p1 p2 p3 => by
  by_cases hp : p < m
  · by_cases hq : q < m
    · exact h1 p q p1 p2 hq
    · exact h p q (by omega) hp (by omega) (by omega)
  · exact h2 p q (by omega) p2 p3
structure Fr (Y : List (List Int)) (a c d b : Nat) : Prop where
  lo : SI Y a c
  hi : SI Y d b
  cl : Cut Y c a b
  ch : Cut Y d a b
  h1 : a ≤ c
  h2 : c ≤ d
  h3 : d ≤ b
theorem Fr.pi (h : Fr Y a c d b) (g : PI Y Z c d) : Fr Z a c d b :=
  ⟨h.lo.out g (.inl (Nat.le_refl _)), h.hi.out g (.inr (Nat.le_refl _)), h.cl.pi g h.h1 h.h3 (.inr (Nat.le_refl _)), h.ch.pi g h.h1 h.h3 (.inl (Nat.le_refl _)), h.h1, h.h2, h.h3⟩
theorem Fr.fin (h : Fr Y a c d b) (hs : SI Y c d) : SI Y a b :=
  h.lo.join (hs.join h.hi h.ch h.h1 (Nat.le_refl _)) h.cl (Nat.le_refl _) (Nat.le_refl _)
theorem Fr.left (h : Fr Y a c d b) (hm1 : c ≤ m) (hm2 : m < d) (hc : Cut Y m a b ∧ Cut Y (m + 1) a b) (g : PI Y Z c m) (hs : SI Z c m) : Fr Z a (m + 1) d b := by
  have h1 := h.h1
  have h3 := h.h3
  have c1 : Cut Z c a b := h.cl.pi g h1 (by omega) (.inr (Nat.le_refl _))
  have c2 : Cut Z m a b := hc.1.pi g h1 (by omega) (.inl (Nat.le_refl _))
  have c3 : Cut Z (m + 1) a b := hc.2.pi g h1 (by omega) (.inl (by omega))
  have s1 : SI Z a m := (h.lo.out g (.inl (Nat.le_refl _))).join hs c1 (Nat.le_refl _) (by omega)
  exact ⟨s1.join (SI.one Z (Nat.le_refl _)) c2 (Nat.le_refl _) (by omega), h.hi.out g (.inr (by omega)), c3, h.ch.pi g h1 (by omega) (.inl (by omega)), by omega, by omega, h3⟩
theorem Fr.right (h : Fr Y a c d b) (hm1 : c ≤ m) (hm2 : m < d) (hc : Cut Y m a b ∧ Cut Y (m + 1) a b) (g : PI Y Z (m + 1) d) (hs : SI Z (m + 1) d) : Fr Z a c m b := by
  have h1 := h.h1
  have h3 := h.h3
  have c1 : Cut Z d a b := h.ch.pi g (by omega) h3 (.inl (Nat.le_refl _))
  have c2 : Cut Z m a b := hc.1.pi g (by omega) h3 (.inr (by omega))
  have c3 : Cut Z (m + 1) a b := hc.2.pi g (by omega) h3 (.inr (Nat.le_refl _))
  have s1 : SI Z (m + 1) b := hs.join (h.hi.out g (.inr (Nat.le_refl _))) c1 (by omega) (Nat.le_refl _)
  exact ⟨h.lo.out g (.inl (by omega)), (SI.one Z (Nat.le_refl _)).join s1 c3 (by omega) (Nat.le_refl _), h.cl.pi g (by omega) h3 (.inr (by omega)), c2, h1, hm1, by omega⟩
theorem Fr.start (h : a ≤ b) : Fr Y a a b b :=
  ⟨SI.one Y (by omega), SI.one Y (by omega), fun p q h1 h2 h3 h4 => by omega, fun p q h1 h2 h3 h4 => by omega, Nat.le_refl _, h, Nat.le_refl _⟩
end

theorem wp_block {G : Rl} {k : K} {i : Nat} {A : C} {R : X → Env → Prop} {e : Env} (h : wp G k A (X.out i R) e) : wp G k (.block i A) R e := h
end Go.Mch
namespace Go.Mch

theorem thr (n : Nat) (P : Nat → Prop) : (∀ j k, j ≤ k → k < n → P k → P j) → ∃ i, i ≤ n ∧ (∀ j, j < n → j < i → P j) ∧ ∀ j, j < n → i ≤ j → ¬ P j := by
  induction n with
  | zero => intro _; exact ⟨0, by omega, fun j h => by omega, fun j h => by omega⟩
  | succ n ih =>
    intro h
    by_cases hp : P n
    · exact ⟨n + 1, by omega, fun j hj _ => h j n (by omega) (by omega) hp, fun j hj h2 => by omega⟩
    · obtain ⟨i, h1, h2, h3⟩ := ih fun j k hjk hk => h j k hjk (by omega)
      refine ⟨i, by omega, fun j hj hi => h2 j (by omega) hi, fun j hj hi => ?_⟩
      by_cases hjn : j = n
      · subst hjn; exact hp
      · exact h3 j (by omega) hi
structure At (X : List (List Int)) (w : List Int) (i : Nat) : Prop where
  le : i ≤ X.length
  lo : ∀ j (hj : j < X.length), j < i → cmpL X[j] w < 0
  hi : ∀ j (hj : j < X.length), i ≤ j → ¬ cmpL X[j] w < 0
theorem Srt.at {X : List (List Int)} (h : Srt X) (w : List Int) : ∃ i, At X w i := by
  obtain ⟨i, h1, h2, h3⟩ := thr X.length (fun j => cmpL (X.getD j []) w < 0) fun j k hjk hk hp => by
    by_cases he : j = k
    · subst he; exact hp
    · have hj : j < X.length := by omega
      have := h.lt hk (show j < k by omega)
      simp only [List.getD_eq_getElem?_getD, List.getElem?_eq_getElem hk, List.getElem?_eq_getElem hj, Option.getD_some] at hp ⊢
      exact cmpL_trans _ _ _ this hp
  refine ⟨i, h1, fun j hj hl => ?_, fun j hj hl => ?_⟩
  · have := h2 j hj hl
    simpa [hj] using this
  · have := h3 j hj hl
    simpa [hj] using this
theorem At.mem {X : List (List Int)} {w : List Int} {i : Nat} (h : At X w i) (hs : Srt X) : w ∈ X ↔ ∃ hi : i < X.length, X[i] = w := by
  constructor
  · intro hm
    obtain ⟨j, hj, rfl⟩ := List.getElem_of_mem hm
    have hij : i ≤ j := by
      refine Classical.byContradiction fun hn => ?_
      have := h.lo j hj (by omega)
      have z := (cmpL_zero X[j] X[j]).2 rfl
      omega
    by_cases he : i = j
    · subst he; exact ⟨hj, rfl⟩
    · exact absurd (hs.lt hj (by omega)) (h.hi i (by omega) (Nat.le_refl _))
  · rintro ⟨hi, rfl⟩
    exact List.getElem_mem hi
end Go.Mch
namespace Go.Mch

def GR (ms : List (List Int)) (n : Nat) (x : List Int) : Prop := ∀ S : List Int → Prop, S (idL n) → (∀ y, S y → ∀ p ∈ ms, S (thenL y p)) → S x
theorem GR.id (ms : List (List Int)) (n : Nat) : GR ms n (idL n) := fun _ h _ => h
theorem GR.step {ms : List (List Int)} {n : Nat} {x : List Int} (h : GR ms n x) {p : List Int} (hp : p ∈ ms) : GR ms n (thenL x p) := fun S h1 h2 => h2 x (h S h1 h2) p hp
structure Grp (ms : List (List Int)) (n : Nat) (X : List (List Int)) : Prop where
  srt : Srt X
  mem : ∀ x, x ∈ X ↔ GR ms n x
end Go.Mch
namespace Go.Mch

section
variable (mv : List Int → Nat → List Int) (m : Nat) (w : List Int)
def TR (x : List Int) : Prop := ∀ C : List Int → Prop, C w → (∀ y, C y → ∀ i, i < m → C (mv y i)) → C x
theorem TR.start : TR mv m w w := fun _ h _ => h
theorem TR.step {x : List Int} (h : TR mv m w x) {i : Nat} (hi : i < m) : TR mv m w (mv x i) := fun C h1 h2 => h2 _ (h C h1 h2) i hi
structure TF (Q : List (List Int)) : Prop where
  w0 : w ∈ Q
  nd : Q.Nodup
  gr : ∀ x ∈ Q, TR mv m w x
structure TB (Q : List (List Int)) (a k : Nat) : Prop where
  f : TF mv m w Q
  cl : ∀ i (h : i < Q.length), i < a → ∀ p, p < m → mv Q[i] p ∈ Q
  cur : ∀ h : a < Q.length, ∀ p, p < k → mv Q[a] p ∈ Q
theorem TB.start : TB mv m w [w] 0 0 := ⟨⟨by simp, by simp, fun x hx => by rw [List.mem_singleton] at hx; subst hx; exact TR.start mv m x⟩, fun i h hi => by omega, fun h p hp => by omega⟩
variable {mv m w}
theorem TB.old {Q : List (List Int)} {a k : Nat} (h : TB mv m w Q a k) (ha : a < Q.length) (hin : mv Q[a] k ∈ Q) : TB mv m w Q a (k + 1) :=
  ⟨h.f, h.cl, fun h1 p hp => by
    by_cases hpk : p = k
    · subst hpk; exact hin
    · exact h.cur h1 p (by omega)⟩
theorem TF.new {Q : List (List Int)} {a k : Nat} (h : TF mv m w Q) (ha : a < Q.length) (hk : k < m) (hin : mv Q[a] k ∉ Q) : TF mv m w (Q ++ [mv Q[a] k]) :=
  ⟨List.mem_append.2 (.inl h.w0), by
    rw [List.nodup_append]
    exact ⟨h.nd, by simp, fun x hx y hy hxy => by
      rw [List.mem_singleton] at hy
      exact hin (by rw [← hy, ← hxy]; exact hx)⟩, fun x hx => by
    rcases List.mem_append.1 hx with hx | hx
    · exact h.gr x hx
    · rw [List.mem_singleton] at hx
      subst hx
      exact (h.gr _ (List.getElem_mem ha)).step mv m w hk⟩
theorem TB.new {Q : List (List Int)} {a k : Nat} (h : TB mv m w Q a k) (ha : a < Q.length) (hk : k < m) (hin : mv Q[a] k ∉ Q) : TB mv m w (Q ++ [mv Q[a] k]) a (k + 1) :=
  ⟨h.f.new ha hk hin, fun i hi hia p hp => by
    have hl : i < Q.length := by omega
    rw [List.getElem_append_left hl]
    exact List.mem_append.2 (.inl (h.cl i hl hia p hp)), fun h1 p hp => by
    rw [List.getElem_append_left ha]
    by_cases hpk : p = k
    · subst hpk; exact List.mem_append.2 (.inr (by simp))
    · exact List.mem_append.2 (.inl (h.cur ha p (by omega)))⟩
theorem TB.up {Q : List (List Int)} {a : Nat} (h : TB mv m w Q a m) (ha : a < Q.length) : TB mv m w Q (a + 1) 0 :=
  ⟨h.f, fun i hi hia p hp => by
    by_cases he : i = a
    · subst he; exact h.cur ha p hp
    · exact h.cl i hi (by omega) p hp, fun h1 p hp => by omega⟩
theorem TB.all {Q : List (List Int)} {a : Nat} (h : TB mv m w Q a 0) (ha : ¬ a < Q.length) (x : List Int) (hx : TR mv m w x) : x ∈ Q :=
  hx (fun y => y ∈ Q) h.f.w0 fun y hy i hi => by
    obtain ⟨j, hj, rfl⟩ := List.getElem_of_mem hy
    exact h.cl j hj (by omega) i hi
variable (mv m w)
variable {mv m w}
end
end Go.Mch
namespace Go.Mch

def ExT (P : List (List Int) → Prop) : Prop := ∃ Q, P Q
theorem ExT.mk {P : List (List Int) → Prop} (Q : List (List Int)) (h : P Q) : ExT P := ⟨Q, h⟩
structure BF (ms : List (List Int)) (n : Nat) (Q : List (List Int)) (i k : Nat) : Prop where
  nd : Q.Nodup
  gr : ∀ x ∈ Q, GR ms n x
  id : idL n ∈ Q
  dn : ∀ j (hj : j < Q.length), j < i → ∀ p ∈ ms, thenL Q[j] p ∈ Q
  dk : ∀ hi : i < Q.length, ∀ p ∈ ms.take k, thenL Q[i] p ∈ Q
  le : Q.length ≤ 1000
theorem BF.start (ms : List (List Int)) (n : Nat) : BF ms n [idL n] 0 0 where
  nd := by simp
  gr := fun x hx => by simp at hx; subst hx; exact GR.id ms n
  id := by simp
  dn := fun j _ h => by omega
  dk := fun _ p hp => by simp at hp
  le := by simp
theorem BF.up {ms : List (List Int)} {n : Nat} {Q : List (List Int)} {i : Nat} (h : BF ms n Q i ms.length) (hi : i < Q.length) : BF ms n Q (i + 1) 0 :=
  ⟨h.nd, h.gr, h.id, fun j hj hl p hp => by
    by_cases he : j = i
    · subst he; exact h.dk hi p (by simpa using hp)
    · exact h.dn j hj (by omega) p hp, fun _ p hp => by simp at hp, h.le⟩
theorem BF.old {ms : List (List Int)} {n : Nat} {Q : List (List Int)} {i k : Nat} (h : BF ms n Q i k) (hk : k < ms.length) (hi : i < Q.length) (hm : thenL Q[i] ms[k] ∈ Q) : BF ms n Q i (k + 1) :=
  ⟨h.nd, h.gr, h.id, h.dn, fun _ p hp => by
    rw [List.take_succ_eq_append_getElem hk] at hp
    rcases List.mem_append.1 hp with h1 | h1
    · exact h.dk hi p h1
    · simp at h1; subst h1; exact hm, h.le⟩
theorem BF.new {ms : List (List Int)} {n : Nat} {Q : List (List Int)} {i k : Nat} (h : BF ms n Q i k) (hk : k < ms.length) (hi : i < Q.length) (hm : thenL Q[i] ms[k] ∉ Q) :
    (Q ++ [thenL Q[i] ms[k]]).Nodup ∧ (∀ x ∈ Q ++ [thenL Q[i] ms[k]], GR ms n x) ∧ (Q.length < 1000 → BF ms n (Q ++ [thenL Q[i] ms[k]]) i (k + 1)) := by
  have hnd : (Q ++ [thenL Q[i] ms[k]]).Nodup := by
    rw [List.nodup_append]
    exact ⟨h.nd, by simp, fun a ha b hb => by simp at hb; subst hb; exact fun he => hm (he ▸ ha)⟩
  have hgr : ∀ x ∈ Q ++ [thenL Q[i] ms[k]], GR ms n x := fun x hx => by
    rcases List.mem_append.1 hx with h1 | h1
    · exact h.gr x h1
    · simp at h1; subst h1; exact (h.gr _ (List.getElem_mem hi)).step (List.getElem_mem hk)
  refine ⟨hnd, hgr, fun hl => ⟨hnd, hgr, List.mem_append.2 (.inl h.id), fun j hj hl2 p hp => ?_, fun _ p hp => ?_, by simp; omega⟩⟩
  · rw [List.getElem_append_left (by omega)]
    exact List.mem_append.2 (.inl (h.dn j (by omega) hl2 p hp))
  · rw [List.getElem_append_left hi]
    rw [List.take_succ_eq_append_getElem hk] at hp
    rcases List.mem_append.1 hp with h1 | h1
    · exact List.mem_append.2 (.inl (h.dk hi p h1))
    · simp at h1; subst h1; exact List.mem_append.2 (.inr (by simp))
theorem BF.all {ms : List (List Int)} {n : Nat} {Q : List (List Int)} {i k : Nat} (h : BF ms n Q i k) (hi : ¬ i < Q.length) : ∀ x, GR ms n x → x ∈ Q := fun x hx =>
  hx (· ∈ Q) h.id fun y hy p hp => by
    obtain ⟨j, hj, rfl⟩ := List.getElem_of_mem hy
    exact h.dn j hj (by omega) p hp
end Go.Mch
namespace Go.Mch

def rowsF (X : List (List Int)) : List T := X.map fun xs => .mem .fresh (some 1) (xs.map I)
@[simp] theorem rowsF_length (X : List (List Int)) : (rowsF X).length = X.length := by simp [rowsF]
@[simp] theorem noOwnL_rowsF (X : List (List Int)) : T.noOwnL (rowsF X) = true := by
  induction X with
  | nil => rfl
  | cons x X ih => simp only [rowsF, List.map_cons] at ih ⊢; simp [ih]
@[simp] theorem eryL_rowsF (X : List (List Int)) : T.eryL .old (rowsF X) = tbL X := by
  induction X with
  | nil => rfl
  | cons x X ih => simp only [rowsF, tbL, List.map_cons] at ih ⊢; simp [ih]
@[simp] theorem rowsF_getElem {X : List (List Int)} {k : Nat} (h : k < (rowsF X).length) : (rowsF X)[k] = .mem .fresh (some 1) ((X[k]'(by simpa using h)).map I) := by simp [rowsF]
def Rds (ts : List T) (X : List (List Int)) : Prop := T.eryL .old ts = tbL X ∧ T.noOwnL ts = true ∧ T.lendL ts = tbL X ∧ ts.length = X.length
theorem Rds.fresh (X : List (List Int)) : Rds (rowsF X) X := ⟨by simp, by simp, by
  induction X with
  | nil => rfl
  | cons x X ih => simp only [rowsF, tbL, List.map_cons] at ih ⊢; simp [ih], by simp⟩
theorem Rds.old (X : List (List Int)) : Rds (tbL X) X := ⟨by simp, by simp, by
  induction X with
  | nil => rfl
  | cons x X ih => simp only [tbL, List.map_cons] at ih ⊢; simp [ih], by simp⟩
def ExTT (P : List (List Int) → List (List Int) → List T → Prop) : Prop := ∃ F S ts, P F S ts
theorem ExTT.mk {P : List (List Int) → List (List Int) → List T → Prop} (F S : List (List Int)) (ts : List T) (h : P F S ts) : ExTT P := ⟨F, S, ts, h⟩

end Go.Mch
namespace Go.Mch

@[simp] theorem noOldL_rowsF (X : List (List Int)) : T.noOldL (rowsF X) = true := by
  induction X with
  | nil => rfl
  | cons x X ih => simp only [rowsF, List.map_cons] at ih ⊢; simp [ih]
end Go.Mch
namespace Go.Mch

theorem dm_pair {n x y : Nat} (hy : y < n) : (x * n + y) / n = x ∧ (x * n + y) % n = y := by
  have hn : 0 < n := by omega
  refine ⟨?_, ?_⟩
  · rw [Nat.mul_comm, Nat.mul_add_div hn, Nat.div_eq_of_lt hy, Nat.add_zero]
  · rw [Nat.mul_comm, Nat.mul_add_mod, Nat.mod_eq_of_lt hy]
theorem pair_lt {n x y : Nat} (hx : x < n) (hy : y < n) : x * n + y < n * n := by
  have : (x + 1) * n ≤ n * n := Nat.mul_le_mul_right n hx
  rw [Nat.add_mul] at this
  omega
theorem inj_pair {f s : List (List Int)} (hi : Inj f s) {x y x' y' : Nat} (hx : x < f.length) (hy : y < f.length) (hx' : x' < f.length) (hy' : y' < f.length) (h1 : v2 f x y = v2 f x' y') (h2 : v2 s x y = v2 s x' y') : x = x' ∧ y = y' := by
  have hp := dm_pair (x := x) hy
  have hp' := dm_pair (x := x') hy'
  by_cases he : x * f.length + y = x' * f.length + y'
  · exact ⟨by rw [← hp.1, he, hp'.1], by rw [← hp.2, he, hp'.2]⟩
  · exact absurd ⟨he, by rw [hp.1, hp.2, hp'.1, hp'.2]; exact h1, by rw [hp.1, hp.2, hp'.1, hp'.2]; exact h2⟩ (hi _ (pair_lt hx hy) _ (pair_lt hx' hy'))
theorem sur_pair {f s : List (List Int)} (h : PM f s) (hi : Inj f s) {a b : Nat} (ha : a < f.length) (hb : b < f.length) : ∃ x y, x < f.length ∧ y < f.length ∧ v2 f x y = a ∧ v2 s x y = b := by
  have r1 : ∀ x y : Nat, 0 ≤ v2 f x y ∧ v2 f x y < f.length := fun x y => by simpa [g2] using h.gF x y
  have r2 : ∀ x y : Nat, 0 ≤ v2 s x y ∧ v2 s x y < f.length := fun x y => by simpa [g2] using h.gS x y
  have hs := surj_of_inj (n := f.length * f.length) (g := fun p => (v2 f (p / f.length) (p % f.length)).toNat * f.length + (v2 s (p / f.length) (p % f.length)).toNat) (fun p _ => by
    have := r1 (p / f.length) (p % f.length)
    have := r2 (p / f.length) (p % f.length)
    exact pair_lt (by omega) (by omega)) (fun p p' hp hp' he => by
    have hd := dm_lt hp
    have hd' := dm_lt hp'
    have q1 := r1 (p / f.length) (p % f.length)
    have q2 := r2 (p / f.length) (p % f.length)
    have q1' := r1 (p' / f.length) (p' % f.length)
    have q2' := r2 (p' / f.length) (p' % f.length)
    have u := dm_pair (n := f.length) (x := (v2 f (p / f.length) (p % f.length)).toNat) (y := (v2 s (p / f.length) (p % f.length)).toNat) (by omega)
    have u' := dm_pair (n := f.length) (x := (v2 f (p' / f.length) (p' % f.length)).toNat) (y := (v2 s (p' / f.length) (p' % f.length)).toNat) (by omega)
    rw [he] at u
    have e1 := u.1.symm.trans u'.1
    have e2 := u.2.symm.trans u'.2
    have := inj_pair hi hd.1 hd.2 hd'.1 hd'.2 (by omega) (by omega)
    rw [← Nat.div_add_mod p f.length, ← Nat.div_add_mod p' f.length, this.1, this.2])
  obtain ⟨p, hp, he⟩ := hs _ (pair_lt ha hb)
  have hd := dm_lt hp
  have q1 := r1 (p / f.length) (p % f.length)
  have q2 := r2 (p / f.length) (p % f.length)
  have u := dm_pair (n := f.length) (x := (v2 f (p / f.length) (p % f.length)).toNat) (y := (v2 s (p / f.length) (p % f.length)).toNat) (by omega)
  have u' := dm_pair (n := f.length) (x := a) hb
  rw [he] at u
  have e1 := u.1.symm.trans u'.1
  have e2 := u.2.symm.trans u'.2
  exact ⟨_, _, hd.1, hd.2, by omega, by omega⟩
end Go.Mch
namespace Go.Mch

def pre (f s : List (List Int)) (u v : Nat) (x y : Nat) : Prop := x < f.length ∧ y < f.length ∧ σN f x y = u ∧ τN s y x = v
noncomputable def preX (f s : List (List Int)) (u v : Nat) : Nat := by
  classical exact if h : ∃ x, ∃ y, pre f s u v x y then Classical.choose h else 0
noncomputable def preY (f s : List (List Int)) (u v : Nat) : Nat := by
  classical exact if h : ∃ y, ∃ x, pre f s u v x y then Classical.choose h else 0
theorem pre_uniq {f s : List (List Int)} (h : PM f s) (hi : Inj f s) {u v x y x' y' : Nat} (h1 : pre f s u v x y) (h2 : pre f s u v x' y') : x = x' ∧ y = y' := by
  obtain ⟨a1, a2, a3, a4⟩ := h1
  obtain ⟨b1, b2, b3, b4⟩ := h2
  have e1 := h.v2f x y
  have e2 := h.v2f x' y'
  have e3 := h.v2s x y
  have e4 := h.v2s x' y'
  exact inj_pair hi a1 a2 b1 b2 (by omega) (by omega)
theorem pre_eq {f s : List (List Int)} (h : PM f s) (hi : Inj f s) {u v x y : Nat} (h1 : pre f s u v x y) : preX f s u v = x ∧ preY f s u v = y := by
  have hx : ∃ x, ∃ y, pre f s u v x y := ⟨x, y, h1⟩
  have hy : ∃ y, ∃ x, pre f s u v x y := ⟨y, x, h1⟩
  constructor
  · unfold preX
    rw [dif_pos hx]
    obtain ⟨y', h2⟩ := Classical.choose_spec hx
    exact (pre_uniq h hi h2 h1).1
  · unfold preY
    rw [dif_pos hy]
    obtain ⟨y', h2⟩ := Classical.choose_spec hy
    exact (pre_uniq h hi h2 h1).2
theorem pre_ex {f s : List (List Int)} (h : PM f s) (hi : Inj f s) {u v : Nat} (hu : u < f.length) (hv : v < f.length) : ∃ x y, pre f s u v x y := by
  obtain ⟨x, y, h1, h2, h3, h4⟩ := sur_pair h hi hu hv
  have e1 := h.v2f x y
  have e3 := h.v2s x y
  exact ⟨x, y, h1, h2, by omega, by omega⟩
theorem pre_self {f s : List (List Int)} (h : PM f s) (hi : Inj f s) {u v : Nat} (hu : u < f.length) (hv : v < f.length) : pre f s u v (preX f s u v) (preY f s u v) := by
  obtain ⟨x, y, h1⟩ := pre_ex h hi hu hv
  have := pre_eq h hi h1
  rw [this.1, this.2]
  exact h1
theorem pre_at {f s : List (List Int)} (h : PM f s) (hi : Inj f s) {x y : Nat} (hx : x < f.length) (hy : y < f.length) : preX f s (σN f x y) (τN s y x) = x ∧ preY f s (σN f x y) (τN s y x) = y := pre_eq h hi ⟨hx, hy, rfl, rfl⟩

noncomputable def invF (f s : List (List Int)) : List (List Int) := tabL f.length fun u v => (preX f s u v : Int)
noncomputable def invS (f s : List (List Int)) : List (List Int) := tabL f.length fun u v => (preY f s u v : Int)
@[simp] theorem invF_length (f s : List (List Int)) : (invF f s).length = f.length := by simp [invF]
@[simp] theorem invS_length (f s : List (List Int)) : (invS f s).length = f.length := by simp [invS]
theorem inv_pm {f s : List (List Int)} (h : PM f s) (hi : Inj f s) : PM (invF f s) (invS f s) where
  tf := tab_of fun x y hx hy => by have := (pre_self h hi hx hy).1; omega
  ts := tab_of fun x y hx hy => by have := (pre_self h hi hx hy).2.1; omega
  len := by simp
  pos := by simpa using h.pos
  small := by simpa using h.small


def hit (f s : List (List Int)) (a b i j : Nat) : Prop := ∃ x y, x < f.length ∧ y < f.length ∧ (x < a ∨ (x = a ∧ y < b)) ∧ σN f x y = i ∧ τN s y x = j
noncomputable def wT (f s : List (List Int)) (R : Nat → Nat → Nat) (Z : Nat → Nat → Int) (a b : Nat) : List (List Int) := tabL f.length fun i j => if dec (hit f s a b i j) then (R i j : Int) else Z i j
@[simp] theorem wT_length (f s : List (List Int)) (R : Nat → Nat → Nat) (Z : Nat → Nat → Int) (a b : Nat) : (wT f s R Z a b).length = f.length := by simp [wT]
end Go.Mch
namespace Go.Mch

def isWd (n : Int) (w : List Int) : Prop := inR 0 (n - 1) w ∧ w.length ≤ 8
instance (n : Int) (w : List Int) : Decidable (isWd n w) := by unfold isWd; infer_instance

noncomputable def cMv (f s : List (List Int)) (x : List Int) (p : Nat) : List Int := if p % 2 = 0 then dW f s x (p / 2) else dW (invF f s) (invS f s) x (p / 2)
@[simp] theorem cMv_length (f s : List (List Int)) (x : List Int) (p : Nat) : (cMv f s x p).length = x.length := by unfold cMv; split <;> simp
theorem cMv_in {f s : List (List Int)} (h : PM f s) (hi : Inj f s) {x : List Int} (hx : inN f.length x) (p : Nat) : inN f.length (cMv f s x p) := by
  unfold cMv
  split
  · exact dW_in h hx _
  · have := dW_in (inv_pm h hi) (w := x) (by simpa using hx) (p / 2)
    simpa using this
theorem CR_in {f s : List (List Int)} (h : PM f s) (hi : Inj f s) {w : List Int} (hw : inN f.length w) {m : Nat} {x : List Int} (hx : TR (cMv f s) m w x) : inN f.length x ∧ x.length = w.length :=
  hx (fun y => inN f.length y ∧ y.length = w.length) ⟨hw, rfl⟩ fun y hy i _ => ⟨cMv_in h hi hy.1 i, by rw [cMv_length]; exact hy.2⟩

end Go.Mch
namespace Go.Mch


def hd0 (X : List (List Int)) : List Int := X.getD 0 []
end Go.Mch
