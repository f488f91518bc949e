/- Our texts YfA YgA YfC YfD YfE YfB YfF YfG YfH YfI YfJ YfK YfL YfM YfN YfO YfP YfX YfY YfQ YfR YfV YfZ YfW YgF YgE YgG YgH YfS YfT YgI YgY YjC YjI YjJ YjK YjL YlA YlJ YgQ YgV YgJ YgK YgL YgW YgZ YgN YgO, end to end. -/
import Derived.Test.YtpaklggigidikaaGreatYeA
import Derived.Test.YtpaklggigidikaaGreatM4
import Derived.ProofKit
import Derived.OpenShut
import Derived.JoinedCond
import Derived.WideKeyArgs
import Derived.Test.YtpaklggigidikaaGreatYeB
import Derived.Test.YtpaklggigidikaaGreatM1
import Derived.Test.YtpaklggigidikaaGreatYeC
import Derived.Test.YtpaklggigidikaaGreatYeG
namespace Go.Mch

abbrev nil : T := .sc (.slice none 0 0)

inductive Rw (α : Type) where
 | no
 | odd (a : Addr)
 | of (l : List α)

def lst {α : Type} : Rw α → List α
 | .of l => l
 | _ => []
def lso {α : Type} (o : Option (List α)) : List α := o.getD []
def Rw.ofO {α : Type} : Option (List α) → Rw α
 | none => .no
 | some l => .of l

def rawI : Rw Int → T
 | .no => nil
 | .odd a => .sc (.slice (some a) 0 0)
 | .of xs => .mem .old (some 1) (xs.map I)

@[simp] theorem lst_of {α : Type} (l : List α) : lst (.of l) = l := rfl
@[simp] theorem w0j {α : Type} : lst (.no : Rw α) = [] := rfl
@[simp] theorem z1z {α : Type} (a : Addr) : lst (.odd a : Rw α) = [] := rfl
@[simp] theorem j7s {α : Type} (l : List α) : lso (some l) = l := rfl
@[simp] theorem q78 {α : Type} : lso (none : Option (List α)) = [] := rfl
@[simp] theorem w0i {α : Type} (o : Option (List α)) : lst (Rw.ofO o) = lso o := by cases o <;> rfl

@[simp] theorem w73 (xs : List Int) : T.j0m (xs.map I) = true := by
 induction xs with
 | nil => rfl
 | cons x xs ih => simp [ih]
@[simp] theorem w1f (k : K) (xs : List Int) : T.eryL k (xs.map I) = xs.map I := by
 induction xs with
 | nil => rfl
 | cons x xs ih => simp [ih]
@[simp] theorem w77 (xs : List Int) : T.j57 (xs.map I) = true := by
 induction xs with
 | nil => rfl
 | cons x xs ih => simp [ih]
@[simp] theorem v1n (xs : List Int) : T.j1x (xs.map I) = xs.map I := by
 induction xs with
 | nil => rfl
 | cons x xs ih => simp [ih]
@[simp] theorem v02 (a : Rw Int) : (rawI a).j0q = true := by cases a <;> simp [rawI]
@[simp] theorem v6h (a : Rw Int) (n : Nat) (p : List Nat) : (rawI a).peek n p = .val (rawI a) := by cases a <;> rfl
@[simp] theorem y2r (a : Rw Int) : (rawI a).ery .old = rawI a := by cases a <;> simp [rawI]
@[simp] theorem y2p (a : Rw Int) : lenV (.val (rawI a)) = some (lst a).length := by cases a <;> simp [rawI]
@[simp] theorem y2q (a : Rw Int) (i : Int) : idxV 1 (.val (rawI a)) i = if 0 ≤ i ∧ i < ((lst a).length : Int) then some (.val (.mem .old none (win ((lst a).map I) (i.toNat * 1) 1))) else none := by
 cases a with
 | no =>
  simp only [rawI, idxV, w0j, List.length_nil, List.map_nil]
  rw [if_neg]
  omega
 | odd ad =>
  simp only [rawI, idxV, z1z, List.length_nil, List.map_nil]
  rw [if_neg]
  omega
 | of xs => simp [rawI]
def rawT : Rw (Rw Int) → T
 | .no => nil
 | .odd a => .sc (.slice (some a) 0 0)
 | .of rs => .mem .old (some 1) (rs.map rawI)
@[simp] theorem w72 (rs : List (Rw Int)) : T.j0m (rs.map rawI) = true := by
 induction rs with
 | nil => rfl
 | cons x xs ih => simp [ih]
@[simp] theorem v9x (rs : List (Rw Int)) : T.eryL .old (rs.map rawI) = rs.map rawI := by
 induction rs with
 | nil => rfl
 | cons x xs ih => simp [ih]
@[simp] theorem v00 (a : Rw (Rw Int)) : (rawT a).j0q = true := by cases a <;> simp [rawT]
@[simp] theorem v6g (a : Rw (Rw Int)) (n : Nat) (p : List Nat) : (rawT a).peek n p = .val (rawT a) := by cases a <;> rfl
@[simp] theorem y2o (a : Rw (Rw Int)) : (rawT a).ery .old = rawT a := by cases a <;> simp [rawT]
@[simp] theorem y2m (a : Rw (Rw Int)) : lenV (.val (rawT a)) = some (lst a).length := by cases a <;> simp [rawT]
@[simp] theorem y2n (a : Rw (Rw Int)) (i : Int) : idxV 1 (.val (rawT a)) i = if 0 ≤ i ∧ i < ((lst a).length : Int) then some (.val (.mem .old none (win ((lst a).map rawI) (i.toNat * 1) 1))) else none := by
 cases a with
 | no =>
  simp only [rawT, idxV, w0j, List.length_nil, List.map_nil]
  rw [if_neg]
  omega
 | odd ad =>
  simp only [rawT, idxV, z1z, List.length_nil, List.map_nil]
  rw [if_neg]
  omega
 | of xs => simp [rawT]
@[simp] theorem v01 (a : Rw (Rw Int)) : (rawT a).cells = [rawT a] := by cases a <;> rfl
@[simp] theorem w7l (a : Rw (Rw Int)) : (rawT a).j01 = true := by cases a <;> rfl
@[simp] theorem w7m (a : Rw Int) : (rawI a).j01 = true := by cases a <;> rfl

theorem j0e {G : Rl} {d : Option Nat} {k : Env → Prop} {e : Env} {args : List (Opd × Mode)} {id : Nat} {caps ts : List T} {r : T} (hc : G id (ts ++ T.eryL .old caps) (ts ++ T.eryL .old caps) r) (hall : args.all (fun x => x.2 == .r) = true) (hlen : args.length = ts.length)
 (hold : e.j6w args = true → r.j8e = true) (hk : k (e.setD d (.val r))) : w1p G d k e args id caps ts := by
 refine ⟨ts, r, hc, rfl, fun h => ⟨hold h, hall⟩, ?_⟩
 have : ∀ (xs : List (Opd × Mode)) (us : List T), xs.all (fun x => x.2 == .r) = true → xs.length = us.length → e.back xs us = some e := by
  intro xs
  induction xs with
  | nil => intro us _ h; cases us with | nil => rfl | cons => simp at h
  | cons x xs ih =>
   intro us h h2
   obtain ⟨x, md⟩ := x
   simp only [List.all_cons, Bool.and_eq_true, beq_iff_eq] at h
   obtain ⟨rfl, h⟩ := h
   cases us with
   | nil => simp at h2
   | cons u us => simp only [Env.back]; exact ih us (by simpa using h) (by simpa using h2)
 rw [this args ts hall hlen]
 exact ⟨e, rfl, hk⟩

theorem take_len {α : Type} (l : List α) {n : Nat} (h : l.length ≤ n) : l.take n = l := List.take_of_length_le h
@[simp] theorem w48 {α β : Type} (l : List α) (f : α → β) : List.take l.length (l.map f) = l.map f := List.take_of_length_le (by simp)


def y1i (pg : Pg) : Prop := ∀ a : Rw Int, (lst a).length ≤ 1048576 → Call pg 7 [rawI a] [rawI a] (ints .own (lst a))
theorem y1i.at {pg : Pg} (h : y1i pg) (a : Rw Int) (hl : (lst a).length ≤ 1048576) : Call pg 7 [rawI a] [rawI a] (.mem .own (some 1) ((lst a).map I)) := h a hl

def rows (xss : List (List Int)) : List T := xss.map fun xs => .mem .own (some 1) (xs.map I)
@[simp] theorem w7c (xss : List (List Int)) : (rows xss).length = xss.length := by simp [rows]

@[simp] theorem w76 (xss : List (List Int)) : T.j57 (rows xss) = true := by
 induction xss with
 | nil => rfl
 | cons x xs ih => simp only [rows, List.map_cons] at ih ⊢; simp [ih]
@[simp] theorem v1l (xss : List (List Int)) : T.j1x (rows xss) = rows xss := by
 induction xss with
 | nil => rfl
 | cons x xs ih => simp only [rows, List.map_cons] at ih ⊢; simp [ih]
abbrev ix (xs : List Int) : T := .mem .old (some 1) (xs.map I)
def tbL (xss : List (List Int)) : List T := xss.map fun xs => ix xs
abbrev tb (xss : List (List Int)) : T := .mem .old (some 1) (tbL xss)
@[simp] theorem v0d (xss : List (List Int)) : (tbL xss).length = xss.length := by simp [tbL]
@[simp] theorem v1d (xss : List (List Int)) : T.j0m (tbL xss) = true := by
 induction xss with
 | nil => rfl
 | cons x xs ih => simp only [tbL, List.map_cons] at ih ⊢; simp [ih]
@[simp] theorem eryL_tbL (xss : List (List Int)) : T.eryL .old (tbL xss) = tbL xss := by
 induction xss with
 | nil => rfl
 | cons x xs ih => simp only [tbL, List.map_cons] at ih ⊢; simp [ih]
@[simp] theorem v9v (xss : List (List Int)) : T.eryL .old (rows xss) = tbL xss := by
 induction xss with
 | nil => rfl
 | cons x xs ih => simp only [rows, tbL, List.map_cons] at ih ⊢; simp [ih]
theorem w7k (xss : List (List Int)) : rawT (.of (xss.map .of)) = tb xss := by simp [rawT, tbL, rawI]
theorem j6i (xss : List (List Int)) (j : Nat) : (rows xss)[j]? = (xss[j]?).map fun xs => .mem .own (some 1) (xs.map I) := by simp [rows]
@[simp] theorem w5i (xss : List (List Int)) (j : Nat) (h : j < (rows xss).length) : (rows xss)[j] = .mem .own (some 1) ((xss[j]'(by simpa using h)).map I) := by simp [rows]

def small (a : Rw (Rw Int)) : Prop := (lst a).length ≤ 1048576 ∧ ∀ r ∈ lst a, (lst r).length ≤ 1048576


def sz1 (r : Rw Int) (l : Int) : Int := if l - ((lst r).length : Int) < 0 then -1 else l - ((lst r).length : Int)

def y1k (pg : Pg) : Prop := ∀ a b : Rw Int, (lst a).length ≤ 1048576 → Call pg 9 [rawI a, rawI b] [rawI a, rawI b] (B (decide (lst a = lst b)))
def y1j (pg : Pg) : Prop := ∀ a b : Rw (Rw Int), small a → Call pg 21 [rawT a, rawT b] [rawT a, rawT b] (B (decide ((lst a).map lst = (lst b).map lst)))
def z5c (pg : Pg) : Prop := ∀ a b : Rw (Rw Int), small a → Call pg 10 [.agg [rawT a], .agg [rawT b]] [.agg [rawT a], .agg [rawT b]] (B (decide ((lst a).map lst = (lst b).map lst)))
def w2l (pg : Pg) : Prop := ∀ a b c d : Rw (Rw Int), small a → small b → Call pg 18 [.agg [rawT a, rawT b], .agg [rawT c, rawT d]] [.agg [rawT a, rawT b], .agg [rawT c, rawT d]] (B (decide ((lst a).map lst = (lst c).map lst ∧ (lst b).map lst = (lst d).map lst)))
end Go.Mch
namespace Go.Mch

abbrev okCl : K → Nat → Prop := fun k _ => k = .old

theorem z9u {fm : Nat → Nat} {ok : K → Nat → Prop} {w : World} {g : Nat → Value} : ∀ (ts : List T) (i : Nat), (∀ j (h : j < ts.length), rep fm ok w (g (i + j)) ts[j]) → repL fm ok w g i ts
 | [], _, _ => trivial
 | t :: ts, i, h => ⟨h 0 (by simp), z9u ts (i + 1) fun j hj => by
     have := h (j + 1) (by simpa using hj)
     simpa [show i + 1 + j = i + (j + 1) from by omega] using this⟩

theorem w3k {P : Program} {fm : Nat → Nat} {f : Nat} {args args' : List T} (h : Pact P fm f args args' (B true)) (hno : T.j0m args = true) {w : World} {vs : Array Value} (hs : vs.size = args.length)
 (hrep : ∀ s t, args[s]? = some t → rep fm okCl w (vs.getD s undef) t) :
 Calls P (fm f) vs w fun e w' => e = .returned (.bool true) ∧ Keeps (fun _ => False) w w' := by
 have hA : ∀ b, (fun _ => False : Nat → Prop) b → b < w.heap.size := fun _ h => h.elim
 have hc : ∀ s t, init args s = some (.val t) → ∀ b, cnt w (vs.getD s undef) b t = 0 := by
  intro s t ht b
  obtain ⟨u, h1, h2⟩ := j5y ht
  cases h2
  exact j2b _ _ _ _ (j69 hno h1)
 have hR : R (cx0 fm w (fun _ => False) (fun _ => False) hA) (init args) (fun s => vs.getD s undef) w := by
  refine ⟨Keeps.refl _ _, ⟨fun _ => 0, fun s t ht b => ?_⟩, fun s x hx => ?_⟩
  · rw [hc s t ht b]; simp
  · obtain ⟨t, h1, rfl⟩ := j5y hx
    refine .inl ⟨t, rfl, q1h (fun k b _ _ hk => ?_) t _ (fun b hb _ _ => ?_) (hrep s t h1)⟩
    · cases hk
      refine ⟨id, by simp, by simp, fun _ => ⟨?_, id⟩⟩
      rintro ⟨s', t', h3, h4⟩
      rw [hc s' t' h3 b] at h4
      omega
    · have h5 := hc s t hx b
      omega
 refine (h.2 w vs _ _ hA hs (fun _ _ hm => hm) hR).mono fun e w' hb => ?_
 cases e with
 | returned v =>
  obtain ⟨q, e', vl', _, h2, _, h4, _⟩ := hb
  refine ⟨?_, h2.keeps⟩
  have h5 := h2.rep q (.val (B true)) (by simp [Env.add])
  rcases h5 with ⟨t, h6, h7⟩ | h7
  · cases h6
    simp only [rep] at h7
    rw [← h4, h7.1]
  · simp only [arep, rep] at h7
    rw [← h4, h7.2.1]
 | _ => exact hb.elim

theorem Keeps.but {w w' : World} (h : Keeps (fun _ => False) w w') (may : MemPlace → Prop) : w.keptBut w' may := by
 refine ⟨h.os, h.output, fun i hi => ?_⟩
 rw [h.block i hi id]
 exact (World.keptBut_refl w may).2.2 i hi

theorem Keeps.at {w w' : World} (h : Keeps (fun _ => False) w w') {p : MemPlace} (hp : p.block < w.heap.size) : w.sameAt w' p := by
 cases p with
 | cell b off => exact World.cell?_of_block (a := ⟨b, off, none⟩) (h.block b hp id)
 | map b => exact h.block b hp id


section
variable {H : Type} {enc : TypeId × Value → H} {P : Program} {w : World} {base : Nat} {sp : Nat → Bool} {held : Bool} {fm : Nat → Nat}

theorem each {α : Type} {Q : Nat → α → Prop} : ∀ (n : Nat), (∀ i, i < n → ∃ z, Q i z) → ∃ zs : List α, zs.length = n ∧ ∀ i (h : i < zs.length), Q i zs[i]
 | 0, _ => ⟨[], rfl, fun i h => by simp at h⟩
 | n + 1, h => by
  obtain ⟨zs, h1, h2⟩ := each n fun i hi => h i (by omega)
  obtain ⟨z, hz⟩ := h n (by omega)
  refine ⟨zs ++ [z], by simp [h1], fun i hi => ?_⟩
  rcases Nat.lt_or_ge i zs.length with hl | hl
  · rw [List.getElem_append_left hl]; exact h2 i hl
  · have : i = n := by simp at hi; omega
    subst this
    rw [List.getElem_append_right hl]
    simp [h1, hz]

theorem w3s {t e : TypeId} {fuel : Nat} {cs : List Value} {x : DataW H × List MemPlace} (ht : P.underlying t = some (.slice e)) (hc : P.cellsOf e = 1)
 (h : DataW.trod enc P w base (fun _ => true) held fuel t cs = some x) :
 (cs = [.slice none 0 0] ∧ x.1 = .nil) ∨ (∃ a, cs = [.slice (some a) 0 0] ∧ x.1 = .slice [] []) ∨
 ∃ b off len cap ds rest n, cs = [.slice (some ⟨b, off, none⟩) len cap] ∧ len ≤ cap ∧ x.1 = .slice ds rest ∧ ds.length = len ∧
  ∀ i, i < len → ∃ c y, w.cell? ⟨b, off + i, none⟩ = some c ∧ DataW.trod enc P w base (fun _ => true) held n e [c] = some y ∧ ds[i]? = some y.1 := by
 rcases DataW.trod_slice ht h with ⟨h1, rfl⟩ | ⟨a, len, cap, elems, rest, n, _, rfl, rfl, hb, hl, _, hlen, hel, hsp, _⟩
 · exact .inl ⟨h1, rfl⟩
 right
 obtain ⟨hr1, hr2⟩ := hsp rfl
 have cell : ∀ a' y, (w.cells? base a' (P.cellsOf e)).bind (DataW.trod enc P w base (fun _ => true) held n e) = some y → ∃ c, w.cell? a' = some c ∧ DataW.trod enc P w base (fun _ => true) held n e [c] = some y := by
  intro a' y hy
  rw [hc, Option.bind_eq_some_iff] at hy
  obtain ⟨c1, h1, h2⟩ := hy
  have h3 := (World.cells?_some h1).2.1
  match c1, h3 with
  | [c], _ => exact ⟨c, Go.ChangeShapes.cell_of_cells?_one h1, h2⟩
 by_cases hz : cap = 0
 · subst hz
   have h0 : len = 0 := by omega
   subst h0
   have h1 : elems = [] := List.eq_nil_of_length_eq_zero hlen
   have h2 : rest = [] := List.eq_nil_of_length_eq_zero (by simpa using hr1)
   subst h1 h2
   exact .inl ⟨a, rfl, rfl⟩
 right
 have hspot : a.spot = none := by
  by_cases h0 : 0 < len
  · have h1 : 0 < elems.length := by omega
    have := hel 0 h0
    rw [List.getElem?_eq_getElem h1] at this
    obtain ⟨c, hc1, _⟩ := cell _ _ this
    simp only [Nat.zero_mul] at hc1
    have := World.cell?_spot hc1
    simpa [Addr.add] using this
  · have h1 : 0 < rest.length := by omega
    have := hr2 0 (by omega)
    rw [List.getElem?_eq_getElem h1] at this
    obtain ⟨c, hc1, _⟩ := cell _ _ this
    have h2 := World.cell?_spot hc1
    simpa [Addr.add, show len = 0 from by omega] using h2
 obtain ⟨b, off, spot⟩ := a
 simp only at hspot
 subst hspot
 refine ⟨b, off, len, cap, elems.map (·.1), rest.map (·.1), n, rfl, hl, rfl, by simpa using hlen, fun i hi => ?_⟩
 have h1 : i < elems.length := by omega
 have h2 := hel i hi
 rw [List.getElem?_eq_getElem h1] at h2
 obtain ⟨c, h3, h4⟩ := cell _ _ h2
 refine ⟨c, elems[i], ?_, h4, by simp [h1]⟩
 rw [hc, Nat.mul_one] at h3
 rw [← Go.WideShapes.add_plain]; exact h3

theorem z9s {b off len cap : Nat} {us : List T} (hlen : us.length = len) (hl : len ≤ cap) (hno : T.j0m us = true) (h : ∀ i (hi : i < us.length), ∃ c, w.cell? ⟨b, off + i, none⟩ = some c ∧ rep fm okCl w c us[i]) :
 rep fm okCl w (.slice (some ⟨b, off, none⟩) len cap) (.mem .old (some 1) us) := by
 rw [j0u]
 refine ⟨⟨⟨len, rfl, by simp [hlen], by simp, hl⟩, fun i hi => ?_⟩, fun _ => rfl, by simp, fun _ => hno, ?_⟩
 · obtain ⟨c, hc, _⟩ := h i hi
   simp only [blk, ofs]
   rw [hc]; rfl
 · refine z9u us 0 fun j hj => ?_
   obtain ⟨c, hc, hr⟩ := h j hj
   simp only [kid, Nat.zero_add]
   rw [hc]
   exact hr

structure Bulk (m : DataW H → Nat) : Prop where
 slice : ∀ es rest, es.length ≤ m (.slice es rest)
 elem : ∀ es rest d, d ∈ es → m d ≤ m (.slice es rest)
 part : ∀ ps d, d ∈ ps → m d ≤ m (.agg ps)


theorem z04 {W W' : World} {sp' : Nat → Bool} (hl : laidOutB P = true) : ∀ {ts : List TypeId} {vs : List Value} {ds : List (DataW H)} {ps : List MemPlace}, (∀ t ∈ ts, P.readableRec t = true ∧ t < P.types.size) →
 DataW.TrodAll enc P W 0 (fun _ => true) true ts vs ds ps → (∀ p ∈ ps, W.sameAt W' p) → (∀ p ∈ ps, sp' p.block = true) → DataW.TrodAll enc P W' 0 sp' true ts vs ds ps
 | [], vs, ds, ps, _, h, _, _ => by
  obtain ⟨rfl, rfl, rfl⟩ := Go.ChangeShapes.trodAll_nil h
  rfl
 | t :: ts, vs, ds, ps, ht, h, h1, h2 => by
  obtain ⟨v, vs', d, ds', p, q, rfl, rfl, rfl, h3, h4⟩ := Go.ChangeShapes.trodAll_cons h
  exact ⟨p, q, Go.WideElems.Trod_stays hl (ht t (by simp)).1 (ht t (by simp)).2 h3 (fun x hx => h1 x (by simp [hx])) (fun x hx => h2 x (by simp [hx])),
   z04 hl (fun t' h' => ht t' (by simp [h'])) h4 (fun x hx => h1 x (by simp [hx])) (fun x hx => h2 x (by simp [hx])), rfl⟩

theorem z90 {f : Func} {s : ChangeSpec} {W W' : World} {args : Array Value} {ds gs : List (DataW H)} {before : List MemPlace} {rt : TypeId} (hW : DataW.Whole enc P f.params.toList s.vars false W args.toList ds gs before) (hK : Keeps (fun _ => False) W W')
 (hv : s.vars = []) (hres : f.resultTypes = #[rt]) (hrt : P.underlying rt = some .bool) (hl : laidOutB P = true) (hr : ∀ t ∈ f.params.toList, P.readableRec t = true ∧ t < P.types.size)
 (hfn : s.fn H ds = { results := [.lit (.bool true)], args := ds }) : s.post enc P f false true false false W args (.bool true) W' := by
 have hlt := hW.lt
 have hW' := hW
 obtain ⟨p, q, hA, hV, rfl, _, _⟩ := hW
 rw [hv] at hV
 have hg : gs = [] ∧ q = [] := by
  cases gs with
  | nil => exact ⟨rfl, by simpa [DataW.TrodVars] using hV⟩
  | cons d ds => simp [DataW.TrodVars] at hV
 obtain ⟨rfl, rfl⟩ := hg
 simp only [List.append_nil] at hlt
 refine ⟨ds, [], p ++ [], [], p, [], hW', ?_, ?_, ?_, hK.but _, by simp⟩
 · rw [List.append_nil, hfn, hres]
   refine ⟨[], [], ⟨1, ?_⟩, rfl, rfl⟩
   simp [DataW.trod, hrt, Value.cells]
 · rw [List.append_nil, hfn]
   exact z04 hl hr hA (fun x hx => hK.at (hlt x hx)) (fun x hx => by simpa using hlt x hx)
 · rw [List.append_nil, hfn, hv]
   rfl
end
end Go.Mch
namespace Go.Mch

def S_in (pg : Pg) (f : Nat) : Prop := ∀ n lo hi : Int, Call pg f [I n, I lo, I hi] [I n, I lo, I hi] (B (decide (lo ≤ n ∧ n ≤ hi)))
theorem w6q {pg : Pg} (hp : pg.fn 30 = some j5w) : S_in pg 30 := by
 intro n lo hi
 refine Call.intro hp rfl (by simp) ?_
 show wp _ _ j5w.body (post [.t 6] _ _ _) _
 by_cases h1 : lo ≤ n
 · by_cases h2 : n ≤ hi <;> simp [j5w, h1, h2]
 · simp [j5w, h1, j0x]
theorem w2q {pg : Pg} (hp : pg.fn 35 = some j46) : S_in pg 35 := by
 intro n lo hi
 refine Call.intro hp rfl (by simp) ?_
 show wp _ _ j46.body (post [.t 6] _ _ _) _
 by_cases h1 : lo ≤ n
 · by_cases h2 : n ≤ hi <;> simp [j46, h1, h2]
 · simp [j46, h1, j0x]

def w2c (pg : Pg) : Prop := ∀ xs : List Int, xs.length ≤ 1048576 → Call pg 31 [ix xs] [ix xs] (.mem .own (some 1) (xs.map I))
theorem t_own {pg : Pg} (hp : pg.fn 31 = some j55) : w2c pg := by
 intro xs hl
 refine Call.intro hp rfl (by simp) ?_
 show wp _ _ j55.body (post [.t 2] _ _ _) _
 simp [j55, roomy]
 omega

def ixOf : List Int → Int → Int
 | [], _ => -1
 | x :: xs, n => if x = n then 0 else if ixOf xs n < 0 then -1 else ixOf xs n + 1
theorem j7z : ∀ (xs : List Int) (n : Int), -1 ≤ ixOf xs n ∧ ixOf xs n < xs.length
 | [], n => by simp [ixOf]
 | x :: xs, n => by
  have := j7z xs n
  unfold ixOf
  simp only [List.length_cons]
  split
  · omega
  · split <;> omega
theorem j45 : ∀ (xs : List Int) (n : Int), 0 ≤ ixOf xs n ↔ n ∈ xs
 | [], n => by simp [ixOf]
 | x :: xs, n => by
  have := j45 xs n
  have h2 := j7z xs n
  unfold ixOf
  by_cases h : x = n
  · subst h; simp
  · rw [if_neg h]
    split
    · rename_i h3
      simp only [List.mem_cons]
      constructor
      · intro h4; omega
      · intro h4
        rcases h4 with h4 | h4
        · exact (h h4.symm).elim
        · have := this.2 h4; omega
    · rename_i h3
      simp only [List.mem_cons]
      exact ⟨fun _ => .inr (this.1 (by omega)), fun _ => by omega⟩
theorem q2u : ∀ {xs : List Int} {n : Int} {k : Nat} (hk : k < xs.length), (∀ i (h : i < k), xs[i] ≠ n) → xs[k] = n → ixOf xs n = k
 | x :: xs, n, 0, _, _, h => by simp at h; simp [ixOf, h]
 | x :: xs, n, k + 1, hk, h1, h2 => by
  have h0 := h1 0 (by omega)
  simp only [List.getElem_cons_zero] at h0
  have := q2u (xs := xs) (n := n) (k := k) (by simpa using hk) (fun i hi => by
   have := h1 (i + 1) (by omega)
   simpa using this) (by simpa using h2)
  unfold ixOf
  rw [if_neg h0, this, if_neg (by omega)]
  omega
theorem z0e {xs : List Int} {n : Int} (h : ∀ i (h : i < xs.length), xs[i] ≠ n) : ixOf xs n = -1 := by
 have h1 := j7z xs n
 have h2 : ¬ 0 ≤ ixOf xs n := fun hh => by
  obtain ⟨i, hi, he⟩ := List.getElem_of_mem ((j45 xs n).1 hh)
  exact h i hi he
 omega

def q05 (pg : Pg) : Prop := ∀ (xs : List Int) (n : Int), xs.length ≤ 1048576 → Call pg 69 [ix xs, I n] [ix xs, I n] (I (ixOf xs n))
theorem w6s {pg : Pg} (hp : pg.fn 69 = some j4u) : q05 pg := by
 intro xs n hl
 refine Call.intro hp rfl (by simp) ?_
 show wp _ _ j4u.body (post [.t 4] _ _ _) _
 simp [j4u]
 refine j0a (fun k e => (∀ i (h : i < xs.length), i < k → xs[i] ≠ n) ∧ e = fr [(0, some (.val (ix xs))), (1, some (.val (I n))), (5, some (.val (I k)))]) xs.length ?_ ?_ 0 _ (by omega) ?_
 · rintro k e hk ⟨h1, rfl⟩
   by_cases hx : xs[k] = n
   · simp [hk, hx]
     exact (q2u hk (fun i hi => h1 i (by omega) hi) hx).symm
   · simp [hk, hx]
     refine ⟨by omega, fun i hi hik => ?_⟩
     rcases Nat.lt_or_ge i k with h2 | h2
     · exact h1 i hi h2
     · have : i = k := by omega
       subst this; exact hx
 · rintro e ⟨h1, rfl⟩
   simp
   exact (z0e fun i hi => h1 i hi hi).symm
 · simp

def w2k (pg : Pg) : Prop := ∀ (xs : List Int) (n : Int), xs.length ≤ 1048576 → Call pg 62 [ix xs, I n] [ix xs, I n] (B (decide (n ∈ xs)))
theorem t_has {pg : Pg} (hp : pg.fn 62 = some j56) (h69 : q05 pg) : w2k pg := by
 intro xs n hl
 refine Call.intro hp rfl (by simp) ?_
 show wp _ _ j56.body (post [.t 4] _ _ _) _
 simp [j56]
 refine j0e (h69 xs n hl) rfl rfl (fun _ => rfl) ?_
 simp [j45]


def Tab (t : List (List Int)) : Prop := ∀ r ∈ t, r.length = t.length ∧ ∀ v ∈ r, 0 ≤ v ∧ v < t.length

def j49 (t : List (List Int)) : Prop := 1 ≤ t.length ∧ t.length ≤ 12 ∧ Tab t

instance (t : List (List Int)) : Decidable (Tab t) := by unfold Tab; infer_instance
instance (t : List (List Int)) : Decidable (j49 t) := by unfold j49; infer_instance

def q02 (pg : Pg) (f : Nat) : Prop := ∀ t : List (List Int), t.length ≤ 1048576 → (∀ r ∈ t, r.length ≤ 1048576) → Call pg f [tb t] [tb t] (B (decide (j49 t)))

@[simp] theorem w6f {t : List (List Int)} {k : Nat} (h : k < (tbL t).length) : (tbL t)[k] = ix (t[k]'(by simpa using h)) := by simp [tbL]

theorem z5o {pg : Pg} (hp : pg.fn 46 = some j4t) (h30 : S_in pg 30) : q02 pg 46 := by
 intro t hl hr
 refine Call.intro hp rfl (by simp) ?_
 show wp _ _ j4t.body (post [.t 2] _ _ _) _
 simp [j4t]
 refine j0e (h30 _ 1 12) rfl rfl (fun _ => rfl) ?_
 by_cases hn : 1 ≤ t.length ∧ t.length ≤ 12
 · have hn' : (1 : Int) ≤ t.length ∧ (t.length : Int) ≤ 12 := by omega
   simp [hn']
   refine j0a (fun k e => (∀ i (h : i < t.length), i < k → t[i].length = t.length ∧ ∀ v ∈ t[i], 0 ≤ v ∧ v < t.length) ∧ e = fr [(0, some (.val (tb t))), (3, some (.val (I t.length))), (4, some (.val (I k)))]) t.length ?_ ?_ 0 _ (by omega) ?_
   · rintro k e hk ⟨h1, rfl⟩
     by_cases hlen : t[k].length = t.length
     · simp [hk, hlen]
       refine j0a (fun j e => (∀ i (h : i < t[k].length), i < j → 0 ≤ t[k][i] ∧ t[k][i] < t.length) ∧ e = fr [(0, some (.val (tb t))), (3, some (.val (I t.length))), (4, some (.val (I k))), (5, some (.val (I j)))]) t.length ?_ ?_ 0 _ (by omega) ?_
       · rintro j e hj ⟨h2, rfl⟩
         have hj2 : j < t[k].length := by omega
         simp [hk, hj, hj2]
         refine ⟨by omega, ?_⟩
         refine j0e (h30 _ 0 _) rfl rfl (fun _ => rfl) ?_
         by_cases hv : 0 ≤ t[k][j] ∧ t[k][j] ≤ (t.length : Int) - 1
         · simp [hv]
           refine ⟨by omega, fun i hi hij => ?_⟩
           rcases Nat.lt_or_ge i j with h3 | h3
           · exact h2 i hi h3
           · have : i = j := by omega
             subst this; omega
         · have hvd : ¬ j49 t := fun ht => hv (by
            have := (ht.2.2 t[k] (List.getElem_mem hk)).2 t[k][j] (List.getElem_mem hj2)
            omega)
           simp [hv, hvd]
       · rintro e ⟨h2, rfl⟩
         simp
         refine ⟨by omega, fun i hi hik => ?_⟩
         rcases Nat.lt_or_ge i k with h3 | h3
         · exact h1 i hi h3
         · have : i = k := by omega
           subst this
           refine ⟨hlen, fun v hv => ?_⟩
           obtain ⟨j, hj, rfl⟩ := List.getElem_of_mem hv
           exact h2 j hj (by omega)
       · simp
     · have hvd : ¬ j49 t := fun ht => hlen (ht.2.2 t[k] (List.getElem_mem hk)).1
       have hne : ((t[k].length : Nat) : Int) ≠ t.length := by omega
       simp [hk, hne, hvd]
   · rintro e ⟨h1, rfl⟩
     have : j49 t := ⟨hn.1, hn.2, fun r hr => by
      obtain ⟨i, hi, rfl⟩ := List.getElem_of_mem hr
      exact h1 i hi hi⟩
     simp [this]
   · simp
 · have hvd : ¬ j49 t := fun ht => hn ⟨ht.1, ht.2.1⟩
   have hn' : ¬ ((1 : Int) ≤ t.length ∧ (t.length : Int) ≤ 12) := by omega
   simp [hn', hvd]

end Go.Mch
namespace Go.Mch

def isPerm (p : List Int) : Prop := 1 ≤ p.length ∧ p.length ≤ 12 ∧ ∀ x : Nat, x < p.length → (x : Int) ∈ p
instance (p : List Int) : Decidable (isPerm p) := by unfold isPerm; infer_instance

def z4z (pg : Pg) (f : Nat) : Prop := ∀ p : List Int, p.length ≤ 1048576 → Call pg f [ix p] [ix p] (B (decide (isPerm p)))

theorem z8h {pg : Pg} (hp : pg.fn 47 = some j5j) (h30 : S_in pg 30) (h62 : w2k pg) : z4z pg 47 := by
 intro p hl
 refine Call.intro hp rfl (by simp) ?_
 show wp _ _ j5j.body (post [.t 2] _ _ _) _
 simp [j5j]
 refine j0e (h30 _ 1 12) rfl rfl (fun _ => rfl) ?_
 by_cases hn : 1 ≤ p.length ∧ p.length ≤ 12
 · have hn' : (1 : Int) ≤ p.length ∧ (p.length : Int) ≤ 12 := by omega
   simp [hn']
   refine j0a (fun k e => (∀ x : Nat, x < k → (x : Int) ∈ p) ∧ e = fr [(0, some (.val (ix p))), (3, some (.val (I p.length))), (4, some (.val (I k)))]) p.length ?_ ?_ 0 _ (by omega) ?_
   · rintro k e hk ⟨h1, rfl⟩
     simp [hk]
     refine j0e (h62 p k hl) rfl rfl (fun _ => rfl) ?_
     by_cases hm : (k : Int) ∈ p
     · simp [hm]
       refine ⟨by omega, fun x hx => ?_⟩
       rcases Nat.lt_or_ge x k with h2 | h2
       · exact h1 x h2
       · have : x = k := by omega
         subst this; exact hm
     · have hvd : ¬ isPerm p := fun h => hm (h.2.2 k hk)
       simp [hm, hvd]
   · rintro e ⟨h1, rfl⟩
     have : isPerm p := ⟨hn.1, hn.2, h1⟩
     simp [this]
   · simp
 · have hvd : ¬ isPerm p := fun h => hn ⟨h.1, h.2.1⟩
   have hn' : ¬ ((1 : Int) ≤ p.length ∧ (p.length : Int) ≤ 12) := by omega
   simp [hn', hvd]

def inR (lo hi : Int) (xs : List Int) : Prop := ∀ x ∈ xs, lo ≤ x ∧ x ≤ hi
instance (lo hi : Int) (xs : List Int) : Decidable (inR lo hi xs) := by unfold inR; infer_instance

def j9a (pg : Pg) : Prop := ∀ (xs : List Int) (lo hi : Int), xs.length ≤ 1048576 → Call pg 54 [ix xs, I lo, I hi] [ix xs, I lo, I hi] (B (decide (inR lo hi xs)))
theorem z1h {pg : Pg} (hp : pg.fn 54 = some j4b) (h35 : S_in pg 35) : j9a pg := by
 intro xs lo hi hl
 refine Call.intro hp rfl (by simp) ?_
 show wp _ _ j4b.body (post [.t 6] _ _ _) _
 simp [j4b]
 refine j0a (fun k e => (∀ i (h : i < xs.length), i < k → lo ≤ xs[i] ∧ xs[i] ≤ hi) ∧ e = fr [(1, some (.val (I lo))), (2, some (.val (I hi))), (9, some (.val (ix xs))), (10, some (.val (I xs.length))), (11, some (.val (I k)))]) xs.length ?_ ?_ 0 _ (by omega) ?_
 · rintro k e hk ⟨h1, rfl⟩
   simp [hk]
   refine j0e (h35 _ _ _) rfl rfl (fun _ => rfl) ?_
   by_cases hm : lo ≤ xs[k] ∧ xs[k] ≤ hi
   · simp [hm]
     refine ⟨by omega, fun i hi hik => ?_⟩
     rcases Nat.lt_or_ge i k with h2 | h2
     · exact h1 i hi h2
     · have : i = k := by omega
       subst this; exact hm
   · have hvd : ¬ inR lo hi xs := fun h => hm (h _ (List.getElem_mem hk))
     simp [hm, hvd]
 · rintro e ⟨h1, rfl⟩
   have : inR lo hi xs := fun x hx => by
    obtain ⟨i, hi, rfl⟩ := List.getElem_of_mem hx
    exact h1 i hi hi
   simp [this]
 · simp

def j89 (pg : Pg) : Prop := ∀ (n : Int) (xs : List Int), xs.length ≤ 1048576 → 0 ≤ n → n ≤ 1048576 → Call pg 39 [I n, ix xs] [I n, ix xs] (B (decide (inR 0 (n - 1) xs)))
theorem q7t {pg : Pg} (hp : pg.fn 39 = some j3k) (h54 : j9a pg) : j89 pg := by
 intro n xs hl h1 h2
 refine Call.intro hp rfl (by simp) ?_
 show wp _ _ j3k.body (post [.t 4] _ _ _) _
 simp [j3k]
 refine ⟨by omega, ?_⟩
 refine j0e (h54 _ _ _ hl) rfl rfl (fun _ => rfl) ?_
 simp

def j1r (p : List Int) : Prop := (∀ x ∈ p, 0 ≤ x ∧ x < p.length) ∧ p.Nodup
instance (p : List Int) : Decidable (j1r p) := by unfold j1r; infer_instance

def q6f (p : List Int) (k : Nat) : List T := (List.range p.length).map fun i : Nat => B (decide ((i : Int) ∈ p.take k))
@[simp] theorem w5d (p : List Int) (k : Nat) : (q6f p k).length = p.length := by simp [q6f]
theorem q9n {p : List Int} {k i : Nat} (h : i < p.length) : (q6f p k)[i]'(by simpa using h) = B (decide ((i : Int) ∈ p.take k)) := by simp [q6f]
theorem z5y (p : List Int) : q6f p 0 = List.replicate p.length (B false) := by
 apply List.ext_getElem
 · simp
 · intro i h1 h2; simp [q6f]
theorem z8z {p : List Int} {k i : Nat} (hk : k < p.length) (hi : p[k] = i) : (q6f p k).set i (B true) = q6f p (k + 1) := by
 apply List.ext_getElem
 · simp
 · intro j h1 h2
   simp only [List.getElem_set, q6f, List.getElem_map, List.getElem_range, List.take_succ_eq_append_getElem hk, List.mem_append, List.mem_singleton]
   by_cases h : i = j
   · subst h; simp [hi]
   · rw [if_neg h]
     have : ¬ ((j : Int) = p[k]) := by omega
     simp [this]

theorem z6o {p : List Int} {k : Nat} (hk : k < p.length) (h : (p.take k).Nodup) (hm : p[k] ∉ p.take k) : (p.take (k + 1)).Nodup := by
 rw [List.take_succ_eq_append_getElem hk, List.nodup_append]
 refine ⟨h, by simp, fun a ha b hb => ?_⟩
 simp at hb
 subst hb
 intro e; subst e; exact hm ha

def j94 (pg : Pg) : Prop := ∀ p : List Int, p.length ≤ 1048576 → Call pg 66 [ix p] [ix p] (B (decide (j1r p)))
theorem q9b {pg : Pg} (hp : pg.fn 66 = some j3x) (h35 : S_in pg 35) : j94 pg := by
 intro p hl
 refine Call.intro hp rfl (by simp) ?_
 show wp _ _ j3x.body (post [.t 2] _ _ _) _
 simp [j3x]
 refine ⟨by unfold roomy; omega, ?_⟩
 refine j0a (fun k e => (∀ i (h : i < p.length), i < k → 0 ≤ p[i] ∧ p[i] < p.length) ∧ (p.take k).Nodup ∧ e = fr [(0, some (.val (ix p))), (3, some (.val (.mem .own (some 1) (q6f p k)))), (9, some (.val (ix p))), (10, some (.val (I p.length))), (11, some (.val (I k)))]) p.length ?_ ?_ 0 _ (by omega) ?_
 · rintro k e hk ⟨h1, h2, rfl⟩
   simp [hk]
   refine ⟨by omega, ?_⟩
   refine j0e (h35 _ _ _) rfl rfl (fun _ => rfl) ?_
   by_cases hv : 0 ≤ p[k] ∧ p[k] ≤ (p.length : Int) - 1
   · obtain ⟨i, hi⟩ : ∃ i : Nat, p[k] = i := ⟨p[k].toNat, by omega⟩
     have hil : i < p.length := by omega
     have hv' : 0 ≤ p[k] ∧ p[k] ≤ (p.length : Int) - 1 := hv
     rw [hi] at hv'
     by_cases hm : (i : Int) ∈ p.take k
     · have hvd : ¬ j1r p := fun h => by
        have h3 : (p.take (k + 1)).Nodup := h.2.sublist (List.take_sublist _ _)
        rw [List.take_succ_eq_append_getElem hk, List.nodup_append] at h3
        exact h3.2.2 _ hm _ (by simp) hi.symm
       simp [hi, hv', hil, q9n, hm, hvd]
     · simp [hi, hv', hil, q9n, hm]
       refine ⟨by omega, by omega, fun j hj hjk => ?_, z6o hk h2 (by rw [hi]; exact hm), ?_⟩
       · rcases Nat.lt_or_ge j k with h3 | h3
         · exact h1 j hj h3
         · have : j = k := by omega
           subst this; omega
       · rw [z8z hk hi]
   · have hvd : ¬ j1r p := fun h => hv (by have := h.1 _ (List.getElem_mem hk); omega)
     simp [hv, hvd, j0x]
 · rintro e ⟨h1, h2, rfl⟩
   have : j1r p := ⟨fun x hx => by
    obtain ⟨i, hi, rfl⟩ := List.getElem_of_mem hx
    exact h1 i hi hi, by rwa [List.take_length] at h2⟩
   simp [this]
 · simp [z5y]


def q04 (pg : Pg) : Prop := ∀ (t : List (List Int)) (P : List Int → Bool) (f : Nat) (caps : List T), t.length ≤ 1048576 → T.eryL .old caps = caps → T.j0m caps = true → (∀ r ∈ t, Call pg f (ix r :: caps) (ix r :: caps) (B (P r))) →
 ∃ r : Int, (0 ≤ r ↔ t.any P = true) ∧ Call pg 70 [tb t, .fn f caps] [tb t, .fn f caps] (I r)
theorem z1g {pg : Pg} (hp : pg.fn 70 = some j0p) : q04 pg := by
 intro t P f caps hl hc hno hf
 by_cases hex : ∃ (k : Nat) (hk : k < t.length), (∀ i (h : i < k), P t[i] = false) ∧ P t[k] = true
 · obtain ⟨m, hm, hm1, hm2⟩ := hex
   refine ⟨m, ⟨fun _ => List.any_eq_true.2 ⟨_, List.getElem_mem hm, hm2⟩, fun _ => by omega⟩, Call.intro hp rfl (by simp [hno]) ?_⟩
   show wp _ _ j0p.body (post [.t 4] _ _ _) _
   simp [j0p]
   refine j0a (fun k e => k ≤ m ∧ e = fr [(0, some (.val (tb t))), (1, some (.val (.fn f caps))), (7, some (.val (I t.length))), (8, some (.val (I k)))]) t.length ?_ ?_ 0 _ (by omega) ?_
   · rintro k e hk ⟨h1, rfl⟩
     simp [hk]
     refine j0e (by simpa [hc] using hf t[k] (List.getElem_mem hk)) rfl rfl (fun _ => rfl) ?_
     rcases Nat.lt_or_ge k m with h2 | h2
     · simp [hm1 k h2]
       omega
     · have : k = m := by omega
       subst this
       simp [hm2, hno]
   · rintro e ⟨h1, rfl⟩
     omega
   · simp
 · have hall : ∀ i (h : i < t.length), P t[i] = false := by
    intro i
    induction i using Nat.strongRecOn with
    | _ i ih =>
     intro hi
     cases hv : P t[i] with
     | false => rfl
     | true => exact (hex ⟨i, hi, fun j hj => ih j hj (by omega), hv⟩).elim
   refine ⟨-1, ⟨fun h => by omega, fun h => by
    obtain ⟨r, hr, h2⟩ := List.any_eq_true.1 h
    obtain ⟨i, hi, rfl⟩ := List.getElem_of_mem hr
    rw [hall i hi] at h2; cases h2⟩, Call.intro hp rfl (by simp [hno]) ?_⟩
   show wp _ _ j0p.body (post [.t 4] _ _ _) _
   simp [j0p]
   refine j0a (fun k e => e = fr [(0, some (.val (tb t))), (1, some (.val (.fn f caps))), (7, some (.val (I t.length))), (8, some (.val (I k)))]) t.length ?_ ?_ 0 _ (by omega) ?_
   · rintro k e hk rfl
     simp [hk]
     refine j0e (by simpa [hc] using hf t[k] (List.getElem_mem hk)) rfl rfl (fun _ => rfl) ?_
     simp [hall k hk]
     omega
   · rintro e rfl
     simp [hno]
   · simp

def j6k (pg : Pg) : Prop := ∀ (t : List (List Int)) (P : List Int → Bool) (f : Nat) (caps : List T), t.length ≤ 1048576 → T.eryL .old caps = caps → T.j0m caps = true → (∀ r ∈ t, Call pg f (ix r :: caps) (ix r :: caps) (B (P r))) →
 Call pg 63 [tb t, .fn f caps] [tb t, .fn f caps] (B (t.any P))
theorem q6d {pg : Pg} (hp : pg.fn 63 = some j0t) (h70 : q04 pg) : j6k pg := by
 intro t P f caps hl hc hno hf
 obtain ⟨r, h1, h2⟩ := h70 t P f caps hl hc hno hf
 refine Call.intro hp rfl (by simp [hno]) ?_
 show wp _ _ j0t.body (post [.t 4] _ _ _) _
 simp [j0t, hno, hc]
 refine j0e h2 rfl rfl (fun _ => rfl) ?_
 cases h : t.any P with
 | true => simp [h1.2 h, hno]
 | false =>
  have : ¬ 0 ≤ r := fun hh => by rw [h1.1 hh] at h; cases h
  simp [this, hno]

end Go.Mch
namespace Go.Mch

def q3e (pg : Pg) : Prop := ∀ (r : List Int) (n : Int), r.length ≤ 1048576 → 0 ≤ n → n ≤ 1048576 → Call pg 64 [ix r, .mem .old none [I n]] [ix r, .mem .old none [I n]] (B (decide ((r.length : Int) ≠ n ∨ ¬ inR 0 (n - 1) r)))
theorem z5p {pg : Pg} (hp : pg.fn 64 = some j3a) (h54 : j9a pg) : q3e pg := by
 intro r n hl h1 h2
 refine Call.intro hp rfl (by simp) ?_
 show wp _ _ j3a.body (post [.t 3] _ _ _) _
 by_cases hn : (r.length : Int) = n
 · simp [j3a, hn]
   refine ⟨by omega, ?_⟩
   refine j0e (h54 _ _ _ hl) rfl rfl (fun _ => rfl) ?_
   by_cases hr : inR 0 (n - 1) r <;> simp [hr]
 · simp [j3a, hn, j0x]

theorem z8k {pg : Pg} (hp : pg.fn 50 = some j5q) (h35 : S_in pg 35) (h64 : q3e pg) (h63 : j6k pg) : q02 pg 50 := by
 intro t hl hr
 refine Call.intro hp rfl (by simp) ?_
 show wp _ _ j5q.body (post [.t 2] _ _ _) _
 simp [j5q]
 refine j0e (h35 _ 1 12) rfl rfl (fun _ => rfl) ?_
 by_cases hn : 1 ≤ t.length ∧ t.length ≤ 12
 · have hn' : (1 : Int) ≤ t.length ∧ (t.length : Int) ≤ 12 := by omega
   simp [hn']
   refine j0e (h63 t (fun r => decide ((r.length : Int) ≠ t.length ∨ ¬ inR 0 ((t.length : Int) - 1) r)) 64 [.mem .old none [I t.length]] hl rfl rfl (fun r hm => h64 r _ (hr r hm) (by omega) (by omega))) rfl rfl (fun _ => rfl) ?_
   simp
   by_cases ht : j49 t
   · simp [ht]
     intro r hm
     have := ht.2.2 r hm
     exact ⟨by omega, fun v hv => by have := this.2 v hv; omega⟩
   · simp [ht]
     rcases Classical.em (∃ x, x ∈ t ∧ (¬ ((x.length : Nat) : Int) = t.length ∨ ¬ inR 0 ((t.length : Int) - 1) x)) with h | h
     · exact h
     · exfalso
       refine ht ⟨hn.1, hn.2, fun r hm => ?_⟩
       have h1 : ((r.length : Nat) : Int) = t.length ∧ inR 0 ((t.length : Int) - 1) r := by
        refine Classical.byContradiction fun h2 => h ⟨r, hm, ?_⟩
        rcases Classical.em (((r.length : Nat) : Int) = t.length) with h3 | h3
        · exact .inr fun h4 => h2 ⟨h3, h4⟩
        · exact .inl h3
       exact ⟨by omega, fun v hv => by have := h1.2 v hv; omega⟩
 · have hvd : ¬ j49 t := fun ht => hn ⟨ht.1, ht.2.1⟩
   have hn' : ¬ ((1 : Int) ≤ t.length ∧ (t.length : Int) ≤ 12) := by omega
   simp [hn', hvd, j0x]

def q03 (pg : Pg) : Prop := ∀ r : List Int, r.length ≤ 1048576 → Call pg 65 [ix r] [ix r] (B (!decide (j1r r)))
theorem z1b {pg : Pg} (hp : pg.fn 65 = some j1m) (h66 : j94 pg) : q03 pg := by
 intro r hl
 refine Call.intro hp rfl (by simp) ?_
 show wp _ _ j1m.body (post [.t 2] _ _ _) _
 simp [j1m]
 refine j0e (h66 _ hl) rfl rfl (fun _ => rfl) ?_
 simp

def j44 (t : List (List Int)) : Prop := ∀ r ∈ t, j1r r
instance (t : List (List Int)) : Decidable (j44 t) := by unfold j44; infer_instance

def q3c (pg : Pg) : Prop := ∀ t : List (List Int), t.length ≤ 1048576 → (∀ r ∈ t, r.length ≤ 1048576) → Call pg 51 [tb t] [tb t] (B (decide (j44 t)))
theorem z5k {pg : Pg} (hp : pg.fn 51 = some j1u) (h65 : q03 pg) (h63 : j6k pg) : q3c pg := by
 intro t hl hr
 refine Call.intro hp rfl (by simp) ?_
 show wp _ _ j1u.body (post [.t 2] _ _ _) _
 simp [j1u]
 refine j0e (h63 t (fun r => !decide (j1r r)) 65 [] hl rfl rfl (fun r hm => h65 r (hr r hm))) rfl rfl (fun _ => rfl) ?_
 simp only [j44]
 cases h : t.any fun r => !decide (j1r r) with
 | true =>
  obtain ⟨r, h1, h2⟩ := List.any_eq_true.1 h
  have : ¬ ∀ r, r ∈ t → j1r r := fun hh => by simp [hh r h1] at h2
  simp [this]
 | false =>
  have : ∀ r, r ∈ t → j1r r := fun r hr => by
   have := List.any_eq_false.1 h r hr
   simpa using this
  simp
  exact decide_eq_true this

def z4y (pg : Pg) : Prop := ∀ a b : List Int, a.length ≤ 1048576 → Call pg 67 [ix a, ix b] [ix a, ix b] (B (decide (a = b)))
theorem v4l {pg : Pg} (hp : pg.fn 67 = some j4g) : z4y pg := by
 intro a b ha
 refine Call.intro hp rfl (by simp) ?_
 show wp _ _ j4g.body (post [.t 4] _ _ _) _
 by_cases hl : a.length = b.length
 · simp [j4g, hl]
   refine j0a (fun k e => (∀ i, i < k → a[i]? = b[i]?) ∧ e = fr [(0, some (.val (ix a))), (1, some (.val (ix b))), (5, some (.val (I k)))]) a.length ?_ ?_ 0 _ (by omega) ?_
   · rintro k e hk ⟨h1, rfl⟩
     have hk2 : k < b.length := by omega
     by_cases hne : a[k] = b[k]
     · simp [hk, hk2, hne]
       refine ⟨by omega, fun i hi => ?_⟩
       rcases Nat.lt_or_ge i k with h2 | h2
       · exact h1 i h2
       · have : i = k := by omega
         subst this
         rw [List.getElem?_eq_getElem hk, List.getElem?_eq_getElem hk2, hne]
     · simp [hk, hk2, hne]
       intro h2
       exact hne (by simp [h2])
   · rintro e ⟨h1, rfl⟩
     simp [hl]
     apply List.ext_getElem?
     intro i
     rcases Nat.lt_or_ge i a.length with h2 | h2
     · exact h1 i h2
     · rw [List.getElem?_eq_none h2, List.getElem?_eq_none (by omega)]
   · exact ⟨fun i hi => by omega, by simp⟩
 · have : a ≠ b := fun h => hl (by rw [h])
   have h2 : (a.length : Int) ≠ b.length := by omega
   simp [j4g, h2, this]


abbrev sol (f s : List (List Int)) : T := .agg [tb f, tb s]
def j3c (f s : List (List Int)) : Prop := j49 f ∧ j49 s ∧ f.length = s.length
instance (f s : List (List Int)) : Decidable (j3c f s) := by unfold j3c; infer_instance

def fits (t : List (List Int)) : Prop := t.length ≤ 1048576 ∧ ∀ r ∈ t, r.length ≤ 1048576

def j7l (pg : Pg) (n : Nat) : Prop := ∀ f s : List (List Int), fits f → fits s → Call pg n [sol f s] [sol f s] (B (decide (j3c f s)))
theorem w2w {pg : Pg} (hp : pg.fn 56 = some j54) (h46 : q02 pg 46) : j7l pg 56 := by
 intro f s hf hs
 refine Call.intro hp rfl (by simp) ?_
 show wp _ _ j54.body (post [.t 2] _ _ _) _
 simp [j54]
 refine j0e (h46 _ hf.1 hf.2) rfl rfl (fun _ => rfl) ?_
 by_cases h1 : j49 f
 · simp [h1]
   refine j0e (h46 _ hs.1 hs.2) rfl rfl (fun _ => rfl) ?_
   by_cases h2 : j49 s
   · simp [h2, j3c, h1]
     omega
   · simp [h2, j3c, j0x]
 · simp [h1, j3c, j0x]
theorem z1f {pg : Pg} (hp : pg.fn 59 = some j4d) (h50 : q02 pg 50) : j7l pg 59 := by
 intro f s hf hs
 refine Call.intro hp rfl (by simp) ?_
 show wp _ _ j4d.body (post [.t 2] _ _ _) _
 simp [j4d]
 refine j0e (h50 _ hf.1 hf.2) rfl rfl (fun _ => rfl) ?_
 by_cases h1 : j49 f
 · simp [h1]
   refine j0e (h50 _ hs.1 hs.2) rfl rfl (fun _ => rfl) ?_
   by_cases h2 : j49 s
   · simp [h2, j3c, h1]
     omega
   · simp [h2, j3c, j0x]
 · simp [h1, j3c, j0x]


def v2 (t : List (List Int)) (x y : Nat) : Int := (t.getD x []).getD y 0
theorem j2a {t : List (List Int)} {x y : Nat} (hx : x < t.length) (hy : y < (t[x]).length) : (t[x])[y] = v2 t x y := by
 simp [v2, List.getD_eq_getElem?_getD, hx, hy]
theorem Tab.row {t : List (List Int)} (h : Tab t) {x : Nat} (hx : x < t.length) : (t[x]).length = t.length := (h _ (List.getElem_mem hx)).1
theorem Tab.nonneg {t : List (List Int)} (h : Tab t) (x y : Nat) : 0 ≤ v2 t x y := by
 unfold v2
 rw [List.getD_eq_getElem?_getD, List.getD_eq_getElem?_getD]
 cases h1 : t[x]? with
 | none => simp
 | some r =>
  simp only [Option.getD_some]
  cases h2 : r[y]? with
  | none => simp
  | some v => exact ((h r (List.mem_of_getElem? h1)).2 v (List.mem_of_getElem? h2)).1
theorem Tab.lt {t : List (List Int)} (h : Tab t) (h0 : 0 < t.length) (x y : Nat) : v2 t x y < t.length := by
 unfold v2
 rw [List.getD_eq_getElem?_getD, List.getD_eq_getElem?_getD]
 cases h1 : t[x]? with
 | none => simp; omega
 | some r =>
  simp only [Option.getD_some]
  cases h2 : r[y]? with
  | none => simp; omega
  | some v => exact ((h r (List.mem_of_getElem? h1)).2 v (List.mem_of_getElem? h2)).2
theorem Tab.ltN {t : List (List Int)} (h : Tab t) (h0 : 0 < t.length) (x y : Nat) : (v2 t x y).toNat < t.length := by
 have := h.lt h0 x y
 have := h.nonneg x y
 omega

@[simp] theorem y1x (a b : Nat) : (a : Int).tdiv (b : Int) = ((a / b : Nat) : Int) := rfl
@[simp] theorem y1w (a b : Nat) : (a : Int).tmod (b : Int) = ((a % b : Nat) : Int) := rfl

theorem least {P : Nat → Prop} {m : Nat} (h : ∃ k, k < m ∧ P k) : ∃ k, k < m ∧ P k ∧ ∀ i, i < k → ¬ P i := by
 obtain ⟨k, h1, h2⟩ := h
 induction k using Nat.strongRecOn with
 | _ k ih =>
  by_cases hh : ∃ i, i < k ∧ P i
  · obtain ⟨i, h3, h4⟩ := hh
    exact ih i h3 (by omega) h4
  · exact ⟨k, h1, h2, fun i hi hp => hh ⟨i, hi, hp⟩⟩

end Go.Mch
namespace Go.Mch

def ownI : Option (List Int) → T
 | none => nil
 | some xs => .mem .own (some 1) (xs.map I)

def up (k : Int) (n : Nat) : List Int := (List.range n).map fun i : Nat => k + i
@[simp] theorem z7t (k : Int) (n : Nat) : (up k n).length = n := by simp [up]

def held : List Int → Int → Int
 | [], k => k
 | x :: xs, k => if x = k then held xs (k + 1) else -1

theorem w0u : ∀ (n : Nat) (k : Int), held (up k n) k = k + n
 | 0, k => by simp [up, held]
 | n + 1, k => by
  have h : up k (n + 1) = k :: up (k + 1) n := by
   simp only [up, List.range_succ_eq_map, List.map_cons, List.map_map]
   congr 1
   · simp
   · apply List.map_congr_left
     intro i _
     simp only [Function.comp]
     omega
  rw [h, held, if_pos rfl, w0u n (k + 1)]
  omega

def w2i (pg : Pg) : Prop := ∀ (a : Rw Int) (k : Int), (lst a).length ≤ 1048576 → -1 ≤ k → k ≤ 4611686018427387904 → Call pg 13 [rawI a, I k] [rawI a, I k] (I (held (lst a) k))
def upto (k : Int) (xs : List Int) (j : Nat) : List Int := (List.range xs.length).map fun i : Nat => if i < j then k + i else xs.getD i 0
@[simp] theorem w6e (k : Int) (xs : List Int) (j : Nat) : (upto k xs j).length = xs.length := by simp [upto]
def w2e (pg : Pg) : Prop := ∀ (a : Option (List Int)) (k : Int), (lso a).length ≤ 1048576 → -1 ≤ k → k ≤ 4611686018427387904 → Call pg 12 [ownI a, I k] [ownI (a.map fun xs => up k xs.length), I k] (I (k + (lso a).length))
theorem w2e.at {pg : Pg} (h : w2e pg) (xs : List Int) (k : Int) (h1 : xs.length ≤ 1048576) (h2 : -1 ≤ k) (h3 : k ≤ 4611686018427387904) : Call pg 12 [.mem .own (some 1) (xs.map I), I k] [.mem .own (some 1) ((up k xs.length).map I), I k] (I (k + xs.length)) := h (some xs) k h1 h2 h3

def ownT : Option (List (List Int)) → T
 | none => nil
 | some xss => .mem .own (some 1) (rows xss)

def kAt (k : Int) (xss : List (List Int)) (j : Nat) : Int := k + ((xss.take j).map List.length).sum
def j48 (xss : List (List Int)) : Prop := xss.length ≤ 1048576 ∧ ∀ r ∈ xss, r.length ≤ 1048576

theorem w31 (k : Int) (xss : List (List Int)) : kAt k xss 0 = k := by simp [kAt]
theorem z3u (k : Int) (xss : List (List Int)) {j : Nat} (hj : j < xss.length) : kAt k xss (j + 1) = kAt k xss j + (xss[j]).length := by
 unfold kAt
 rw [List.take_succ_eq_append_getElem hj, List.map_append, List.sum_append]
 simp only [List.map_cons, List.map_nil, List.sum_cons, List.sum_nil, Int.natCast_add]
 omega
theorem z3v {k : Int} {xss : List (List Int)} (h : j48 xss) : ∀ j, j ≤ xss.length → k ≤ kAt k xss j ∧ kAt k xss j ≤ k + j * 1048576
 | 0, _ => by simp [kAt]
 | j + 1, hj => by
  have h1 := z3v (k := k) h j (by omega)
  have h2 := h.2 _ (List.getElem_mem (show j < xss.length by omega))
  rw [z3u k xss (by omega)]
  simp only [Int.natCast_add]
  omega

def upT (k : Int) (xss : List (List Int)) : List (List Int) := (List.range xss.length).map fun j => up (kAt k xss j) (xss.getD j []).length
@[simp] theorem v0c (k : Int) (xss : List (List Int)) : (upT k xss).length = xss.length := by simp [upT]
def q2w : List (List Int) → Int → Int
 | [], k => k
 | r :: rs, k => if held r k < 0 then -1 else q2w rs (held r k)

theorem z4a : ∀ (n : Nat) (xss : List (List Int)) (k : Int) (j : Nat), 0 ≤ k → j + n = xss.length → q2w ((upT k xss).drop j) (kAt k xss j) = kAt k xss xss.length
 | 0, xss, k, j, _, h => by
  have : j = xss.length := by omega
  subst this
  have : (upT k xss).drop xss.length = [] := by rw [List.drop_eq_nil_iff]; simp
  rw [this]; rfl
 | n + 1, xss, k, j, hk, h => by
  have hj : j < xss.length := by omega
  have hd : (upT k xss).drop j = (upT k xss)[j]'(by simpa using hj) :: (upT k xss).drop (j + 1) := List.drop_eq_getElem_cons (by simpa using hj)
  have hg : (upT k xss)[j]'(by simpa using hj) = up (kAt k xss j) (xss[j]).length := by
   simp [upT, List.getD_eq_getElem?_getD, List.getElem?_eq_getElem hj]
  have hp : 0 ≤ kAt k xss j := by unfold kAt; omega
  rw [hd, hg, q2w, w0u, if_neg (by omega), ← z3u k xss hj]
  exact z4a n xss k (j + 1) hk (by omega)
theorem q1s (xss : List (List Int)) (k : Int) (hk : 0 ≤ k) : q2w (upT k xss) k = kAt k xss xss.length := by
 have := z4a xss.length xss k 0 hk (by omega)
 rwa [w31, List.drop_zero] at this

def w2h (pg : Pg) : Prop := ∀ (a : Rw (Rw Int)) (k : Int), small a → -1 ≤ k → k ≤ 2305843009213693952 → Call pg 24 [rawT a, I k] [rawT a, I k] (I (q2w ((lst a).map lst) k))
def w2d (pg : Pg) : Prop := ∀ (a : Option (List (List Int))) (k : Int), j48 (lso a) → 0 ≤ k → k ≤ 2305843009213693952 → Call pg 23 [ownT a, I k] [ownT (a.map (upT k)), I k] (I (kAt k (lso a) (lso a).length))
theorem w2d.at {pg : Pg} (h : w2d pg) (xss : List (List Int)) (k : Int) (h1 : j48 xss) (h2 : 0 ≤ k) (h3 : k ≤ 2305843009213693952) : Call pg 23 [.mem .own (some 1) (rows xss), I k] [.mem .own (some 1) (rows (upT k xss)), I k] (I (kAt k xss xss.length)) := h (some xss) k h1 h2 h3
end Go.Mch
namespace Go.Mch

def coll (f s : List (List Int)) (a b : Nat) : Prop :=
 a ≠ b ∧ v2 f (a / f.length) (a % f.length) = v2 f (b / f.length) (b % f.length) ∧ v2 s (a / f.length) (a % f.length) = v2 s (b / f.length) (b % f.length)
def Inj (f s : List (List Int)) : Prop := ∀ a, a < f.length * f.length → ∀ b, b < f.length * f.length → ¬ coll f s a b
instance (f s : List (List Int)) (a b : Nat) : Decidable (coll f s a b) := by unfold coll; infer_instance
instance (f s : List (List Int)) : Decidable (Inj f s) := by unfold Inj; infer_instance

structure PM (f s : List (List Int)) : Prop where
 tf : Tab f
 ts : Tab s
 len : s.length = f.length
 pos : 0 < f.length
 small : f.length ≤ 12
theorem PM.of {f s : List (List Int)} (h : j3c f s) : PM f s := ⟨h.1.2.2, h.2.1.2.2, h.2.2.symm, h.1.1, h.1.2.1⟩

theorem q23 {n a : Nat} (h : a < n * n) : a / n < n ∧ a % n < n := by
 have hn : 0 < n := by
  rcases Nat.eq_zero_or_pos n with h0 | h0
  · subst h0; simp at h
  · exact h0
 exact ⟨Nat.div_lt_of_lt_mul h, Nat.mod_lt _ hn⟩

def q8x (pg : Pg) : Prop := ∀ f s : List (List Int), PM f s → ∃ l : List Int, (l.length = 0 ↔ Inj f s) ∧ l.length ≤ 4 ∧ Call pg 57 [sol f s] [sol f s] (.mem .own (some 1) (l.map I))
set_option maxRecDepth 10000 in
theorem w2z {pg : Pg} (hp : pg.fn 57 = some j1h) : q8x pg := by
 intro f s h
 have h0 := h.pos
 have h12 := h.small
 have h0' : f.length ≠ 0 := by omega
 have hsq : f.length * f.length ≤ 144 := Nat.mul_le_mul h12 h12
 have hsq' : ((f.length : Int) * f.length) ≤ 144 := by exact_mod_cast hsq
 have hsq0 : 0 ≤ ((f.length : Int) * f.length) := by exact_mod_cast Nat.zero_le _
 have fr' := fun x hx => h.tf.row (x := x) hx
 have sr' : ∀ x (hx : x < s.length), (s[x]).length = f.length := fun x hx => (h.ts.row hx).trans h.len
 have loop : ∀ (a b : Nat), a < f.length * f.length → b < f.length * f.length → coll f s a b → True := fun _ _ _ _ _ => trivial
 by_cases hex : ∃ a, a < f.length * f.length ∧ ∃ b, b < f.length * f.length ∧ coll f s a b
 · obtain ⟨a, ha, hb, hmin⟩ := least hex
   obtain ⟨b, hb, hc, hmin2⟩ := least hb
   have hni : ¬ Inj f s := fun hi => hi a ha b hb hc
   refine ⟨[((a / f.length : Nat) : Int), ((a % f.length : Nat) : Int), ((b / f.length : Nat) : Int), ((b % f.length : Nat) : Int)], by simp [hni], by simp, Call.intro hp rfl (by simp) ?_⟩
   show wp _ _ j1h.body (post [.t 2] _ _ _) _
   simp [j1h]
   refine j0a (fun k e => k ≤ a ∧ e = fr [(1, some (.val (.mem .own none [tb f, tb s]))), (3, some (.val (I f.length))), (4, some (.val (I k)))]) (f.length * f.length) ?_ ?_ 0 _ (by omega) ?_
   · rintro k e hk ⟨h1, rfl⟩
     have hk1 := q23 hk
     have hki : (k : Int) < (f.length : Int) * f.length := by exact_mod_cast hk
     have hq1 : 0 ≤ (k : Int) / f.length ∧ (k : Int) / f.length < f.length := ⟨by exact_mod_cast Nat.zero_le _, by exact_mod_cast hk1.1⟩
     have hr1 : 0 ≤ (k : Int) % f.length ∧ (k : Int) % f.length < f.length := ⟨by exact_mod_cast Nat.zero_le _, by exact_mod_cast hk1.2⟩
     have ht1 : ((k : Int) / f.length).toNat = k / f.length := by rw [← Int.natCast_ediv]; exact Int.toNat_natCast _
     have hu1 : ((k : Int) % f.length).toNat = k % f.length := by rw [← Int.natCast_emod]; exact Int.toNat_natCast _
     simp [hki]
     refine ⟨by omega, ?_⟩
     rcases Nat.lt_or_ge k a with hka | hka
     · refine j0a (fun j e => e = fr [(1, some (.val (.mem .own none [tb f, tb s]))), (3, some (.val (I f.length))), (4, some (.val (I k))), (5, some (.val (I j)))]) (f.length * f.length) ?_ ?_ 0 _ (by omega) ?_
       · rintro j e hj rfl
         have hj1 := q23 hj
         have hji : (j : Int) < (f.length : Int) * f.length := by exact_mod_cast hj
         have hq2 : 0 ≤ (j : Int) / f.length ∧ (j : Int) / f.length < f.length := ⟨by exact_mod_cast Nat.zero_le _, by exact_mod_cast hj1.1⟩
         have hr2 : 0 ≤ (j : Int) % f.length ∧ (j : Int) % f.length < f.length := ⟨by exact_mod_cast Nat.zero_le _, by exact_mod_cast hj1.2⟩
         have ht2 : ((j : Int) / f.length).toNat = j / f.length := by rw [← Int.natCast_ediv]; exact Int.toNat_natCast _
         have hu2 : ((j : Int) % f.length).toNat = j % f.length := by rw [← Int.natCast_emod]; exact Int.toNat_natCast _
         have hnc : ¬ coll f s k j := fun hcc => hmin k hka ⟨j, hj, hcc⟩
         by_cases hkj : k = j
         · subst hkj
           clear hj hj1 hnc
           simp [hji, h0', j0x]
           omega
         · have hkjI : (k : Int) ≠ j := by omega
           by_cases hv1 : v2 f (k / f.length) (k % f.length) = v2 f (j / f.length) (j % f.length)
           · by_cases hv2 : v2 s (k / f.length) (k % f.length) = v2 s (j / f.length) (j % f.length)
             · have hcc : coll f s k j := ⟨hkj, hv1, hv2⟩
               exact (hnc hcc).elim
             · simp [hkjI, hk1, hj1, hq1, hq2, hr1, hr2, ht1, ht2, hu1, hu2, hji, h0', fr', sr', h.len, j2a, hv1, hv2]
               omega
           · simp [hkjI, hk1, hj1, hq1, hq2, hr1, hr2, ht1, ht2, hu1, hu2, hji, h0', fr', j2a, j0x, hv1]
             omega
       · rintro e rfl
         simp
         omega
       · simp
     · have hka2 : k = a := by omega
       subst hka2
       refine j0a (fun j e => j ≤ b ∧ e = fr [(1, some (.val (.mem .own none [tb f, tb s]))), (3, some (.val (I f.length))), (4, some (.val (I k))), (5, some (.val (I j)))]) (f.length * f.length) ?_ ?_ 0 _ (by omega) ?_
       · rintro j e hj ⟨hjb, rfl⟩
         have hj1 := q23 hj
         have hji : (j : Int) < (f.length : Int) * f.length := by exact_mod_cast hj
         have hq2 : 0 ≤ (j : Int) / f.length ∧ (j : Int) / f.length < f.length := ⟨by exact_mod_cast Nat.zero_le _, by exact_mod_cast hj1.1⟩
         have hr2 : 0 ≤ (j : Int) % f.length ∧ (j : Int) % f.length < f.length := ⟨by exact_mod_cast Nat.zero_le _, by exact_mod_cast hj1.2⟩
         have ht2 : ((j : Int) / f.length).toNat = j / f.length := by rw [← Int.natCast_ediv]; exact Int.toNat_natCast _
         have hu2 : ((j : Int) % f.length).toNat = j % f.length := by rw [← Int.natCast_emod]; exact Int.toNat_natCast _
         rcases Nat.lt_or_ge j b with hlt | hge
         · have hnc : ¬ coll f s k j := hmin2 j hlt
           by_cases hkj : k = j
           · subst hkj
             clear hj hj1 hnc
             simp [hji, h0', j0x]
             omega
           · have hkjI : (k : Int) ≠ j := by omega
             by_cases hv1 : v2 f (k / f.length) (k % f.length) = v2 f (j / f.length) (j % f.length)
             · by_cases hv2 : v2 s (k / f.length) (k % f.length) = v2 s (j / f.length) (j % f.length)
               · have hcc : coll f s k j := ⟨hkj, hv1, hv2⟩
                 exact (hnc hcc).elim
               · simp [hkjI, hk1, hj1, hq1, hq2, hr1, hr2, ht1, ht2, hu1, hu2, hji, h0', fr', sr', h.len, j2a, hv1, hv2]
                 omega
             · simp [hkjI, hk1, hj1, hq1, hq2, hr1, hr2, ht1, ht2, hu1, hu2, hji, h0', fr', j2a, j0x, hv1]
               omega
         · have hjb2 : j = b := by omega
           subst hjb2
           obtain ⟨hkj, hv1, hv2⟩ := hc
           have hkjI : (k : Int) ≠ j := by omega
           simp [hkjI, hk1, hj1, hq1, hq2, hr1, hr2, ht1, ht2, hu1, hu2, hji, h0', fr', sr', h.len, j2a, hv1, hv2]
           try omega
       · rintro e ⟨h1, rfl⟩
         omega
       · simp
   · rintro e ⟨h1, rfl⟩
     omega
   · simp
 · have hi : Inj f s := fun a ha b hb hc => hex ⟨a, ha, b, hb, hc⟩
   refine ⟨[], by simp [hi], by simp, Call.intro hp rfl (by simp) ?_⟩
   show wp _ _ j1h.body (post [.t 2] _ _ _) _
   simp [j1h]
   refine j0a (fun k e => e = fr [(1, some (.val (.mem .own none [tb f, tb s]))), (3, some (.val (I f.length))), (4, some (.val (I k)))]) (f.length * f.length) ?_ ?_ 0 _ (by omega) ?_
   · rintro k e hk rfl
     have hk1 := q23 hk
     have hki : (k : Int) < (f.length : Int) * f.length := by exact_mod_cast hk
     have hq1 : 0 ≤ (k : Int) / f.length ∧ (k : Int) / f.length < f.length := ⟨by exact_mod_cast Nat.zero_le _, by exact_mod_cast hk1.1⟩
     have hr1 : 0 ≤ (k : Int) % f.length ∧ (k : Int) % f.length < f.length := ⟨by exact_mod_cast Nat.zero_le _, by exact_mod_cast hk1.2⟩
     have ht1 : ((k : Int) / f.length).toNat = k / f.length := by rw [← Int.natCast_ediv]; exact Int.toNat_natCast _
     have hu1 : ((k : Int) % f.length).toNat = k % f.length := by rw [← Int.natCast_emod]; exact Int.toNat_natCast _
     simp [hki]
     refine ⟨by omega, ?_⟩
     refine j0a (fun j e => e = fr [(1, some (.val (.mem .own none [tb f, tb s]))), (3, some (.val (I f.length))), (4, some (.val (I k))), (5, some (.val (I j)))]) (f.length * f.length) ?_ ?_ 0 _ (by omega) ?_
     · rintro j e hj rfl
       have hj1 := q23 hj
       have hji : (j : Int) < (f.length : Int) * f.length := by exact_mod_cast hj
       have hq2 : 0 ≤ (j : Int) / f.length ∧ (j : Int) / f.length < f.length := ⟨by exact_mod_cast Nat.zero_le _, by exact_mod_cast hj1.1⟩
       have hr2 : 0 ≤ (j : Int) % f.length ∧ (j : Int) % f.length < f.length := ⟨by exact_mod_cast Nat.zero_le _, by exact_mod_cast hj1.2⟩
       have ht2 : ((j : Int) / f.length).toNat = j / f.length := by rw [← Int.natCast_ediv]; exact Int.toNat_natCast _
       have hu2 : ((j : Int) % f.length).toNat = j % f.length := by rw [← Int.natCast_emod]; exact Int.toNat_natCast _
       have hnc : ¬ coll f s k j := hi k hk j hj
       by_cases hkj : k = j
       · subst hkj
         clear hj hj1 hnc
         simp [hji, h0', j0x]
         omega
       · have hkjI : (k : Int) ≠ j := by omega
         by_cases hv1 : v2 f (k / f.length) (k % f.length) = v2 f (j / f.length) (j % f.length)
         · by_cases hv2 : v2 s (k / f.length) (k % f.length) = v2 s (j / f.length) (j % f.length)
           · have hcc : coll f s k j := ⟨hkj, hv1, hv2⟩
             exact (hnc hcc).elim
           · simp [hkjI, hk1, hj1, hq1, hq2, hr1, hr2, ht1, ht2, hu1, hu2, hji, h0', fr', sr', h.len, j2a, hv1, hv2]
             omega
         · simp [hkjI, hk1, hj1, hq1, hq2, hr1, hr2, ht1, ht2, hu1, hu2, hji, h0', fr', j2a, j0x, hv1]
           omega
     · rintro e rfl
       simp
       omega
     · simp
   · rintro e rfl
     simp
     try omega
   · simp

def q8w (pg : Pg) : Prop := ∀ f s : List (List Int), PM f s → ∃ o : Option (List Int), (o = none ↔ Inj f s) ∧ Call pg 60 [sol f s] [sol f s] (ownI o)
set_option maxRecDepth 10000 in
theorem w2y {pg : Pg} (hp : pg.fn 60 = some j1q) : q8w pg := by
 intro f s h
 have h0 := h.pos
 have h12 := h.small
 have h0' : f.length ≠ 0 := by omega
 have hsq : f.length * f.length ≤ 144 := Nat.mul_le_mul h12 h12
 have hsq' : ((f.length : Int) * f.length) ≤ 144 := by exact_mod_cast hsq
 have hsq0 : 0 ≤ ((f.length : Int) * f.length) := by exact_mod_cast Nat.zero_le _
 have fr' := fun x hx => h.tf.row (x := x) hx
 have sr' : ∀ x (hx : x < s.length), (s[x]).length = f.length := fun x hx => (h.ts.row hx).trans h.len
 have loop : ∀ (a b : Nat), a < f.length * f.length → b < f.length * f.length → coll f s a b → True := fun _ _ _ _ _ => trivial
 by_cases hex : ∃ a, a < f.length * f.length ∧ ∃ b, b < f.length * f.length ∧ coll f s a b
 · obtain ⟨a, ha, hb, hmin⟩ := least hex
   obtain ⟨b, hb, hc, hmin2⟩ := least hb
   have hni : ¬ Inj f s := fun hi => hi a ha b hb hc
   refine ⟨some [((a / f.length : Nat) : Int), ((a % f.length : Nat) : Int), ((b / f.length : Nat) : Int), ((b % f.length : Nat) : Int)], by simp [hni], Call.intro hp rfl (by simp) ?_⟩
   simp only [ownI]
   show wp _ _ j1q.body (post [.t 2] _ _ _) _
   simp [j1q]
   refine ⟨by omega, ?_⟩
   refine j0a (fun k e => k ≤ a ∧ e = fr [(1, some (.val (.mem .own none [tb f, tb s]))), (3, some (.val (I f.length))), (15, some (.val (I ((f.length : Int) * f.length)))), (16, some (.val (I k)))]) (f.length * f.length) ?_ ?_ 0 _ (by omega) ?_
   · rintro k e hk ⟨h1, rfl⟩
     have hk1 := q23 hk
     have hki : (k : Int) < (f.length : Int) * f.length := by exact_mod_cast hk
     have hq1 : 0 ≤ (k : Int) / f.length ∧ (k : Int) / f.length < f.length := ⟨by exact_mod_cast Nat.zero_le _, by exact_mod_cast hk1.1⟩
     have hr1 : 0 ≤ (k : Int) % f.length ∧ (k : Int) % f.length < f.length := ⟨by exact_mod_cast Nat.zero_le _, by exact_mod_cast hk1.2⟩
     have ht1 : ((k : Int) / f.length).toNat = k / f.length := by rw [← Int.natCast_ediv]; exact Int.toNat_natCast _
     have hu1 : ((k : Int) % f.length).toNat = k % f.length := by rw [← Int.natCast_emod]; exact Int.toNat_natCast _
     simp [hki, h0']
     refine ⟨by omega, by omega, ?_⟩
     rcases Nat.lt_or_ge k a with hka | hka
     · refine j0a (fun j e => e = fr [(1, some (.val (.mem .own none [tb f, tb s]))), (3, some (.val (I f.length))), (4, some (.val (I k))), (5, some (.val (I ((k / f.length : Nat) : Int)))), (6, some (.val (I ((k % f.length : Nat) : Int)))), (15, some (.val (I ((f.length : Int) * f.length)))), (16, some (.val (I k))), (27, some (.val (I ((f.length : Int) * f.length)))), (28, some (.val (I j)))]) (f.length * f.length) ?_ ?_ 0 _ (by omega) ?_
       · rintro j e hj rfl
         have hj1 := q23 hj
         have hji : (j : Int) < (f.length : Int) * f.length := by exact_mod_cast hj
         have hq2 : 0 ≤ (j : Int) / f.length ∧ (j : Int) / f.length < f.length := ⟨by exact_mod_cast Nat.zero_le _, by exact_mod_cast hj1.1⟩
         have hr2 : 0 ≤ (j : Int) % f.length ∧ (j : Int) % f.length < f.length := ⟨by exact_mod_cast Nat.zero_le _, by exact_mod_cast hj1.2⟩
         have ht2 : ((j : Int) / f.length).toNat = j / f.length := by rw [← Int.natCast_ediv]; exact Int.toNat_natCast _
         have hu2 : ((j : Int) % f.length).toNat = j % f.length := by rw [← Int.natCast_emod]; exact Int.toNat_natCast _
         have hnc : ¬ coll f s k j := fun hcc => hmin k hka ⟨j, hj, hcc⟩
         by_cases hkj : k = j
         · subst hkj
           clear hj hj1 hnc
           simp [hji, h0', j0x]
           omega
         · have hkjI : (k : Int) ≠ j := by omega
           by_cases hv1 : v2 f (k / f.length) (k % f.length) = v2 f (j / f.length) (j % f.length)
           · by_cases hv2 : v2 s (k / f.length) (k % f.length) = v2 s (j / f.length) (j % f.length)
             · have hcc : coll f s k j := ⟨hkj, hv1, hv2⟩
               exact (hnc hcc).elim
             · simp [hkjI, hk1, hj1, hq1, hq2, hr1, hr2, ht1, ht2, hu1, hu2, hji, h0', fr', sr', h.len, j2a, hv1, hv2]
               omega
           · simp [hkjI, hk1, hj1, hq1, hq2, hr1, hr2, ht1, ht2, hu1, hu2, hji, h0', fr', j2a, j0x, hv1]
             omega
       · rintro e rfl
         simp
         omega
       · simp
     · have hka2 : k = a := by omega
       subst hka2
       refine j0a (fun j e => j ≤ b ∧ e = fr [(1, some (.val (.mem .own none [tb f, tb s]))), (3, some (.val (I f.length))), (4, some (.val (I k))), (5, some (.val (I ((k / f.length : Nat) : Int)))), (6, some (.val (I ((k % f.length : Nat) : Int)))), (15, some (.val (I ((f.length : Int) * f.length)))), (16, some (.val (I k))), (27, some (.val (I ((f.length : Int) * f.length)))), (28, some (.val (I j)))]) (f.length * f.length) ?_ ?_ 0 _ (by omega) ?_
       · rintro j e hj ⟨hjb, rfl⟩
         have hj1 := q23 hj
         have hji : (j : Int) < (f.length : Int) * f.length := by exact_mod_cast hj
         have hq2 : 0 ≤ (j : Int) / f.length ∧ (j : Int) / f.length < f.length := ⟨by exact_mod_cast Nat.zero_le _, by exact_mod_cast hj1.1⟩
         have hr2 : 0 ≤ (j : Int) % f.length ∧ (j : Int) % f.length < f.length := ⟨by exact_mod_cast Nat.zero_le _, by exact_mod_cast hj1.2⟩
         have ht2 : ((j : Int) / f.length).toNat = j / f.length := by rw [← Int.natCast_ediv]; exact Int.toNat_natCast _
         have hu2 : ((j : Int) % f.length).toNat = j % f.length := by rw [← Int.natCast_emod]; exact Int.toNat_natCast _
         rcases Nat.lt_or_ge j b with hlt | hge
         · have hnc : ¬ coll f s k j := hmin2 j hlt
           by_cases hkj : k = j
           · subst hkj
             clear hj hj1 hnc
             simp [hji, h0', j0x]
             omega
           · have hkjI : (k : Int) ≠ j := by omega
             by_cases hv1 : v2 f (k / f.length) (k % f.length) = v2 f (j / f.length) (j % f.length)
             · by_cases hv2 : v2 s (k / f.length) (k % f.length) = v2 s (j / f.length) (j % f.length)
               · have hcc : coll f s k j := ⟨hkj, hv1, hv2⟩
                 exact (hnc hcc).elim
               · simp [hkjI, hk1, hj1, hq1, hq2, hr1, hr2, ht1, ht2, hu1, hu2, hji, h0', fr', sr', h.len, j2a, hv1, hv2]
                 omega
             · simp [hkjI, hk1, hj1, hq1, hq2, hr1, hr2, ht1, ht2, hu1, hu2, hji, h0', fr', j2a, j0x, hv1]
               omega
         · have hjb2 : j = b := by omega
           subst hjb2
           obtain ⟨hkj, hv1, hv2⟩ := hc
           have hkjI : (k : Int) ≠ j := by omega
           simp [hkjI, hk1, hj1, hq1, hq2, hr1, hr2, ht1, ht2, hu1, hu2, hji, h0', fr', sr', h.len, j2a, hv1, hv2]
           try omega
       · rintro e ⟨h1, rfl⟩
         omega
       · simp
   · rintro e ⟨h1, rfl⟩
     omega
   · simp
 · have hi : Inj f s := fun a ha b hb hc => hex ⟨a, ha, b, hb, hc⟩
   refine ⟨none, by simp [hi], Call.intro hp rfl (by simp) ?_⟩
   simp only [ownI]
   show wp _ _ j1q.body (post [.t 2] _ _ _) _
   simp [j1q]
   refine ⟨by omega, ?_⟩
   refine j0a (fun k e => e = fr [(1, some (.val (.mem .own none [tb f, tb s]))), (3, some (.val (I f.length))), (15, some (.val (I ((f.length : Int) * f.length)))), (16, some (.val (I k)))]) (f.length * f.length) ?_ ?_ 0 _ (by omega) ?_
   · rintro k e hk rfl
     have hk1 := q23 hk
     have hki : (k : Int) < (f.length : Int) * f.length := by exact_mod_cast hk
     have hq1 : 0 ≤ (k : Int) / f.length ∧ (k : Int) / f.length < f.length := ⟨by exact_mod_cast Nat.zero_le _, by exact_mod_cast hk1.1⟩
     have hr1 : 0 ≤ (k : Int) % f.length ∧ (k : Int) % f.length < f.length := ⟨by exact_mod_cast Nat.zero_le _, by exact_mod_cast hk1.2⟩
     have ht1 : ((k : Int) / f.length).toNat = k / f.length := by rw [← Int.natCast_ediv]; exact Int.toNat_natCast _
     have hu1 : ((k : Int) % f.length).toNat = k % f.length := by rw [← Int.natCast_emod]; exact Int.toNat_natCast _
     simp [hki, h0']
     refine ⟨by omega, by omega, ?_⟩
     refine j0a (fun j e => e = fr [(1, some (.val (.mem .own none [tb f, tb s]))), (3, some (.val (I f.length))), (4, some (.val (I k))), (5, some (.val (I ((k / f.length : Nat) : Int)))), (6, some (.val (I ((k % f.length : Nat) : Int)))), (15, some (.val (I ((f.length : Int) * f.length)))), (16, some (.val (I k))), (27, some (.val (I ((f.length : Int) * f.length)))), (28, some (.val (I j)))]) (f.length * f.length) ?_ ?_ 0 _ (by omega) ?_
     · rintro j e hj rfl
       have hj1 := q23 hj
       have hji : (j : Int) < (f.length : Int) * f.length := by exact_mod_cast hj
       have hq2 : 0 ≤ (j : Int) / f.length ∧ (j : Int) / f.length < f.length := ⟨by exact_mod_cast Nat.zero_le _, by exact_mod_cast hj1.1⟩
       have hr2 : 0 ≤ (j : Int) % f.length ∧ (j : Int) % f.length < f.length := ⟨by exact_mod_cast Nat.zero_le _, by exact_mod_cast hj1.2⟩
       have ht2 : ((j : Int) / f.length).toNat = j / f.length := by rw [← Int.natCast_ediv]; exact Int.toNat_natCast _
       have hu2 : ((j : Int) % f.length).toNat = j % f.length := by rw [← Int.natCast_emod]; exact Int.toNat_natCast _
       have hnc : ¬ coll f s k j := hi k hk j hj
       by_cases hkj : k = j
       · subst hkj
         clear hj hj1 hnc
         simp [hji, h0', j0x]
         omega
       · have hkjI : (k : Int) ≠ j := by omega
         by_cases hv1 : v2 f (k / f.length) (k % f.length) = v2 f (j / f.length) (j % f.length)
         · by_cases hv2 : v2 s (k / f.length) (k % f.length) = v2 s (j / f.length) (j % f.length)
           · have hcc : coll f s k j := ⟨hkj, hv1, hv2⟩
             exact (hnc hcc).elim
           · simp [hkjI, hk1, hj1, hq1, hq2, hr1, hr2, ht1, ht2, hu1, hu2, hji, h0', fr', sr', h.len, j2a, hv1, hv2]
             omega
         · simp [hkjI, hk1, hj1, hq1, hq2, hr1, hr2, ht1, ht2, hu1, hu2, hji, h0', fr', j2a, j0x, hv1]
           omega
     · rintro e rfl
       simp
       omega
     · simp
   · rintro e rfl
     simp
     try omega
   · simp


end Go.Mch
namespace Go.Mch

def g2 (t : List (List Int)) (x y : Int) : Int := v2 t x.toNat y.toNat
theorem v9i {t : List (List Int)} {x y : Int} (hx : x.toNat < t.length) (hy : y.toNat < (t[x.toNat]).length) : (t[x.toNat])[y.toNat] = g2 t x y := j2a hx hy
def inN (n : Nat) (w : List Int) : Prop := ∀ x ∈ w, 0 ≤ x ∧ x < n
theorem PM.gF {f s : List (List Int)} (h : PM f s) (x y : Int) : 0 ≤ g2 f x y ∧ g2 f x y < f.length := ⟨h.tf.nonneg _ _, h.tf.lt h.pos _ _⟩
theorem PM.gS {f s : List (List Int)} (h : PM f s) (x y : Int) : 0 ≤ g2 s x y ∧ g2 s x y < f.length := ⟨h.ts.nonneg _ _, by have := h.ts.lt (by rw [h.len]; exact h.pos) x.toNat y.toNat; rw [h.len] at this; exact this⟩

def dW (f s : List (List Int)) (w : List Int) (i : Nat) : List Int :=
 (w.set i (g2 f (w.getD i 0) (w.getD (i + 1) 0))).set (i + 1) (g2 s (w.getD i 0) (w.getD (i + 1) 0))
@[simp] theorem v90 (f s : List (List Int)) (w : List Int) (i : Nat) : (dW f s w i).length = w.length := by simp [dW]
theorem w5b {n : Nat} {w : List Int} (h : inN n w) {i : Nat} {v : Int} (hv : 0 ≤ v ∧ v < n) : inN n (w.set i v) := by
 intro x hx
 rcases List.mem_or_eq_of_mem_set hx with h1 | h1
 · exact h x h1
 · rw [h1]; exact hv
theorem z7g {f s : List (List Int)} (h : PM f s) {w : List Int} (hw : inN f.length w) (i : Nat) : inN f.length (dW f s w i) := w5b (w5b hw (h.gF _ _)) (h.gS _ _)

def S_do (pg : Pg) (n : Nat) : Prop := ∀ (f s : List (List Int)) (w : List Int) (i : Nat), PM f s → i + 1 < w.length → w.length ≤ 1048576 → inN f.length w →
 Call pg n [sol f s, ix w, I i] [sol f s, ix w, I i] (.mem .own (some 1) ((dW f s w i).map I))
set_option maxRecDepth 10000 in
theorem do_of {pg : Pg} {n : Nat} (hp : pg.fn n = some j6q) (h31 : w2c pg) : S_do pg n := by
 intro f s w i h hi hl hw
 refine Call.intro hp rfl (by simp) ?_
 show wp _ _ j6q.body (post [.t 6] _ _ _) _
 have h1 := hw _ (List.getElem_mem (show i < w.length by omega))
 have h2 := hw _ (List.getElem_mem hi)
 have fr' := fun x hx => h.tf.row (x := x) hx
 have sr' : ∀ x (hx : x < s.length), (s[x]).length = f.length := fun x hx => (h.ts.row hx).trans h.len
 have hi0 : i < w.length := by omega
 have hiI : (i : Int) + 1 < w.length := by omega
 have e1 : ((i : Int) + 1).toNat = i + 1 := by omega
 have t1 : (w[i]).toNat < f.length := by omega
 have t2 : (w[i + 1]).toNat < f.length := by omega
 have hb : -9223372036854775808 ≤ (i : Int) + 1 ∧ (i : Int) + 1 ≤ 9223372036854775807 := by omega
 have hb0 : 0 ≤ (i : Int) + 1 := by omega
 simp [j6q]
 refine j0e (h31 _ hl) rfl rfl (fun _ => by simp) ?_
 simp [hi, hb, hb0, hi0, hiI, e1, h1, h2, t1, t2, fr', sr', h.len, v9i]
 refine ⟨by omega, by omega, ?_⟩
 simp [dW, hi0, hi]

def ybAt (f s : List (List Int)) (x y z : Nat) : Prop := dW f s (dW f s (dW f s [(x : Int), y, z] 0) 1) 0 = dW f s (dW f s (dW f s [(x : Int), y, z] 1) 0) 1
def YB (f s : List (List Int)) : Prop := ∀ x y z : Nat, x < f.length → y < f.length → z < f.length → ybAt f s x y z
instance (f s : List (List Int)) (x y z : Nat) : Decidable (ybAt f s x y z) := by unfold ybAt; infer_instance

theorem v9s (P : Nat → Nat → Nat → Prop) (n : Nat) : (∀ x y z, x < n → y < n → z < n → ¬ P x y z) ∨
 ∃ a b c, a < n ∧ b < n ∧ c < n ∧ P a b c ∧ ∀ x y z, x < n → y < n → z < n → P x y z → a < x ∨ (a = x ∧ (b < y ∨ (b = y ∧ c ≤ z))) := by
 by_cases h : ∃ a, a < n ∧ ∃ b, b < n ∧ ∃ c, c < n ∧ P a b c
 · right
   obtain ⟨a, ha, hb, h1⟩ := least h
   obtain ⟨b, hb, hc, h2⟩ := least hb
   obtain ⟨c, hc, hp, h3⟩ := least hc
   refine ⟨a, b, c, ha, hb, hc, hp, fun x y z hx hy hz hq => ?_⟩
   rcases Nat.lt_trichotomy a x with g | g | g
   · exact .inl g
   · subst g
     right
     refine ⟨rfl, ?_⟩
     rcases Nat.lt_trichotomy b y with g | g | g
     · exact .inl g
     · subst g
       right
       refine ⟨rfl, ?_⟩
       rcases Nat.lt_or_ge z c with g | g
       · exact absurd hq (h3 z g)
       · exact g
     · exact absurd ⟨z, hz, hq⟩ (h2 y g)
   · exact absurd ⟨y, hy, z, hz, hq⟩ (h1 x g)
 · left
   intro x y z hx hy hz hp
   exact h ⟨x, hx, y, hy, z, hz, hp⟩

theorem fault (f s : List (List Int)) : ∃ (a b c : Nat) (l : List Int), (l.length = 0 ↔ YB f s) ∧ (a < f.length → l = [(a : Int), b, c] ∧ b < f.length ∧ c < f.length ∧ ¬ ybAt f s a b c) ∧ (¬ a < f.length → a = f.length ∧ l = []) ∧ l.length ≤ 3 ∧
 ∀ x y z, x < f.length → y < f.length → z < f.length → ¬ ybAt f s x y z → a < x ∨ (a = x ∧ (b < y ∨ (b = y ∧ c ≤ z))) := by
 rcases v9s (fun x y z => ¬ ybAt f s x y z) f.length with h | ⟨a, b, c, ha, hb, hc, hp, h⟩
 · refine ⟨f.length, 0, 0, [], ⟨fun _ x y z hx hy hz => ?_, fun _ => rfl⟩, fun h => absurd h (Nat.lt_irrefl _), fun _ => ⟨rfl, rfl⟩, by simp, fun x y z hx hy hz hn => absurd hn (h x y z hx hy hz)⟩
   exact Decidable.of_not_not (h x y z hx hy hz)
 · exact ⟨a, b, c, [(a : Int), b, c], ⟨fun h => by simp at h, fun h => absurd (h a b c ha hb hc) hp⟩, fun _ => ⟨rfl, hb, hc, hp⟩, fun h => absurd ha h, by simp, h⟩

def q6a (pg : Pg) : Prop := ∀ f s : List (List Int), PM f s → ∃ l : List Int, (l.length = 0 ↔ YB f s) ∧ l.length ≤ 3 ∧ Call pg 58 [sol f s] [sol f s] (.mem .own (some 1) (l.map I))

theorem w3_in {n x y z : Nat} (hx : x < n) (hy : y < n) (hz : z < n) : inN n [(x : Int), y, z] := by
 intro v hv
 simp at hv
 omega

set_option maxRecDepth 10000 in
theorem z8o {pg : Pg} (hp : pg.fn 58 = some j4r) (h68 : S_do pg 68) (h67 : z4y pg) : q6a pg := by
 intro f s h
 obtain ⟨a, b, c, l, hl, hf1, hf2, hf3, hmin⟩ := fault f s
 have h0 := h.pos
 have h12 := h.small
 refine ⟨l, hl, hf3, Call.intro hp rfl (by simp) ?_⟩
 show wp _ _ j4r.body (post [.t 2] _ _ _) _
 simp [j4r]
 refine j0a (fun x e => x ≤ a ∧ e = fr [(1, some (.val (.mem .own none [tb f, tb s]))), (3, some (.val (I f.length))), (4, some (.val (I x)))]) f.length ?_ ?_ 0 _ (by omega) ?_
 · rintro x e hx ⟨hxa, rfl⟩
   simp [hx]
   refine j0a (fun y e => (x = a → y ≤ b) ∧ e = fr [(1, some (.val (.mem .own none [tb f, tb s]))), (3, some (.val (I f.length))), (4, some (.val (I x))), (5, some (.val (I y)))]) f.length ?_ ?_ 0 _ (by omega) ?_
   · rintro y e hy ⟨hyb, rfl⟩
     simp [hy]
     refine j0a (fun z e => (x = a → y = b → z ≤ c) ∧ e = fr [(1, some (.val (.mem .own none [tb f, tb s]))), (3, some (.val (I f.length))), (4, some (.val (I x))), (5, some (.val (I y))), (6, some (.val (I z)))]) f.length ?_ ?_ 0 _ (by omega) ?_
     · rintro z e hz ⟨hzc, rfl⟩
       have hw := w3_in hx hy hz
       have d1 := z7g h hw 0
       have d2 := z7g h d1 1
       have d3 := z7g h hw 1
       have d4 := z7g h d3 0
       simp [hz]
       refine j0e (h68 f s [(x : Int), y, z] 0 h (by simp) (by simp) hw) rfl rfl (fun _ => by simp) ?_
       simp
       refine j0e (h68 f s _ 1 h (by simp) (by simp) d1) rfl rfl (fun _ => by simp) ?_
       simp
       refine j0e (h68 f s _ 0 h (by simp) (by simp) d2) rfl rfl (fun _ => by simp) ?_
       simp
       refine j0e (h68 f s [(x : Int), y, z] 1 h (by simp) (by simp) hw) rfl rfl (fun _ => by simp) ?_
       simp
       refine j0e (h68 f s _ 0 h (by simp) (by simp) d3) rfl rfl (fun _ => by simp) ?_
       simp
       refine j0e (h68 f s _ 1 h (by simp) (by simp) d4) rfl rfl (fun _ => by simp) ?_
       simp
       refine j0e (h67 _ _ (by simp)) rfl rfl (fun _ => rfl) ?_
       by_cases hy2 : ybAt f s x y z
       · have hy3 := hy2
         unfold ybAt at hy3
         simp [hy3]
         have : ¬ (x = a ∧ y = b ∧ z = c) := fun ⟨e1, e2, e3⟩ => by
          subst e1 e2 e3
          exact (hf1 hx).2.2.2 hy2
         omega
       · have hy3 := hy2
         unfold ybAt at hy3
         have := hmin x y z hx hy hz hy2
         have e1 : x = a := by omega
         subst e1
         have e2 : y = b := by have := hyb rfl; omega
         subst e2
         have e3 : z = c := by have := hzc rfl rfl; omega
         subst e3
         simp [hy3, (hf1 hx).1]
     · rintro e ⟨hzc, rfl⟩
       simp
       have : ¬ (x = a ∧ y = b) := fun ⟨e1, e2⟩ => by
        have := hzc e1 e2
        have := (hf1 (by omega)).2.2.1
        omega
       omega
     · simp
   · rintro e ⟨hyb, rfl⟩
     simp
     have : ¬ x = a := fun e1 => by
      have := hyb e1
      have := (hf1 (by omega)).2.1
      omega
     omega
   · simp
 · rintro e ⟨h1, rfl⟩
   simp [(hf2 (by omega)).2]
 · simp

theorem z7r (f s : List (List Int)) (x y z : Nat) : ybAt f s x y z ↔
 (v2 f (v2 f x y).toNat (v2 f (v2 s x y).toNat z).toNat = v2 f x (v2 f y z).toNat ∧
  v2 s (v2 f x y).toNat (v2 f (v2 s x y).toNat z).toNat = v2 f (v2 s x (v2 f y z).toNat).toNat (v2 s y z).toNat ∧
  v2 s (v2 s x y).toNat z = v2 s (v2 s x (v2 f y z).toNat).toNat (v2 s y z).toNat) := by
 simp [ybAt, dW, g2]

def q59 (pg : Pg) : Prop := ∀ f s : List (List Int), PM f s → ∃ o : Option (List Int), (o = none ↔ YB f s) ∧ Call pg 61 [sol f s] [sol f s] (ownI o)
set_option maxRecDepth 10000 in
theorem z8n {pg : Pg} (hp : pg.fn 61 = some j2o) : q59 pg := by
 intro f s h
 obtain ⟨a, b, c, l, hl, hf1, hf2, hf3, hmin⟩ := fault f s
 have h0 := h.pos
 have h12 := h.small
 have fr' := fun x hx => h.tf.row (x := x) hx
 have sr' : ∀ x (hx : x < s.length), (s[x]).length = f.length := fun x hx => (h.ts.row hx).trans h.len
 have hF0 : ∀ i j, 0 ≤ v2 f i j := h.tf.nonneg
 have hF1 : ∀ i j, v2 f i j < f.length := h.tf.lt h0
 have hF2 : ∀ i j, (v2 f i j).toNat < f.length := h.tf.ltN h0
 have hS0 : ∀ i j, 0 ≤ v2 s i j := h.ts.nonneg
 have hS1 : ∀ i j, v2 s i j < f.length := fun i j => by have := h.ts.lt (by rw [h.len]; exact h0) i j; rw [h.len] at this; exact this
 have hS2 : ∀ i j, (v2 s i j).toNat < f.length := fun i j => by have := hS0 i j; have := hS1 i j; omega
 refine ⟨if a < f.length then some l else none, ?_, Call.intro hp rfl (by simp) ?_⟩
 · by_cases ha : a < f.length
   · have h1 := (hf1 ha).1
     rw [← hl, if_pos ha, h1]
     simp
   · have h1 := (hf2 ha).2
     rw [← hl, if_neg ha, h1]
     simp
 show wp _ _ j2o.body (post [.t 2] _ _ _) _
 simp [j2o]
 refine j0a (fun x e => x ≤ a ∧ e = fr [(1, some (.val (.mem .own none [tb f, tb s]))), (3, some (.val (I f.length))), (16, some (.val (I f.length))), (17, some (.val (I x)))]) f.length ?_ ?_ 0 _ (by omega) ?_
 · rintro x e hx ⟨hxa, rfl⟩
   simp [hx]
   refine j0a (fun y e => (x = a → y ≤ b) ∧ e = fr [(1, some (.val (.mem .own none [tb f, tb s]))), (3, some (.val (I f.length))), (4, some (.val (I x))), (16, some (.val (I f.length))), (17, some (.val (I x))), (20, some (.val (I f.length))), (21, some (.val (I y)))]) f.length ?_ ?_ 0 _ (by omega) ?_
   · rintro y e hy ⟨hyb, rfl⟩
     simp [hy]
     refine j0a (fun z e => (x = a → y = b → z ≤ c) ∧ e = fr [(1, some (.val (.mem .own none [tb f, tb s]))), (3, some (.val (I f.length))), (4, some (.val (I x))), (5, some (.val (I y))), (16, some (.val (I f.length))), (17, some (.val (I x))), (20, some (.val (I f.length))), (21, some (.val (I y))), (24, some (.val (I f.length))), (25, some (.val (I z)))]) f.length ?_ ?_ 0 _ (by omega) ?_
     · rintro z e hz ⟨hzc, rfl⟩
       have hyb2 := z7r f s x y z
       simp [hx, hy, hz, fr', sr', h.len, j2a, hF0, hF1, hF2, hS0, hS1, hS2]
       have bad : ¬ ybAt f s x y z → x = a ∧ y = b ∧ z = c := fun hn => by
        have := hmin x y z hx hy hz hn
        have e1 : x = a := by omega
        have e2 : y = b := by have := hyb e1; omega
        have e3 : z = c := by have := hzc e1 e2; omega
        exact ⟨e1, e2, e3⟩
       by_cases e1 : v2 f (v2 f x y).toNat (v2 f (v2 s x y).toNat z).toNat = v2 f x (v2 f y z).toNat
       · by_cases e2 : v2 s (v2 f x y).toNat (v2 f (v2 s x y).toNat z).toNat = v2 f (v2 s x (v2 f y z).toNat).toNat (v2 s y z).toNat
         · by_cases e3 : v2 s (v2 s x y).toNat z = v2 s (v2 s x (v2 f y z).toNat).toNat (v2 s y z).toNat
           · simp [e1, e2, e3]
             have : ¬ (x = a ∧ y = b ∧ z = c) := fun ⟨g1, g2, g3⟩ => by
              subst g1 g2 g3
              exact (hf1 hx).2.2.2 (hyb2.2 ⟨e1, e2, e3⟩)
             omega
           · obtain ⟨g1, g2, g3⟩ := bad fun hh => e3 (hyb2.1 hh).2.2
             subst g1 g2 g3
             simp [e1, e2, e3, hx, (hf1 hx).1, ownI]
         · obtain ⟨g1, g2, g3⟩ := bad fun hh => e2 (hyb2.1 hh).2.1
           subst g1 g2 g3
           simp [e1, e2, j0x, hx, (hf1 hx).1, ownI]
       · obtain ⟨g1, g2, g3⟩ := bad fun hh => e1 (hyb2.1 hh).1
         subst g1 g2 g3
         simp [e1, j0x, hx, (hf1 hx).1, ownI]
     · rintro e ⟨hzc, rfl⟩
       simp
       have : ¬ (x = a ∧ y = b) := fun ⟨e1, e2⟩ => by
        have := hzc e1 e2
        have := (hf1 (by omega)).2.2.1
        omega
       omega
     · simp
   · rintro e ⟨hyb, rfl⟩
     simp
     have : ¬ x = a := fun e1 => by
      have := hyb e1
      have := (hf1 (by omega)).2.1
      omega
     omega
   · simp
 · rintro e ⟨h1, rfl⟩
   have h2 : ¬ a < f.length := by omega
   simp [h2, ownI]
 · simp

def q3w (f s : List (List Int)) : Prop := j3c f s ∧ Inj f s ∧ YB f s

noncomputable def dec (p : Prop) : Bool := @decide p (Classical.propDecidable p)
theorem j03 {p : Prop} (h : p) : dec p = true := by simp [dec, h]
theorem j0v {p : Prop} (h : ¬ p) : dec p = false := by simp [dec, h]

def q3f (pg : Pg) (n : Nat) : Prop := ∀ f s : List (List Int), fits f → fits s → Call pg n [sol f s] [sol f s] (B (dec (q3w f s)))
theorem w6p {pg : Pg} (hp : pg.fn 41 = some j6p) (h56 : j7l pg 56) (h57 : q8x pg) (h58 : q6a pg) : q3f pg 41 := by
 intro f s hf hs
 refine Call.intro hp rfl (by simp) ?_
 show wp _ _ j6p.body (post [.t 2] _ _ _) _
 simp [j6p]
 refine j0e (h56 f s hf hs) rfl rfl (fun _ => rfl) ?_
 by_cases h1 : j3c f s
 · have hpm := PM.of h1
   obtain ⟨l, hl, hl2, hc⟩ := h57 f s hpm
   simp [h1]
   refine j0e hc rfl rfl (fun _ => by simp) ?_
   by_cases h2 : Inj f s
   · have h3 := hl.2 h2
     obtain ⟨l2, hm, hm2, hc2⟩ := h58 f s hpm
     simp [h3]
     refine j0e hc2 rfl rfl (fun _ => by simp) ?_
     by_cases h4 : YB f s
     · have h5 := hm.2 h4
       simp [h5, j03 (show q3w f s from ⟨h1, h2, h4⟩)]
     · have h5 : ¬ l2.length = 0 := fun h => h4 (hm.1 h)
       have h6 : ¬ ((l2.length : Nat) : Int) = 0 := by omega
       simp [h5, j0v (show ¬ q3w f s from fun h => h4 h.2.2)]
   · have h3 : ¬ l.length = 0 := fun h => h2 (hl.1 h)
     have h6 : ¬ ((l.length : Nat) : Int) = 0 := by omega
     simp [h3, j0x, j0v (show ¬ q3w f s from fun h => h2 h.2.1)]
 · simp [h1, j0x, j0v (show ¬ q3w f s from fun h => h1 h.1)]

theorem q9d {pg : Pg} (hp : pg.fn 42 = some j3z) (h59 : j7l pg 59) (h60 : q8w pg) (h61 : q59 pg) : q3f pg 42 := by
 intro f s hf hs
 refine Call.intro hp rfl (by simp) ?_
 show wp _ _ j3z.body (post [.t 2] _ _ _) _
 simp [j3z]
 refine j0e (h59 f s hf hs) rfl rfl (fun _ => rfl) ?_
 by_cases h1 : j3c f s
 · have hpm := PM.of h1
   obtain ⟨l, hl, hc⟩ := h60 f s hpm
   simp [h1]
   refine j0e hc rfl rfl (fun _ => by cases l <;> simp [ownI]) ?_
   by_cases h2 : Inj f s
   · have h3 := hl.2 h2
     subst h3
     obtain ⟨l2, hm, hc2⟩ := h61 f s hpm
     simp [ownI]
     refine j0e hc2 rfl rfl (fun _ => by cases l2 <;> simp [ownI]) ?_
     by_cases h4 : YB f s
     · have h5 := hm.2 h4
       subst h5
       simp [ownI, j03 (show q3w f s from ⟨h1, h2, h4⟩)]
     · cases l2 with
       | none => exact absurd (hm.1 rfl) h4
       | some l2 => simp [ownI, j0v (show ¬ q3w f s from fun h => h4 h.2.2)]
   · cases l with
     | none => exact absurd (hl.1 rfl) h2
     | some l => simp [ownI, j0x, j0v (show ¬ q3w f s from fun h => h2 h.2.1)]
 · simp [h1, j0x, j0v (show ¬ q3w f s from fun h => h1 h.1)]
end Go.Mch
namespace Go.Mch

theorem j8u (a b : List (List Int)) : rows (a ++ b) = rows a ++ rows b := by simp [rows]

end Go.Mch
namespace Go.Mch

def eT : Option (List (List Int)) → T
 | none => nil
 | some X => tb X
def ryT (o : Option (List (List Int))) : Rw (Rw Int) := Rw.ofO (o.map fun X => X.map .of)
theorem q2o (o : Option (List (List Int))) : rawT (ryT o) = eT o := by
 cases o with
 | none => rfl
 | some X => exact w7k X
theorem z6s {α : Type} (X : List (List α)) : (X.map Rw.of).map lst = X := by simp [Function.comp_def]
theorem q66 (o : Option (List (List Int))) : (lst (ryT o)).map lst = lso o := by
 cases o with
 | none => rfl
 | some X => exact z6s X
theorem j8o {o : Option (List (List Int))} (h : j48 (lso o)) : small (ryT o) := by
 cases o with
 | none => exact ⟨by simp [ryT, Rw.ofO, lst], by simp [ryT, Rw.ofO, lst]⟩
 | some X => exact ⟨by simpa [ryT, Rw.ofO] using h.1, by simpa [ryT, Rw.ofO] using h.2⟩
theorem y1j.o {pg : Pg} (h : y1j pg) (o o' : Option (List (List Int))) (hs : j48 (lso o)) : Call pg 21 [eT o, eT o'] [eT o, eT o'] (B (decide (lso o = lso o'))) := by
 have := h (ryT o) (ryT o') (j8o hs)
 simp only [q2o, q66] at this
 exact this
theorem w2h.o {pg : Pg} (h : w2h pg) (o : Option (List (List Int))) (k : Int) (hs : j48 (lso o)) (h1 : -1 ≤ k) (h2 : k ≤ 2305843009213693952) : Call pg 24 [eT o, I k] [eT o, I k] (I (q2w (lso o) k)) := by
 have := h (ryT o) k (j8o hs) h1 h2
 simp only [q2o, q66] at this
 exact this
theorem w2l.o {pg : Pg} (h : w2l pg) (X Y Z W : List (List Int)) (hX : j48 X) (hY : j48 Y) : Call pg 18 [.agg [tb X, tb Y], .agg [tb Z, tb W]] [.agg [tb X, tb Y], .agg [tb Z, tb W]] (B (decide (X = Z ∧ Y = W))) := by
 have := h (ryT (some X)) (ryT (some Y)) (ryT (some Z)) (ryT (some W)) (j8o hX) (j8o hY)
 simp only [q2o, q66] at this
 exact this

theorem q4g {X : List (List Int)} (h : j48 X) (k : Int) : j48 (upT k X) := by
 refine ⟨by simpa [upT] using h.1, fun r hr => ?_⟩
 simp only [upT, List.mem_map, List.mem_range] at hr
 obtain ⟨j, hj, rfl⟩ := hr
 rw [z7t]
 have := h.2 X[j] (List.getElem_mem hj)
 simpa [List.getD_eq_getElem?_getD, hj] using this

end Go.Mch
namespace Go.Mch

def w8l (n : Int) (xs : List Int) : Prop := xs.length ≤ 12 ∧ inR 0 (n - 1) xs
instance (n : Int) (xs : List Int) : Decidable (w8l n xs) := by unfold w8l; infer_instance
def tmOk (f : List (List Int)) (w : List Int) (p : Int) : Prop := w8l f.length w ∧ 0 ≤ p ∧ p ≤ (w.length : Int) - 2
instance (f : List (List Int)) (w : List Int) (p : Int) : Decidable (tmOk f w p) := by unfold tmOk; infer_instance
end Go.Mch
namespace Go.Mch

def eI : Option (List Int) → T
 | none => nil
 | some X => ix X
theorem z9z (o : Option (List Int)) : rawI (Rw.ofO o) = eI o := by cases o <;> rfl
theorem y1k.o {pg : Pg} (h : y1k pg) (o o' : Option (List Int)) (hs : (lso o).length ≤ 1048576) : Call pg 9 [eI o, eI o'] [eI o, eI o'] (B (decide (lso o = lso o'))) := by
 have := h (Rw.ofO o) (Rw.ofO o') (by simpa using hs)
 simp only [z9z, w0i] at this
 exact this
theorem w2i.o {pg : Pg} (h : w2i pg) (o : Option (List Int)) (k : Int) (hs : (lso o).length ≤ 1048576) (h1 : -1 ≤ k) (h2 : k ≤ 4611686018427387904) : Call pg 13 [eI o, I k] [eI o, I k] (I (held (lso o) k)) := by
 have := h (Rw.ofO o) k (by simpa using hs) h1 h2
 simp only [z9z, w0i] at this
 exact this
end Go.Mch
namespace Go.Mch


theorem j63 {α : Type} [DecidableEq α] : ∀ (l p : List α), l.Nodup → (∀ x ∈ l, x ∈ p) → l.length ≤ p.length
 | [], _, _, _ => by simp
 | a :: l, p, hd, hs => by
  have ha : a ∈ p := hs a (by simp)
  have hn := List.nodup_cons.1 hd
  have := j63 l (p.erase a) hn.2 fun x hx => by
   have hne : x ≠ a := fun e => hn.1 (e ▸ hx)
   exact (List.mem_erase_of_ne hne).2 (hs x (by simp [hx]))
  have h2 := List.length_erase_of_mem ha
  have h3 : 0 < p.length := List.length_pos_of_mem ha
  simp only [List.length_cons]
  omega

theorem j9o {α : Type} [DecidableEq α] : ∀ (l p : List α), l.Nodup → (∀ x ∈ l, x ∈ p) → p.length = l.length → p.Nodup
 | [], p, _, _, h => by
  have : p = [] := List.eq_nil_of_length_eq_zero (by simpa using h)
  subst this
  exact List.nodup_nil
 | a :: l, p, hd, hs, h => by
  have ha : a ∈ p := hs a (by simp)
  have hn := List.nodup_cons.1 hd
  have h2 := List.length_erase_of_mem ha
  have h4 : (p.erase a).length = l.length := by simp only [List.length_cons] at h; omega
  have hsub : ∀ x ∈ l, x ∈ p.erase a := fun x hx => by
   have hne : x ≠ a := fun e => hn.1 (e ▸ hx)
   exact (List.mem_erase_of_ne hne).2 (hs x (by simp [hx]))
  have hp := j9o l (p.erase a) hn.2 hsub h4
  have hna : a ∉ p.erase a := fun hm => by
   have := j63 (a :: l) (p.erase a) hd fun x hx => by
    rcases List.mem_cons.1 hx with rfl | hx
    · exact hm
    · exact hsub x hx
   simp only [List.length_cons] at this
   omega
  exact (List.perm_cons_erase ha).nodup_iff.2 (List.nodup_cons.2 ⟨hna, hp⟩)

def nums (n : Nat) : List Int := (List.range n).map Int.ofNat
theorem z6n (n : Nat) : (nums n).Nodup := by
 refine List.Pairwise.map _ (fun a b h => ?_) (List.nodup_range (n := n))
 intro e
 exact h (Int.ofNat.inj e)
theorem j8y {p : List Int} (h1 : 1 ≤ p.length) (h2 : p.length ≤ 12) (hr : ∀ x ∈ p, 0 ≤ x ∧ x < p.length) : isPerm p ↔ j1r p := by
 constructor
 · intro h
   refine ⟨hr, j9o (nums p.length) p (z6n _) (fun x hx => ?_) (by simp [nums])⟩
   simp only [nums, List.mem_map, List.mem_range] at hx
   obtain ⟨k, hk, rfl⟩ := hx
   exact h.2.2 k hk
 · intro h
   refine ⟨h1, h2, fun x hx => ?_⟩
   by_cases hm : (x : Int) ∈ p
   · exact hm
   · have := j63 p ((nums p.length).erase x) h.2 fun y hy => by
      have hy2 := hr y hy
      have hne : y ≠ (x : Int) := fun e => hm (e ▸ hy)
      refine (List.mem_erase_of_ne hne).2 ?_
      simp only [nums, List.mem_map, List.mem_range]
      exact ⟨y.toNat, by omega, by show ((y.toNat : Nat) : Int) = y; omega⟩
     have hx2 : (x : Int) ∈ nums p.length := by
      simp only [nums, List.mem_map, List.mem_range]
      exact ⟨x, hx, rfl⟩
     have h3 := List.length_erase_of_mem hx2
     have h4 : (nums p.length).length = p.length := by simp [nums]
     omega
end Go.Mch
namespace Go.Mch

def sdAt (t : List (List Int)) (x y z : Nat) : Prop := v2 t x (v2 t y z).toNat = v2 t (v2 t x y).toNat (v2 t x z).toNat
instance (t : List (List Int)) (x y z : Nat) : Decidable (sdAt t x y z) := by unfold sdAt; infer_instance
end Go.Mch
namespace Go.Mch

theorem z5c.o {pg : Pg} (h : z5c pg) (X Z : List (List Int)) (hX : j48 X) : Call pg 10 [.agg [tb X], .agg [tb Z]] [.agg [tb X], .agg [tb Z]] (B (decide (X = Z))) := by
 have := h (ryT (some X)) (ryT (some Z)) (j8o hX)
 simp only [q2o, q66] at this
 exact this

end Go.Mch
namespace Go.Mch

@[simp] theorem v9k (k : K) (xs : List Int) : T.frzL k (xs.map I) = xs.map I := by
 induction xs with
 | nil => rfl
 | cons x xs ih => simp [ih]
@[simp] theorem frzL_tbL (k : K) (t : List (List Int)) : T.frzL k (tbL t) = tbL t := by
 induction t with
 | nil => rfl
 | cons x xs ih => simp only [tbL, List.map_cons] at ih ⊢; simp [ih]
theorem j17 {α : Type} (f : Nat → α) (k : Nat) : (List.range (k + 1)).map f = (List.range k).map f ++ [f k] := by simp [List.range_succ]

def tabL (n : Nat) (g : Nat → Nat → Int) : List (List Int) := (List.range n).map fun x => (List.range n).map fun y => g x y
@[simp] theorem j8n (n : Nat) (g : Nat → Nat → Int) : (tabL n g).length = n := by simp [tabL]
theorem j4j {n : Nat} {g : Nat → Nat → Int} {r : List Int} (h : r ∈ tabL n g) : r.length = n := by
 simp only [tabL, List.mem_map] at h
 obtain ⟨x, _, rfl⟩ := h
 simp
theorem j58 {n : Nat} {g : Nat → Nat → Int} {x y : Nat} (hx : x < n) (hy : y < n) : v2 (tabL n g) x y = g x y := by
 simp [v2, tabL, hx, hy]
theorem q86 {n : Nat} {g : Nat → Nat → Int} (h : ∀ x y, x < n → y < n → 0 ≤ g x y ∧ g x y < n) : Tab (tabL n g) := by
 intro r hr
 refine ⟨by rw [j4j hr]; simp, fun v hv => ?_⟩
 simp only [tabL, List.mem_map, List.mem_range] at hr
 obtain ⟨x, hx, rfl⟩ := hr
 simp only [List.mem_map, List.mem_range] at hv
 obtain ⟨y, hy, rfl⟩ := hv
 simpa using h x y hx hy
theorem j73 {n : Nat} {g g' : Nat → Nat → Int} (h : ∀ x y, x < n → y < n → g x y = g' x y) : tabL n g = tabL n g' := by
 unfold tabL
 apply List.map_congr_left
 intro x hx
 apply List.map_congr_left
 intro y hy
 exact h x y (by simpa using hx) (by simpa using hy)
theorem z2t {t : List (List Int)} {n : Nat} (hn : t.length = n) (h : ∀ r ∈ t, r.length = n) : t = tabL n (v2 t) := by
 subst hn
 unfold tabL
 apply List.ext_getElem
 · simp
 · intro i h1 h2
   apply List.ext_getElem
   · simp [h _ (List.getElem_mem h1)]
   · intro j h3 h4
     simp [v2, h1, h3]

def colL (t : List (List Int)) (y : Nat) : List Int := (List.range t.length).map fun x => v2 t x y
def j4o (t : List (List Int)) : List (List Int) := tabL t.length fun x y => v2 t y x
@[simp] theorem w87 (t : List (List Int)) (y : Nat) : (colL t y).length = t.length := by simp [colL]
@[simp] theorem w46 (t : List (List Int)) : (j4o t).length = t.length := by simp [j4o]
theorem z7v {t : List (List Int)} (h : Tab t) (h0 : 0 < t.length) : Tab (j4o t) := by
 apply q86
 intro x y hx hy
 exact ⟨h.nonneg _ _, h.lt h0 _ _⟩

def q8v (pg : Pg) : Prop := ∀ (t : List (List Int)) (y : Nat), t.length ≤ 1048576 → (∀ r ∈ t, y < r.length) → Call pg 375 [tb t, I y] [tb t, I y] (.mem .own (some 1) ((colL t y).map I))
theorem w2x {pg : Pg} (hp : pg.fn 375 = some j37) : q8v pg := by
 intro t y hl hr
 refine Call.intro hp rfl (by simp) ?_
 show wp _ _ j37.body (post [.t 4] _ _ _) _
 simp [j37]
 refine j0a (fun k e => e = fr [(0, some (.val (tb t))), (1, some (.val (I y))), (5, some (.val (.mem .own (some 1) (((List.range k).map fun x => v2 t x y).map I)))), (6, some (.val (I k)))]) t.length ?_ ?_ 0 _ (by omega) ?_
 · rintro k e hk rfl
   have hy := hr _ (List.getElem_mem hk)
   simp [hk, hy, j2a, j17, roomy]
   omega
 · rintro e rfl
   simp [colL]
 · simp

def q3r (pg : Pg) (n : Nat) : Prop := ∀ t : List (List Int), Tab t → t.length ≤ 12 → Call pg n [tb t] [tb t] (.mem .own (some 1) (rows (j4o t)))
theorem z5d (t : List (List Int)) : j4o t = (List.range t.length).map fun y => colL t y := rfl
theorem z8e {pg : Pg} (hp : pg.fn 265 = some j5g) (h375 : q8v pg) : q3r pg 265 := by
 intro t ht hl
 refine Call.intro hp rfl (by simp) ?_
 show wp _ _ j5g.body (post [.t 2] _ _ _) _
 simp [j5g]
 refine j0a (fun k e => e = fr [(0, some (.val (tb t))), (3, some (.val (.mem .own (some 1) (rows ((List.range k).map fun y => colL t y))))), (4, some (.val (I k)))]) t.length ?_ ?_ 0 _ (by omega) ?_
 · rintro k e hk rfl
   simp [hk]
   refine j0e (h375 t k (by omega) (fun r hr => by rw [(ht r hr).1]; exact hk)) rfl rfl (fun _ => by simp) ?_
   simp [j17, j8u, roomy]
   simp [rows]
   omega
 · rintro e rfl
   simp [z5d]
 · simp [rows]

def q2c (pg : Pg) : Prop := ∀ (n : Nat) (g : Nat → Nat → Int) (f : Nat) (caps : List T), n ≤ 1048576 → T.eryL .old caps = caps → T.j0m caps = true →
 (∀ x y : Nat, x < n → y < n → Call pg f (I x :: I y :: caps) (I x :: I y :: caps) (I (g x y))) → Call pg 376 [I n, .fn f caps] [I n, .fn f caps] (.mem .own (some 1) (rows (tabL n g)))

theorem set_mid {α : Type} {l : List α} {r : List α} {k : Nat} {z v : α} (h : l.length = k) : (l ++ z :: r).set k v = l ++ v :: r := by
 subst h; simp
theorem j9x {α : Type} {n k : Nat} (z : α) (h : k < n) : List.replicate (n - k) z = z :: List.replicate (n - (k + 1)) z := by
 rw [show n - k = (n - (k + 1)) + 1 from by omega, List.replicate_succ]

set_option maxRecDepth 10000 in
theorem z7w {pg : Pg} (hp : pg.fn 376 = some j5n) : q2c pg := by
 intro n g f caps hn hc1 hc2 hc
 refine Call.intro hp rfl (by simp [hc2]) ?_
 show wp _ _ j5n.body (post [.t 4] _ _ _) _
 simp [j5n]
 refine ⟨by unfold roomy; omega, ?_⟩
 refine j0a (fun x e => e = fr [(0, some (.val (I n))), (1, some (.val (.fn f caps))), (5, some (.val (.mem .own (some 1) (rows ((List.range x).map fun i => (List.range n).map (g i)) ++ List.replicate (n - x) nil)))), (11, some (.val (I n))), (12, some (.val (I x)))]) n ?_ ?_ 0 _ (by omega) ?_
 · rintro x e hx rfl
   have hlen : (rows ((List.range x).map fun i => (List.range n).map (g i))).length = x := by simp
   rw [j9x nil hx]
   simp [hx, set_mid hlen]
   refine ⟨by unfold roomy; omega, by omega, ?_⟩
   refine j0a (fun y e => e = fr [(0, some (.val (I n))), (1, some (.val (.fn f caps))), (5, some (.val (.mem .own (some 1) (rows ((List.range x).map fun i => (List.range n).map (g i)) ++ .mem .own (some 1) (((List.range y).map (g x)).map I ++ List.replicate (n - y) (I 0)) :: List.replicate (n - (x + 1)) nil)))), (6, some (.val (I x))), (11, some (.val (I n))), (12, some (.val (I x))), (24, some (.val (I n))), (25, some (.val (I y)))]) n ?_ ?_ 0 _ (by omega) ?_
   · rintro y e hy rfl
     have hlen2 : (((List.range y).map (g x)).map I).length = y := by simp
     rw [j9x (I 0) hy]
     simp [hy]
     refine ⟨by omega, ?_⟩
     refine j0e (by simpa [hc1] using hc x y hx hy) rfl rfl (fun _ => by simp) ?_
     simp [set_mid hlen, j17]
     omega
   · rintro e rfl
     simp [j17, j8u]
     simp [rows]
     omega
   · simp
 · rintro e rfl
   simp [tabL, hc2]
 · simp [rows]

def z2g (pg : Pg) : Prop := ∀ (t : List (List Int)) (x y : Nat) (hx : x < t.length) (hy : y < t.length), (t[y]).length = t.length → Call pg 377 [I x, I y, .mem .old none [tb t]] [I x, I y, .mem .old none [tb t]] (I (v2 t y x))
theorem w6k {pg : Pg} (hp : pg.fn 377 = some j22) : z2g pg := by
 intro t x y hx hy hr
 refine Call.intro hp rfl (by simp) ?_
 show wp _ _ j22.body (post [.t 5] _ _ _) _
 simp [j22, hx, hy, hr, j2a]
theorem q87 {pg : Pg} (hp : pg.fn 267 = some j3v) (h376 : q2c pg) (h377 : z2g pg) : q3r pg 267 := by
 intro t ht hl
 refine Call.intro hp rfl (by simp) ?_
 show wp _ _ j3v.body (post [.t 2] _ _ _) _
 simp [j3v]
 refine j0e (h376 t.length (fun x y => v2 t y x) 377 [.mem .old none [tb t]] (by omega) (by simp) (by simp) (fun x y hx hy => h377 t x y hx hy (ht.row hy))) rfl rfl (fun _ => by simp) ?_
 simp [j4o]

def j8d (f s : List (List Int)) : Prop := j44 f ∧ j44 (j4o s)
instance (f s : List (List Int)) : Decidable (j8d f s) := by unfold j8d; infer_instance
def j87 (pg : Pg) (n : Nat) : Prop := ∀ f s : List (List Int), PM f s → Call pg n [sol f s] [sol f s] (B (decide (j8d f s)))
theorem z5e {t : List (List Int)} (h : t.length ≤ 12) : ∀ r ∈ j4o t, r.length ≤ 1048576 := fun r hr => by
 have := j4j hr
 omega

theorem z5q {pg : Pg} (hp : pg.fn 285 = some j1v) (h51 : q3c pg) (h267 : q3r pg 267) : j87 pg 285 := by
 intro f s h
 have h0 := h.pos
 have h12 := h.small
 have hl := h.len
 refine Call.intro hp rfl (by simp) ?_
 show wp _ _ j1v.body (post [.t 2] _ _ _) _
 simp [j1v]
 refine j0e (h51 f (by omega) (fun r hr => by have := (h.tf r hr).1; omega)) rfl rfl (fun _ => rfl) ?_
 by_cases h1 : j44 f
 · simp [h1]
   refine j0e (h267 s h.ts (by omega)) rfl rfl (fun _ => by simp) ?_
   simp
   refine j0e (h51 (j4o s) (by simp; omega) (z5e (by omega))) rfl rfl (fun _ => rfl) ?_
   simp [j8d, h1]
 · simp [h1, j8d, j0x]

theorem q72 {t : List (List Int)} (h : Tab t) (h0 : 0 < t.length) (h12 : t.length ≤ 12) : (∀ r ∈ t, isPerm r) ↔ j44 t := by
 constructor
 · intro g r hr
   have := h r hr
   exact (j8y (by omega) (by omega) (fun x hx => by have := this.2 x hx; omega)).1 (g r hr)
 · intro g r hr
   have := h r hr
   exact (j8y (by omega) (by omega) (fun x hx => by have := this.2 x hx; omega)).2 (g r hr)

def q2d (pg : Pg) : Prop := ∀ t : List (List Int), Tab t → 0 < t.length → t.length ≤ 12 → Call pg 410 [tb t] [tb t] (B (decide (j44 t)))
theorem z8g {pg : Pg} (hp : pg.fn 410 = some j5i) (h47 : z4z pg 47) : q2d pg := by
 intro t ht h0 h12
 refine Call.intro hp rfl (by simp) ?_
 show wp _ _ j5i.body (post [.t 2] _ _ _) _
 have hsp := q72 ht h0 h12
 simp [j5i]
 refine j0a (fun k e => (∀ i (h : i < t.length), i < k → isPerm t[i]) ∧ e = fr [(0, some (.val (tb t))), (3, some (.val (I k)))]) t.length ?_ ?_ 0 _ (by omega) ?_
 · rintro k e hk ⟨h1, rfl⟩
   simp [hk]
   refine j0e (h47 _ (by have := ht.row hk; omega)) rfl rfl (fun _ => rfl) ?_
   by_cases hm : isPerm t[k]
   · simp [hm]
     refine ⟨by omega, fun i hi hik => ?_⟩
     rcases Nat.lt_or_ge i k with h2 | h2
     · exact h1 i hi h2
     · have : i = k := by omega
       subst this; exact hm
   · have : ¬ j44 t := fun h => hm (hsp.2 h _ (List.getElem_mem hk))
     simp [hm, this]
 · rintro e ⟨h1, rfl⟩
   have : j44 t := hsp.1 fun x hx => by
    obtain ⟨i, hi, rfl⟩ := List.getElem_of_mem hx
    exact h1 i hi hi
   simp [this]
 · simp

theorem z8d {pg : Pg} (hp : pg.fn 350 = some j5d) (h410 : q2d pg) (h265 : q3r pg 265) : j87 pg 350 := by
 intro f s h
 have h0 := h.pos
 have h12 := h.small
 have hl := h.len
 refine Call.intro hp rfl (by simp) ?_
 show wp _ _ j5d.body (post [.t 2] _ _ _) _
 simp [j5d]
 refine j0e (h410 f h.tf h0 h12) rfl rfl (fun _ => rfl) ?_
 by_cases h1 : j44 f
 · simp [h1]
   refine j0e (h265 s h.ts (by omega)) rfl rfl (fun _ => by simp) ?_
   simp
   refine j0e (h410 (j4o s) (z7v h.ts (by omega)) (by simp; omega) (by simp; omega)) rfl rfl (fun _ => rfl) ?_
   simp [j8d, h1]
 · simp [h1, j8d, j0x]

def j5c (f s : List (List Int)) : Prop := q3w f s ∧ j8d f s
def q57 (pg : Pg) (n : Nat) : Prop := ∀ f s : List (List Int), fits f → fits s → Call pg n [sol f s] [sol f s] (B (dec (j5c f s)))
theorem w6o {pg : Pg} (hp : pg.fn 264 = some j6o) (h41 : q3f pg 41) (h350 : j87 pg 350) : q57 pg 264 := by
 intro f s hf hs
 refine Call.intro hp rfl (by simp) ?_
 show wp _ _ j6o.body (post [.t 2] _ _ _) _
 simp [j6o]
 refine j0e (h41 f s hf hs) rfl rfl (fun _ => rfl) ?_
 by_cases h1 : q3w f s
 · simp [j03 h1]
   refine j0e (h350 f s (PM.of h1.1)) rfl rfl (fun _ => rfl) ?_
   by_cases h2 : j8d f s
   · simp [h2, j03 (show j5c f s from ⟨h1, h2⟩)]
   · simp [h2, j0v (show ¬ j5c f s from fun h => h2 h.2)]
 · simp [j0v h1, j0x, j0v (show ¬ j5c f s from fun h => h1 h.1)]
theorem z1e {pg : Pg} (hp : pg.fn 266 = some j4a) (h42 : q3f pg 42) (h285 : j87 pg 285) : q57 pg 266 := by
 intro f s hf hs
 refine Call.intro hp rfl (by simp) ?_
 show wp _ _ j4a.body (post [.t 2] _ _ _) _
 simp [j4a]
 refine j0e (h42 f s hf hs) rfl rfl (fun _ => rfl) ?_
 by_cases h1 : q3w f s
 · simp [j03 h1]
   refine j0e (h285 f s (PM.of h1.1)) rfl rfl (fun _ => rfl) ?_
   by_cases h2 : j8d f s
   · simp [h2, j03 (show j5c f s from ⟨h1, h2⟩)]
   · simp [h2, j0v (show ¬ j5c f s from fun h => h2 h.2)]
 · simp [j0v h1, j0x, j0v (show ¬ j5c f s from fun h => h1 h.1)]

end Go.Mch
namespace Go.Mch

def j31 (p q : List Int) : List Int := p.map fun x => q.getD x.toNat 0
@[simp] theorem w47 (p q : List Int) : (j31 p q).length = p.length := by simp [j31]
def q7l (pg : Pg) (n : Nat) : Prop := ∀ p q : List Int, p.length ≤ 1048576 → inN q.length p → Call pg n [ix p, ix q] [ix p, ix q] (.mem .own (some 1) ((j31 p q).map I))
theorem q6n {p q : List Int} {k : Nat} (hk : k < p.length) (h : (p[k]).toNat < q.length) : (j31 p q).take (k + 1) = (j31 p q).take k ++ [q[(p[k]).toNat]] := by
 rw [List.take_succ_eq_append_getElem (by simpa using hk)]
 simp [j31, h]
theorem z8f {pg : Pg} (hp : pg.fn 279 = some j5h) : q7l pg 279 := by
 intro p q hl hi
 refine Call.intro hp rfl (by simp) ?_
 show wp _ _ j5h.body (post [.t 4] _ _ _) _
 simp [j5h]
 refine j0a (fun k e => e = fr [(0, some (.val (ix p))), (1, some (.val (ix q))), (5, some (.val (.mem .own (some 1) (((j31 p q).take k).map I)))), (6, some (.val (I k)))]) p.length ?_ ?_ 0 _ (by omega) ?_
 · rintro k e hk rfl
   have h1 := hi _ (List.getElem_mem hk)
   have h2 : (p[k]).toNat < q.length := by omega
   simp [hk, h1, h2, q6n hk h2, roomy]
   omega
 · rintro e rfl
   simp [take_len]
 · simp
theorem v4i {pg : Pg} (hp : pg.fn 277 = some j7k) : q7l pg 277 := by
 intro p q hl hi
 refine Call.intro hp rfl (by simp) ?_
 show wp _ _ j7k.body (post [.t 4] _ _ _) _
 simp [j7k]
 refine ⟨by unfold roomy; omega, ?_⟩
 refine j0a (fun k e => e = fr [(1, some (.val (ix q))), (5, some (.val (.mem .own (some 1) (((j31 p q).take k).map I ++ List.replicate (p.length - k) (I 0))))), (11, some (.val (ix p))), (12, some (.val (I p.length))), (13, some (.val (I k)))]) p.length ?_ ?_ 0 _ (by omega) ?_
 · rintro k e hk rfl
   have h1 := hi _ (List.getElem_mem hk)
   have h2 : (p[k]).toNat < q.length := by omega
   have hlen : (((j31 p q).take k).map I).length = k := by simp; omega
   rw [j9x (I 0) hk]
   simp only [List.map_take] at hlen
   simp [hk, h1, h2, q6n hk h2, set_mid hlen]
   omega
 · rintro e rfl
   simp [take_len]
 · simp

def z2k (pg : Pg) : Prop := ∀ a b : List Int, a.length ≤ 1048576 → Call pg 276 [ix a, ix b] [ix a, ix b] (B (decide (a = b)))
theorem w6t {pg : Pg} (hp : pg.fn 276 = some j0w) : z2k pg := by
 intro a b hl
 refine Call.intro hp rfl (by simp) ?_
 show wp _ _ j0w.body (post [.t 4] _ _ _) _
 by_cases hab : a.length = b.length
 · simp [j0w, hab]
   refine j0a (fun k e => (∀ i, i < k → a[i]? = b[i]?) ∧ e = fr [(0, some (.val (ix a))), (1, some (.val (ix b))), (12, some (.val (I a.length))), (13, some (.val (I k)))]) a.length ?_ ?_ 0 _ (by omega) ?_
   · rintro k e hk ⟨h1, rfl⟩
     have hk2 : k < b.length := by omega
     by_cases hne : a[k] = b[k]
     · simp [hk, hk2, hne]
       refine ⟨by omega, fun i hi => ?_⟩
       rcases Nat.lt_or_ge i k with h2 | h2
       · exact h1 i h2
       · have : i = k := by omega
         subst this
         rw [List.getElem?_eq_getElem hk, List.getElem?_eq_getElem hk2, hne]
     · have : a ≠ b := fun h => hne (by simp [h])
       simp [hk, hk2, hne, this]
   · rintro e ⟨h1, rfl⟩
     have : a = b := by
      apply List.ext_getElem?
      intro i
      rcases Nat.lt_or_ge i a.length with h2 | h2
      · exact h1 i h2
      · rw [List.getElem?_eq_none h2, List.getElem?_eq_none (by omega)]
     simp [this]
   · simp [hab]
 · have : a ≠ b := fun h => hab (by rw [h])
   have h2 : (a.length : Int) ≠ b.length := by omega
   simp [j0w, h2, this]


def q8u (pg : Pg) (n : Nat) : Prop := ∀ t : List (List Int), fits t → Call pg n [tb t] [tb t] (.mem .own (some 1) (rows t))
theorem q6g {t : List (List Int)} {k : Nat} (hk : k < t.length) : rows (t.take (k + 1)) = rows (t.take k) ++ [.mem .own (some 1) ((t[k]).map I)] := by
 rw [List.take_succ_eq_append_getElem hk, j8u]; rfl
theorem z8i {pg : Pg} (hp : pg.fn 280 = some j5k) (h31 : w2c pg) : q8u pg 280 := by
 intro t ht
 have hl := ht.1
 refine Call.intro hp rfl (by simp) ?_
 show wp _ _ j5k.body (post [.t 2] _ _ _) _
 simp [j5k]
 refine j0a (fun k e => e = fr [(0, some (.val (tb t))), (3, some (.val (.mem .own (some 1) (rows (t.take k))))), (4, some (.val (I k)))]) t.length ?_ ?_ 0 _ (by omega) ?_
 · rintro k e hk rfl
   simp [hk]
   refine j0e (h31 _ (ht.2 _ (List.getElem_mem hk))) rfl rfl (fun _ => by simp) ?_
   simp [q6g hk, roomy]
   omega
 · rintro e rfl
   simp [take_len]
 · simp [rows]

noncomputable def q48 {α : Type} (z : α) (X : List (List Int) → List (List Int) → α) (f s : List (List Int)) : α := if dec (j5c f s) then X f s else z
theorem j1a {α : Type} {z : α} {X : List (List Int) → List (List Int) → α} {f s : List (List Int)} (h : j5c f s) : q48 z X f s = X f s := by simp [q48, j03 h]
theorem j2i {α : Type} {z : α} {X : List (List Int) → List (List Int) → α} {f s : List (List Int)} (h : ¬ j5c f s) : q48 z X f s = z := by simp [q48, j0v h]


def abel (f : List (List Int)) : Prop := ∀ x y : Nat, x < f.length → y < f.length → j31 (f.getD x []) (f.getD y []) = j31 (f.getD y []) (f.getD x [])
instance (f : List (List Int)) : Decidable (abel f) := by
 have : abel f ↔ ∀ x ∈ List.range f.length, ∀ y ∈ List.range f.length, j31 (f.getD x []) (f.getD y []) = j31 (f.getD y []) (f.getD x []) := by
  simp only [abel, List.mem_range]
  exact ⟨fun h x hx y hy => h x y hx hy, fun h x y hx hy => h x hx y hy⟩
 exact decidable_of_iff _ this.symm
theorem Tab.inN {t : List (List Int)} (h : Tab t) {x : Nat} (hx : x < t.length) : inN t.length t[x] := fun v hv => (h _ (List.getElem_mem hx)).2 v hv

end Go.Mch
namespace Go.Mch

def act (p : List Int) (x : Int) : Int := p.getD x.toNat 0

end Go.Mch
namespace Go.Mch

theorem bx {α β : Type} {o : Option α} {f : α → Prop} {g : β → α → Prop} (hf : ∀ a, f a → ∃ r, g r a) (h : j0c o f) : ∃ r, j0c o (g r) := by
 obtain ⟨a, h1, h2⟩ := h
 obtain ⟨r, h3⟩ := hf a h2
 exact ⟨r, a, h1, h3⟩
theorem ax {β : Type} {p : Prop} {K : β → Prop} (h : p ∧ ∃ r, K r) : ∃ r, p ∧ K r := by
 obtain ⟨h1, r, h2⟩ := h
 exact ⟨r, h1, h2⟩

theorem z2x {β : Type} {G : Rl} {m : K} {d : Option Nat} {q : Q} {k : β → Env → Prop} {e : Env} (h : j0l G m d q (fun e => ∃ r, k r e) e) : ∃ r, j0l G m d q (k r) e := by
 cases q <;> simp only [j0l] at h ⊢
 case mv => exact bx (fun _ h => h) h
 case mvw => exact bx (fun _ h => ax h) h
 case stsw => exact bx (fun _ h => bx (fun _ h => bx (fun _ h => ax ⟨h.1, bx (fun _ h => h) h.2⟩) h) h) h
 case sts x y =>
  refine bx (fun a ha => bx (fun v hv => ?_) ha) h
  split at hv
  · split at hv
    · exact ax hv
    · exact hv.elim
  · exact hv.elim
 case asg x =>
  refine bx (fun v hv => ?_) h
  cases v
  case val t => exact hv
  all_goals exact bx (fun _ h => h) hv
 case pick => exact bx (fun _ h => bx (fun _ h => h) h) h
 case bin => exact bx (fun _ h => bx (fun _ h => bx (fun _ h => h) h) h) h
 case beq => exact bx (fun _ h => bx (fun _ h => h) h) h
 case isnil => exact bx (fun _ h => h) h
 case fncl => exact bx (fun _ h => bx (fun _ h => h) h) h
 case slen => exact bx (fun _ h => h) h
 case un => exact bx (fun _ h => bx (fun _ h => h) h) h
 case conv => exact bx (fun _ h => h) h
 case len => exact bx (fun _ h => h) h
 case idx => exact bx (fun _ h => bx (fun _ h => bx (fun _ h => h) h) h) h
 case fld => exact bx (fun _ h => bx (fun _ h => h) h) h
 case fldv => exact bx (fun _ h => bx (fun _ h => h) h) h
 case ld => exact bx (fun _ h => bx (fun _ h => h) h) h
 case st =>
  refine bx (fun a ha => bx (fun v hv => bx (fun y hy => ?_) hv) ha) h
  split at hy
  · split at hy
    · exact ax hy
    · exact hy.elim
  · exact hy.elim
 case nilck =>
  refine bx (fun a ha => ?_) h
  split at ha
  · exact ha
  · exact ha
  · exact ha.elim
 case alloc => exact h
 case box => exact bx (fun _ h => bx (fun _ h => ax h) h) h
 case build => exact bx (fun _ h => bx (fun _ h => h) h) h
 case mks => exact bx (fun _ h => ax h) h
 case bsl => exact bx (fun _ h => bx (fun _ h => ax h) h) h
 case app =>
  refine bx (fun a ha => bx (fun b hb => bx (fun z hz => bx (fun u hu => ?_) hz) hb) ha) h
  have h2 := hu.2
  split at h2
  · by_cases h0 : u.1 = []
    · obtain ⟨r, h3⟩ := h2.1 h0
      exact ⟨r, hu.1, fun _ => h3, fun h4 => (h4 h0).elim⟩
    · obtain ⟨r, h3⟩ := h2.2 h0
      exact ⟨r, hu.1, fun h4 => (h0 h4).elim, fun _ => h3⟩
  · obtain ⟨r, h3⟩ := h2
    exact ⟨r, hu.1, h3⟩
 case sl => exact bx (fun _ h => bx (fun _ h => bx (fun _ h => bx (fun _ h => h) h) h) h) h
 case ext => exact bx (fun _ h => bx (fun _ h => h) h) h
 case fnc => exact bx (fun _ h => h) h
 case call f args =>
  refine bx (fun fv hv => ?_) h
  split at hv
  · refine bx (fun ts ht => ?_) hv
    obtain ⟨ts', r, h1, h2, h3, h4⟩ := ht
    obtain ⟨y, h5⟩ := bx (fun _ h => h) h4
    exact ⟨y, ts', r, h1, h2, h3, h5⟩
  · exact hv.elim
 case freeze => exact bx (fun _ h => h) h
 case settle => exact bx (fun _ h => h) h
 case mm => exact bx (fun _ h => bx (fun _ h => bx (fun _ h => h) h) h) h
 case cap0 => exact bx (fun _ h => bx (fun _ h => h) h) h
 case bstr => exact bx (fun _ h => bx (fun _ h => h) h) h
 case bsls => exact bx (fun _ h => bx (fun _ h => ax h) h) h
 case bslv => exact bx (fun _ h => bx (fun _ h => h) h) h
 case tk1 => exact bx (fun _ h => bx (fun _ h => ax h) h) h
 case exts => exact bx (fun _ h => bx (fun _ h => h) h) h
 case mvs => exact bx (fun _ h => bx (fun _ h => h) h) h
 case bslw => exact bx (fun _ h => bx (fun _ h => h) h) h
 case calls => exact bx (fun _ h => bx (fun _ h => bx (fun _ h => bx (fun _ h => bx (fun _ h => bx (fun _ h => bx (fun _ h => by
  obtain ⟨h0, ts', r, h1, x, h2⟩ := h
  exact ⟨x, h0, ts', r, h1, h2⟩) h) h) h) h) h) h) h
 case bsl1 n =>
  refine bx (fun v hv => ?_) h
  split at hv
  · exact ax hv
  · exact hv.elim
 case apz =>
  refine bx (fun v hv => bx (fun _ hv => ?_) hv) h
  split at hv
  · exact ax hv
  · exact hv.elim
 case arr => exact bx (fun _ h => bx (fun _ h => bx (fun _ h => h) h) h) h
 case mkset => exact h
 case look => exact bx (fun _ h => bx (fun _ h => bx (fun _ h => h) h) h) h
 case upd => exact bx (fun _ h => bx (fun _ h => bx (fun _ h => h) h) h) h
 case bslk x n =>
  refine bx (fun v hv => bx (fun u hu => ?_) hv) h
  split at hu
  · exact ax hu
  · exact hu.elim
 case appk x y n =>
  refine bx (fun v hv => bx (fun v hv => bx (fun v hv => bx (fun v hv => bx (fun u hu => ?_) hv) hv) hv) hv) h
  split at hu
  · exact ax hu
  · exact hu.elim
 case boxk s =>
  refine bx (fun v hv => ?_) h
  split at hv
  · exact ax hv
  · exact hv.elim
 case callm f args ks =>
  refine bx (fun fv hv => ?_) h
  cases fv <;> try exact hv.elim
  rename_i t
  cases t <;> try exact hv.elim
  refine bx (fun vs hv => ax ⟨hv.1, bx (fun y hy => ?_) hv.2⟩) hv
  obtain ⟨h0, ts', r, h1, h2, h3⟩ := hy
  obtain ⟨z, h4⟩ := bx (fun _ h => bx (fun _ h => h) h) h3
  exact ⟨z, h0, ts', r, h1, h2, h4⟩
 refine bx (fun a ha => bx (fun n hn => ?_) ha) h
 split at hn
 · exact bx (fun _ h => h) hn
 · exact hn.elim

theorem w21 {β : Type} {G : Rl} {m : K} {o : O} {k : β → Env → Prop} {e : Env} (h : j1b G m o (fun e => ∃ r, k r e) e) : ∃ r, j1b G m o (k r) e := by
 unfold j1b at *
 split
 · rename_i hg; simp only [hg] at h; exact z2x h
 · rename_i s b hg
   simp only [hg] at h
   split at h
   · split at h
     · rename_i h1; simp only [if_pos h1]; exact z2x h
     · rename_i h1; simp only [if_neg h1]; exact h
   · exact h
   · exact h.elim

theorem w45 {β : Type} {G : Rl} {m : K} : ∀ (l : List O) {k : β → Env → Prop} {e : Env}, wpL G m l (fun e => ∃ r, k r e) e → ∃ r, wpL G m l (k r) e
 | [], _, _, h => h
 | _ :: l, k, _, h => w21 (k := fun r => wpL G m l (k r)) (q6q (fun _ _ _ _ h => h) (fun _ h => w45 l h) h)

theorem z4v {β : Type} {n : β → Env → Prop} {R : β → X → Env → Prop} : ∀ x e, X.after (fun e => ∃ r, n r e) (fun x e => ∃ r, R r x e) x e → ∃ r, X.after (n r) (R r) x e
 | .nrm, _, h => h
 | .ext _, _, h => h
 | .ret, _, h => h

theorem v3l {β : Type} {G : Rl} {m : K} (c : C) : ∀ {R : β → X → Env → Prop} {e : Env}, wp G m c (fun x e => ∃ r, R r x e) e → ∃ r, wp G m c (R r) e := by
 induction c with
 | skip => exact fun h => h
 | region dr ops ks => exact fun h => w45 ops h
 | seq a b iha ihb =>
  intro R e h
  exact iha (wp_mono (fun _ _ _ _ h => h) a (fun x e hx => z4v x e (j6g (fun _ h => ihb h) (fun _ _ h => h) x e hx)) h)
 | cond c a b iha ihb =>
  intro R e h
  refine bx (fun t ht => ?_) h
  cases t
  · exact ihb ht
  · exact iha ht
 | block id b ih =>
  intro R e h
  refine ih (wp_mono (fun _ _ _ _ h => h) b (fun x e hx => ?_) h)
  cases x
  · exact hx
  · simp only [X.out] at hx ⊢
    split at hx
    · rename_i h1; simp only [if_pos h1]; exact hx
    · rename_i h1; simp only [if_neg h1]; exact hx
  · exact hx
 | loop b ih =>
  intro R e h
  refine h (fun e => ∃ r, wp G m (.loop b) (R r) e) fun e he => ?_
  obtain ⟨r, hr⟩ := ih (R := fun r => X.after (wp G m (.loop b) (R r)) (R r)) (wp_mono (fun _ _ _ _ h => h) b (fun x e hx => z4v x e hx) he)
  exact ⟨r, j6l hr⟩
 | exit id => exact fun h => h
 | ret => exact fun h => h
 | stuck => exact fun h => h.elim

theorem Call.find {α : Type} {pg : Pg} {f : Nat} {args : List T} {fn : F} {r : α → T} {Q : α → Prop} (hf : pg.fn f = some fn) (hn : fn.np = args.length) (hl : T.j0m args = true)
 (h : wp (Call pg) .fresh fn.body (fun x e => ∃ l, Q l ∧ post fn.rs args args (r l) x e) (init args)) : ∃ l, Q l ∧ Call pg f args args (r l) := by
 obtain ⟨⟨l, hq⟩, hl2⟩ := v3l (β := { l // Q l }) (R := fun l x e => post fn.rs args args (r l.1) x e) fn.body (wp_mono (fun _ _ _ _ h => h) _ (fun _ _ ⟨l, hq, hp⟩ => ⟨⟨l, hq⟩, hp⟩) h)
 exact ⟨l, hq, Call.intro hf hn hl hl2⟩
end Go.Mch
namespace Go.Mch

@[simp] theorem dec_True : dec True = true := j03 trivial
@[simp] theorem v9z : dec False = false := j0v id

end Go.Mch
namespace Go.Mch

def j6v (pg : Pg) (n : Nat) : Prop := ∀ (xs : List Int) (v : Int), xs.length ≤ 1048576 → Call pg n [ix xs, I v] [ix xs, I v] (I (ixOf xs v))
theorem q7s {pg : Pg} (hp : pg.fn 384 = some j0s) : j6v pg 384 := by
 intro xs v hl
 refine Call.intro hp rfl (by simp) ?_
 show wp _ _ j0s.body (post [.t 4] _ _ _) _
 simp [j0s]
 refine j0a (fun k e => (∀ i (h : i < xs.length), i < k → xs[i] ≠ v) ∧ e = fr [(0, some (.val (ix xs))), (1, some (.val (I v))), (7, some (.val (I xs.length))), (8, some (.val (I k)))]) xs.length ?_ ?_ 0 _ (by omega) ?_
 · rintro k e hk ⟨h1, rfl⟩
   by_cases hm : xs[k] = v
   · have := q2u hk (fun i hi => h1 i (by omega) hi) hm
     simp [hk, hm, this]
   · have hm2 : ¬ v = xs[k] := fun h => hm h.symm
     simp [hk, hm2]
     refine ⟨by omega, fun i hi hik => ?_⟩
     rcases Nat.lt_or_ge i k with h2 | h2
     · exact h1 i hi h2
     · have : i = k := by omega
       subst this; exact hm
 · rintro e ⟨h1, rfl⟩
   have := z0e (xs := xs) (n := v) (fun i hi => h1 i hi hi)
   simp [this]
 · simp
theorem z8l {pg : Pg} (hp : pg.fn 287 = some j5o) (h384 : j6v pg 384) : j6v pg 287 := by
 intro xs v hl
 refine Call.intro hp rfl (by simp) ?_
 show wp _ _ j5o.body (post [.t 4] _ _ _) _
 have := j7z xs v
 simp [j5o]
 refine j0e (h384 xs v hl) rfl rfl (fun _ => rfl) ?_
 simp

end Go.Mch
namespace Go.Mch

def j1t (xs : List Int) : List Int := xs.foldl (fun s x => if x ∈ s then s else s ++ [x]) []
theorem j43 {xs : List Int} {k : Nat} (hk : k < xs.length) : j1t (xs.take (k + 1)) = if xs[k] ∈ j1t (xs.take k) then j1t (xs.take k) else j1t (xs.take k) ++ [xs[k]] := by
 rw [List.take_succ_eq_append_getElem hk]
 simp only [j1t, List.foldl_append, List.foldl_cons, List.foldl_nil]
 rfl
theorem w1g (s : List Int) (x : Int) : T.eryL .old (s.map I ++ [I x]) = (s ++ [x]).map I := by
 rw [show s.map I ++ [I x] = (s ++ [x]).map I from by simp, w1f]
theorem j71 (xs : List Int) : (j1t xs).length ≤ xs.length := by
 have : ∀ (l s : List Int), (l.foldl (fun s x => if x ∈ s then s else s ++ [x]) s).length ≤ s.length + l.length := by
  intro l
  induction l with
  | nil => intro s; simp
  | cons x l ih =>
   intro s
   simp only [List.foldl_cons, List.length_cons]
   refine Nat.le_trans (ih _) ?_
   split <;> simp <;> omega
 simpa [j1t] using this xs []
theorem q79 {s : List Int} {x : Int} (h : x ∉ s) : ixOf (s ++ [x]) x = s.length :=
 q2u (by simp) (fun i hi he => h (by rw [← he, List.getElem_append_left hi]; exact List.getElem_mem hi)) (by simp)
def j8w (xs : List Int) : List Int := (List.range xs.length).map fun k => ixOf (j1t (xs.take (k + 1))) (xs.getD k 0)
@[simp] theorem w5k (xs : List Int) : (j8w xs).length = xs.length := by simp [j8w]

def q3b (pg : Pg) (n : Nat) : Prop := ∀ xs : List Int, xs.length ≤ 1048576 → Call pg n [ix xs] [ix xs] (.mem .own (some 1) ((j8w xs).map I))
theorem z5i {pg : Pg} (hp : pg.fn 385 = some j3d) (h62 : w2k pg) (h69 : q05 pg) : q3b pg 385 := by
 intro xs hl
 refine Call.intro hp rfl (by simp) ?_
 show wp _ _ j3d.body (post [.t 2] _ _ _) _
 simp [j3d]
 refine j0a (fun k e => e = fr [(0, some (.val (ix xs))), (3, some (.val (.mem .own (some 1) ((j1t (xs.take k)).map I)))), (4, some (.val (.mem .own (some 1) (((List.range k).map fun k => ixOf (j1t (xs.take (k + 1))) (xs.getD k 0)).map I)))), (5, some (.val (I k)))]) xs.length ?_ ?_ 0 _ (by omega) ?_
 · rintro k e hk rfl
   have hu := j71 (xs.take k)
   have hu2 := j71 (xs.take (k + 1))
   simp only [List.length_take] at hu hu2
   simp [hk]
   refine j0e (h62 _ _ (by omega)) rfl rfl (fun _ => rfl) ?_
   have hs := j43 hk
   by_cases hm : xs[k] ∈ j1t (xs.take k)
   · rw [if_pos hm] at hs
     simp [hm, hk]
     refine j0e (h69 _ _ (by omega)) rfl rfl (fun _ => rfl) ?_
     simp [j17, hs, hk, roomy]
     omega
   · rw [if_neg hm] at hs
     simp [hm, hk, roomy]
     refine ⟨by omega, ?_⟩
     have := h69 (j1t (xs.take k) ++ [xs[k]]) xs[k] (by rw [← hs]; omega)
     rw [w1g]
     refine j0e this rfl rfl (fun _ => rfl) ?_
     simp [j17, hs, hk, roomy]
     omega
 · rintro e rfl
   simp [j8w]
 · simp [j1t]

def q8r (pg : Pg) : Prop := ∀ v : Int, Call pg 384 [nil, I v] [nil, I v] (I (-1))
theorem q6c {pg : Pg} (hp : pg.fn 384 = some j0s) : q8r pg := by
 intro v
 refine Call.intro hp rfl (by simp) ?_
 show wp _ _ j0s.body (post [.t 4] _ _ _) _
 simp [j0s]
 refine j6l ?_
 simp
set_option maxRecDepth 10000 in
theorem z5l {pg : Pg} (hp : pg.fn 386 = some j4y) (h384 : j6v pg 384) (h0 : q8r pg) : q3b pg 386 := by
 intro xs hl
 refine Call.intro hp rfl (by simp) ?_
 show wp _ _ j4y.body (post [.t 2] _ _ _) _
 simp [j4y]
 refine ⟨by unfold roomy; omega, ?_⟩
 refine j0a (fun k e => e = fr [(3, some (.val (if k = 0 then nil else .mem .own (some 1) ((j1t (xs.take k)).map I)))), (4, some (.val (.mem .own (some 1) (((List.range k).map fun k => ixOf (j1t (xs.take (k + 1))) (xs.getD k 0)).map I ++ List.replicate (xs.length - k) (I 0))))), (11, some (.val (ix xs))), (12, some (.val (I xs.length))), (13, some (.val (I k)))]) xs.length ?_ ?_ 0 _ (by omega) ?_
 · rintro k e hk rfl
   have hu := j71 (xs.take k)
   simp only [List.length_take] at hu
   have hlen : (((List.range k).map fun k => ixOf (j1t (xs.take (k + 1))) (xs.getD k 0)).map I).length = k := by simp
   rw [j9x (I 0) hk]
   have hs := j43 hk
   by_cases hk0 : k = 0
   · subst hk0
     have hs : j1t (xs.take 1) = [xs[0]] := by simpa [j1t] using hs
     have hi : ixOf [xs[0]] xs[0] = 0 := by simp [ixOf]
     simp [hk]
     refine j0e (h0 _) rfl rfl (fun _ => rfl) ?_
     simp [roomy, hs, hi]
   · simp [hk, hk0]
     refine j0e (h384 _ _ (by omega)) rfl rfl (fun _ => rfl) ?_
     have hm := j45 (j1t (xs.take k)) xs[k]
     by_cases hm2 : xs[k] ∈ j1t (xs.take k)
     · rw [if_pos hm2] at hs
       have h1 : ¬ ixOf (j1t (xs.take k)) xs[k] < 0 := by have := hm.2 hm2; omega
       simp [h1, hk, j17, hs]
       omega
     · rw [if_neg hm2] at hs
       have h1 : ixOf (j1t (xs.take k)) xs[k] < 0 := by
        have := mt hm.1 hm2; omega
       have h2 := q79 hm2
       simp [h1, hk, j17, hs, h2, roomy]
       omega
 · rintro e rfl
   simp [j8w]
 · simp
end Go.Mch
namespace Go.Mch

theorem PM.v9r {f s : List (List Int)} (h : PM f s) : fits f := ⟨by have := h.small; omega, fun r hr => by have := (h.tf r hr).1; have := h.small; omega⟩
theorem q1w (k : K) (t : List (List Int)) : T.frzL k (rows t) = t.map fun xs => .mem k (some 1) (xs.map I) := by
 have hI : ∀ xs : List Int, T.frzL k (xs.map I) = xs.map I := fun xs => by
  induction xs with
  | nil => rfl
  | cons x xs ih => simp [ih]
 induction t with
 | nil => rfl
 | cons r t ih =>
  show T.frz k _ :: T.frzL k (rows t) = _
  rw [ih]
  simp [hI]
theorem q3n (t : List (List Int)) : T.j0m (T.frzL .fresh (rows t)) = true ∧ T.eryL .old (T.frzL .fresh (rows t)) = tbL t := by
 rw [q1w]
 induction t with
 | nil => exact ⟨rfl, rfl⟩
 | cons r t ih => exact ⟨by simp [ih.1], by simp [ih.2, tbL]⟩

end Go.Mch
namespace Go.Mch

def greatest (xs : List Int) : Int := xs.foldl (fun a x => if a ≤ x then x + 1 else a) 0
theorem j50 {xs : List Int} {k : Nat} (hk : k < xs.length) : greatest (xs.take (k + 1)) = if greatest (xs.take k) ≤ xs[k] then xs[k] + 1 else greatest (xs.take k) := by
 rw [List.take_succ_eq_append_getElem hk]
 simp only [greatest, List.foldl_append, List.foldl_cons, List.foldl_nil]
 rfl
def q3g (pg : Pg) : Prop := ∀ xs : List Int, xs.length ≤ 1048576 → (∀ x ∈ xs, 0 ≤ x ∧ x ≤ 1048576) → Call pg 288 [ix xs] [ix xs] (I (greatest xs))
theorem z5t {pg : Pg} (hp : pg.fn 288 = some j3h) : q3g pg := by
 intro xs hl hx
 refine Call.intro hp rfl (by simp) ?_
 show wp _ _ j3h.body (post [.t 2] _ _ _) _
 simp [j3h]
 refine j0a (fun k e => e = fr [(0, some (.val (ix xs))), (3, some (.val (I (greatest (xs.take k))))), (4, some (.val (I k)))]) xs.length ?_ ?_ 0 _ (by omega) ?_
 · rintro k e hk rfl
   have h1 := hx _ (List.getElem_mem hk)
   have hs := j50 hk
   by_cases hg : greatest (xs.take k) ≤ xs[k]
   · rw [if_pos hg] at hs
     simp [hk, hg, hs]
     omega
   · rw [if_neg hg] at hs
     simp [hk, hg, hs]
     omega
 · rintro e rfl
   simp
 · simp [greatest]
def eqv (a b : List (List Int)) (i j : Nat) : Prop := a.getD i [] = a.getD j [] ∧ b.getD i [] = b.getD j []
instance (a b : List (List Int)) (i j : Nat) : Decidable (eqv a b i j) := by unfold eqv; infer_instance
def lab (a b : List (List Int)) (i : Nat) : Nat := ((List.range i).find? fun j => decide (eqv a b i j)).getD i
theorem z3s {a b : List (List Int)} {i m : Nat} (h1 : m ≤ i) (h2 : m < i → eqv a b i m) (h3 : ∀ k, k < m → ¬ eqv a b i k) : lab a b i = m := by
 unfold lab
 rcases Nat.lt_or_ge m i with h | h
 · have : (List.range i).find? (fun j => decide (eqv a b i j)) = some m := by
    rw [List.find?_range_eq_some]
    exact ⟨by simpa using h2 h, by simpa using h, fun j hj => by simpa using h3 j hj⟩
   rw [this]; rfl
 · have hm : m = i := by omega
   subst hm
   have : (List.range m).find? (fun j => decide (eqv a b m j)) = none := by
    rw [List.find?_range_eq_none]
    intro j hj
    simpa using h3 j hj
   rw [this]; rfl
theorem w0n {a b : List (List Int)} {i j : Nat} (h1 : eqv a b i j) (h3 : ∀ k, k < j → ¬ eqv a b i k) : lab a b j = j :=
 z3s (Nat.le_refl _) (fun h => by omega) (fun k hk hh => h3 k hk ⟨h1.1.trans hh.1, h1.2.trans hh.2⟩)
def classes (f s : List (List Int)) : List Int := j8w ((List.range f.length).map fun i => (lab f (j4o s) i : Int))
@[simp] theorem j4f (f s : List (List Int)) : (classes f s).length = f.length := by simp [classes]
def j5s (pg : Pg) (n : Nat) : Prop := ∀ f s : List (List Int), PM f s → Call pg n [sol f s] [sol f s] (.mem .own (some 1) ((classes f s).map I))

theorem j3p {t : List (List Int)} {i : Nat} (h : i < t.length) : t.getD i [] = t[i] := by simp [h]
set_option maxRecDepth 10000 in
theorem q9a {pg : Pg} (hp : pg.fn 289 = some j3s) (h265 : q3r pg 265) (h67 : z4y pg) (h385 : q3b pg 385) : j5s pg 289 := by
 intro f s h
 have h0 := h.pos
 have h12 := h.small
 have hls := h.len
 refine Call.intro hp rfl (by simp) ?_
 show wp _ _ j3s.body (post [.t 2] _ _ _) _
 simp [j3s]
 refine j0e (h265 s h.ts (by omega)) rfl rfl (fun _ => by simp) ?_
 have hb : (j4o s).length = f.length := by simp [hls]
 have hbr : ∀ r ∈ j4o s, r.length ≤ 1048576 := fun r hr => by rw [j4j hr]; omega
 generalize hbe : j4o s = b at *
 simp
 refine j0a (fun i e => e = fr [(1, some (.val (.mem .own none [tb f, tb s]))), (3, some (.val (.mem .own (some 1) (rows b)))), (4, some (.val (.mem .own (some 1) (((List.range i).map fun i => (lab f b i : Int)).map I)))), (5, some (.val (I i)))]) f.length ?_ ?_ 0 _ (by omega) ?_
 · rintro i e hi rfl
   have hib : i < b.length := by omega
   simp [hi]
   refine ⟨by omega, ?_⟩
   refine j0a (fun c e => ∃ m : Nat, m ≤ i ∧ i - c ≤ m ∧ (m < i → eqv f b i m) ∧ (∀ k, i - c ≤ k → k < m → ¬ eqv f b i k) ∧ e = fr [(1, some (.val (.mem .own none [tb f, tb s]))), (3, some (.val (.mem .own (some 1) (rows b)))), (4, some (.val (.mem .own (some 1) (((List.range i).map fun i => (lab f b i : Int)).map I)))), (5, some (.val (I i))), (6, some (.val (I m))), (7, some (.val (I ((i : Int) - 1 - c))))]) i ?_ ?_ 0 _ (by omega) ?_
   · rintro c e hc ⟨m, hm1, hm2, hm3, hm4, rfl⟩
     have hj : (i : Int) - 1 - c = ((i - 1 - c : Nat) : Int) := by omega
     rw [hj]
     generalize hje : i - 1 - c = j at *
     have hji : j < i := by omega
     have hjf : j < f.length := by omega
     have hjb : j < b.length := by omega
     have hj0 : (0 : Int) ≤ j := by omega
     have l1 : (f[i]).length ≤ 1048576 := by have := (h.tf _ (List.getElem_mem hi)).1; omega
     have l2 : (b[i]).length ≤ 1048576 := hbr _ (List.getElem_mem hib)
     simp [hi, hjf]
     refine j0e (h67 _ _ l1) rfl rfl (fun _ => rfl) ?_
     by_cases q1 : f[i] = f[j]
     · have e1 : (rows b)[i]? = some (.mem .own (some 1) (b[i].map I)) := by simp [rows, hib]
       have e2 : (rows b)[j]? = some (.mem .own (some 1) (b[j].map I)) := by simp [rows, hjb]
       simp [q1, hib, hjb]
       refine j0e (h67 _ _ l2) rfl rfl (fun _ => rfl) ?_
       by_cases q2 : b[i] = b[j]
       · have hq : eqv f b i j := ⟨by rw [j3p hi, j3p hjf]; exact q1, by rw [j3p hib, j3p hjb]; exact q2⟩
         simp [q2]
         refine ⟨by omega, j, by omega, by omega, fun _ => hq, fun k h1 h2 => by omega, ?_⟩
         rw [show (j : Int) - 1 = (i : Int) - 1 - ((c : Int) + 1) from by omega]
       · have hq : ¬ eqv f b i j := fun hh => q2 (by rw [← j3p hib, ← j3p hjb]; exact hh.2)
         simp [q2]
         refine ⟨by omega, m, hm1, by omega, hm3, fun k h1 h2 => ?_, ?_⟩
         · by_cases hk : k = j
           · subst hk; exact hq
           · exact hm4 k (by omega) h2
         · rw [show (j : Int) - 1 = (i : Int) - 1 - ((c : Int) + 1) from by omega]
     · have hq : ¬ eqv f b i j := fun hh => q1 (by rw [← j3p hi, ← j3p hjf]; exact hh.1)
       simp [q1, j0x]
       refine ⟨by omega, m, hm1, by omega, hm3, fun k h1 h2 => ?_, ?_⟩
       · by_cases hk : k = j
         · subst hk; exact hq
         · exact hm4 k (by omega) h2
       · rw [show (j : Int) - 1 = (i : Int) - 1 - ((c : Int) + 1) from by omega]
   · rintro e ⟨m, hm1, hm2, hm3, hm4, rfl⟩
     have hl := z3s hm1 hm3 (fun k hk => hm4 k (by omega) hk)
     have hneg : ¬ ((i : Int) ≤ (i : Int) - 1) := by omega
     simp [j17, hl, roomy, hneg]
     omega
   · exact ⟨i, by omega, by omega, fun h => by omega, fun k h1 h2 => by omega, by simp⟩
 · rintro e rfl
   have hr := h385 ((List.range f.length).map fun i => (lab f b i : Int)) (by simp; omega)
   have hcl : classes f s = j8w ((List.range f.length).map fun i => (lab f b i : Int)) := by rw [classes, hbe]
   have hlL : ((List.range f.length).map fun i => (lab f b i : Int)).length = f.length := by simp
   rw [hcl]
   generalize ((List.range f.length).map fun i => (lab f b i : Int)) = L at hr hlL ⊢
   simp [← hlL]
   refine j0e hr rfl rfl (fun _ => by simp) ?_
   simp
 · simp

def idL (n : Nat) : List Int := (List.range n).map fun i : Nat => (i : Int)
@[simp] theorem v2k (n : Nat) : (idL n).length = n := by simp [idL]
theorem z3y (n : Nat) : idL (n + 1) = idL n ++ [(n : Int)] := by simp [idL, List.range_succ]
def q0h (pg : Pg) : Prop := ∀ n : Nat, n ≤ 1048576 → Call pg 335 [I n] [I n] (.mem .own (some 1) ((idL n).map I))
theorem z5s {pg : Pg} (hp : pg.fn 335 = some j40) : q0h pg := by
 intro n hn
 refine Call.intro hp rfl (by simp) ?_
 show wp _ _ j40.body (post [.t 2] _ _ _) _
 simp [j40]
 refine ⟨by unfold roomy; omega, ?_⟩
 refine j0a (fun k e => e = fr [(3, some (.val (.mem .own (some 1) ((idL k).map I ++ List.replicate (n - k) (I 0))))), (8, some (.val (I n))), (9, some (.val (I k)))]) n ?_ ?_ 0 _ (by omega) ?_
 · rintro k e hk rfl
   have hlen : ((idL k).map I).length = k := by simp
   rw [j9x (I 0) hk]
   simp [hk, set_mid hlen, z3y]
   omega
 · rintro e rfl
   simp
 · simp [idL]

def midL (a b : List (List Int)) (n i : Nat) : List Int := (List.range n).map fun x : Nat => if x < i then (lab a b x : Int) else (x : Int)
@[simp] theorem w8d (a b : List (List Int)) (n i : Nat) : (midL a b n i).length = n := by simp [midL]
theorem w3y {a b : List (List Int)} {n i j : Nat} (hi : j < i) (h : j < (midL a b n i).length) : (midL a b n i)[j] = (lab a b j : Int) := by simp [midL, hi]
theorem w0f (a b : List (List Int)) (n : Nat) : midL a b n 0 = idL n := by simp [midL, idL]
theorem w0h (a b : List (List Int)) (n : Nat) : midL a b n n = (List.range n).map fun x => (lab a b x : Int) := by
 apply List.map_congr_left
 intro x hx
 rw [if_pos (by simpa using hx)]
theorem w3x (a b : List (List Int)) (n i : Nat) : (midL a b n i).set i (lab a b i : Int) = midL a b n (i + 1) := by
 apply List.ext_getElem
 · simp
 · intro k h1 h2
   simp only [List.getElem_set, midL, List.getElem_map, List.getElem_range]
   by_cases hk : i = k
   · subst hk; simp
   · rw [if_neg hk]
     by_cases h3 : k < i
     · rw [if_pos h3, if_pos (by omega)]
     · rw [if_neg h3, if_neg (by omega)]
theorem w0g {a b : List (List Int)} {n i : Nat} (h : lab a b i = i) : midL a b n (i + 1) = midL a b n i := by
 apply List.map_congr_left
 intro x _
 by_cases hx : x = i
 · subst hx; simp [h]
 · by_cases h3 : x < i
   · rw [if_pos h3, if_pos (by omega)]
   · rw [if_neg h3, if_neg (by omega)]

set_option maxRecDepth 10000 in
theorem q6e {pg : Pg} (hp : pg.fn 291 = some j25) (h267 : q3r pg 267) (h335 : q0h pg) (h276 : z2k pg) (h386 : q3b pg 386) : j5s pg 291 := by
 intro f s h
 have h0 := h.pos
 have h12 := h.small
 have hls := h.len
 refine Call.intro hp rfl (by simp) ?_
 show wp _ _ j25.body (post [.t 2] _ _ _) _
 simp [j25]
 refine j0e (h267 s h.ts (by omega)) rfl rfl (fun _ => by simp) ?_
 have hb : (j4o s).length = f.length := by simp [hls]
 have hbr : ∀ r ∈ j4o s, r.length ≤ 1048576 := fun r hr => by rw [j4j hr]; omega
 generalize hbe : j4o s = b at *
 simp
 refine j0e (h335 f.length (by omega)) rfl rfl (fun _ => by simp) ?_
 simp
 refine j0a (fun i e => e = fr [(1, some (.val (.mem .own none [tb f, tb s]))), (3, some (.val (.mem .own (some 1) (rows b)))), (4, some (.val (.mem .own (some 1) ((midL f b f.length i).map I)))), (15, some (.val (I f.length))), (16, some (.val (I i)))]) f.length ?_ ?_ 0 _ (by omega) ?_
 · rintro i e hi rfl
   have hib : i < b.length := by omega
   simp [hi]
   refine j0a (fun j e => (∀ k, k < j → ¬ eqv f b i k) ∧ e = fr [(1, some (.val (.mem .own none [tb f, tb s]))), (3, some (.val (.mem .own (some 1) (rows b)))), (4, some (.val (.mem .own (some 1) ((midL f b f.length i).map I)))), (5, some (.val (I i))), (15, some (.val (I f.length))), (16, some (.val (I i))), (19, some (.val (I i))), (20, some (.val (I j)))]) i ?_ ?_ 0 _ (by omega) ?_
   · rintro j e hji ⟨hm, rfl⟩
     have hjf : j < f.length := by omega
     have hjb : j < b.length := by omega
     have l1 : (f[i]).length ≤ 1048576 := by have := (h.tf _ (List.getElem_mem hi)).1; omega
     have l2 : (b[i]).length ≤ 1048576 := hbr _ (List.getElem_mem hib)
     simp [hi, hjf, hji]
     refine j0e (h276 _ _ l1) rfl rfl (fun _ => rfl) ?_
     by_cases q1 : f[i] = f[j]
     · have e1 : (rows b)[i]? = some (.mem .own (some 1) (b[i].map I)) := by simp [rows, hib]
       have e2 : (rows b)[j]? = some (.mem .own (some 1) (b[j].map I)) := by simp [rows, hjb]
       simp [q1, hib, hjb]
       refine j0e (h276 _ _ l2) rfl rfl (fun _ => rfl) ?_
       by_cases q2 : b[i] = b[j]
       · have hq : eqv f b i j := ⟨by rw [j3p hi, j3p hjf]; exact q1, by rw [j3p hib, j3p hjb]; exact q2⟩
         have e3 : lab f b i = j := z3s (by omega) (fun _ => hq) hm
         have e4 : lab f b j = j := w0n hq hm
         have hg := w3y (a := f) (b := b) (n := f.length) hji
         have hs := w3x f b f.length i
         rw [e3] at hs
         simp [q2, hi, hjf, hg, e4]
         refine ⟨by omega, ?_⟩
         rw [← hs]
         simp
         omega
       · have hq : ¬ eqv f b i j := fun hh => q2 (by rw [← j3p hib, ← j3p hjb]; exact hh.2)
         simp [q2]
         refine ⟨by omega, fun k hk => ?_⟩
         by_cases hkj : k = j
         · subst hkj; exact hq
         · exact hm k (by omega)
     · have hq : ¬ eqv f b i j := fun hh => q1 (by rw [← j3p hi, ← j3p hjf]; exact hh.1)
       simp [q1, j0x]
       refine ⟨by omega, fun k hk => ?_⟩
       by_cases hkj : k = j
       · subst hkj; exact hq
       · exact hm k (by omega)
   · rintro e ⟨hm, rfl⟩
     have e3 : lab f b i = i := z3s (Nat.le_refl _) (fun h => by omega) hm
     simp [w0g (n := f.length) e3]
     omega
   · simp
 · rintro e rfl
   have hr := h386 ((List.range f.length).map fun i => (lab f b i : Int)) (by simp; omega)
   have hcl : classes f s = j8w ((List.range f.length).map fun i => (lab f b i : Int)) := by rw [classes, hbe]
   have hlL : ((List.range f.length).map fun i => (lab f b i : Int)).length = f.length := by simp
   rw [hcl, w0h]
   generalize ((List.range f.length).map fun i => (lab f b i : Int)) = L at hr hlL ⊢
   simp [← hlL]
   refine j0e hr rfl rfl (fun _ => by simp) ?_
   simp
 · simp [w0f]

theorem z9w {xs : List Int} {x : Int} (h : x ∈ j8w xs) : 0 ≤ x ∧ x < xs.length := by
 simp only [j8w, List.mem_map, List.mem_range] at h
 obtain ⟨k, hk, rfl⟩ := h
 have h1 := j7z (j1t (xs.take (k + 1))) (xs.getD k 0)
 have h2 := j71 (xs.take (k + 1))
 have h3 : xs.getD k 0 ∈ j1t (xs.take (k + 1)) := by
  rw [j43 hk, List.getD_eq_getElem?_getD, List.getElem?_eq_getElem hk, Option.getD_some]
  split
  · assumption
  · simp
 have h4 := (j45 _ _).2 h3
 simp only [List.length_take] at h2
 omega
theorem z2d {f s : List (List Int)} {x : Int} (h : x ∈ classes f s) : 0 ≤ x ∧ x < f.length := by
 have := z9w h
 simpa using this


end Go.Mch
namespace Go.Mch

structure Nd (n : Nat) (σ τ : Nat → Nat → Nat) : Prop where
 rs : ∀ x y, x < n → y < n → σ x y < n
 rt : ∀ x y, x < n → y < n → τ x y < n
 is : ∀ x y y', x < n → y < n → y' < n → σ x y = σ x y' → y = y'
 it : ∀ x y y', x < n → y < n → y' < n → τ x y = τ x y' → y = y'
 ss : ∀ x w, x < n → w < n → ∃ y, y < n ∧ σ x y = w
 st : ∀ x w, x < n → w < n → ∃ y, y < n ∧ τ x y = w
 e1 : ∀ x y z, x < n → y < n → z < n → σ (σ x y) (σ (τ y x) z) = σ x (σ y z)
 e2 : ∀ x y z, x < n → y < n → z < n → τ (σ (τ y x) z) (σ x y) = σ (τ (σ y z) x) (τ z y)
 e3 : ∀ x y z, x < n → y < n → z < n → τ z (τ y x) = τ (τ z y) (τ (σ y z) x)

def Alk (n : Nat) (σ τ : Nat → Nat → Nat) (x x' : Nat) : Prop := ∀ y, y < n → σ x y = σ x' y ∧ τ x y = τ x' y
theorem Nd.c1 {n : Nat} {σ τ : Nat → Nat → Nat} (h : Nd n σ τ) {x y y' : Nat} (hx : x < n) (hy : y < n) (hy' : y' < n) (ha : Alk n σ τ y y') : Alk n σ τ (σ x y) (σ x y') := by
 intro w hw
 have ht := (ha x hx).2
 constructor
 · obtain ⟨z, hz, rfl⟩ := h.ss (τ y x) w (h.rt _ _ hy hx) hw
   have a1 := h.e1 x y z hx hy hz
   have a2 := h.e1 x y' z hx hy' hz
   rw [← ht] at a2
   rw [a1, a2, (ha z hz).1]
 · have a1 := h.e3 w x y hw hx hy
   have a2 := h.e3 w x y' hw hx hy'
   rw [← (ha _ (h.rt x w hx hw)).2, a1, ← ht] at a2
   exact h.it _ _ _ (h.rt _ _ hy hx) (h.rt _ _ (h.rs _ _ hx hy) hw) (h.rt _ _ (h.rs _ _ hx hy') hw) a2
theorem Nd.c2 {n : Nat} {σ τ : Nat → Nat → Nat} (h : Nd n σ τ) {x x' y : Nat} (hx : x < n) (hx' : x' < n) (hy : y < n) (ha : Alk n σ τ x x') : Alk n σ τ (τ y x) (τ y x') := by
 intro w hw
 have hs := (ha y hy).1
 constructor
 · have a1 := h.e1 x y w hx hy hw
   have a2 := h.e1 x' y w hx' hy hw
   rw [← (ha _ (h.rs y w hy hw)).1, ← a1, ← hs] at a2
   exact (h.is _ _ _ (h.rs _ _ hx hy) (h.rs _ _ (h.rt _ _ hy hx') hw) (h.rs _ _ (h.rt _ _ hy hx) hw) a2).symm
 · obtain ⟨u, hu, rfl⟩ := h.st (σ x y) w (h.rs _ _ hx hy) hw
   have a1 := h.e3 u x y hu hx hy
   have a2 := h.e3 u x' y hu hx' hy
   rw [← (ha u hu).2, a1, ← hs] at a2
   exact a2

structure Quo (n m : Nat) (σ τ : Nat → Nat → Nat) (c d : Nat → Nat) : Prop where
 cm : ∀ x, x < n → c x < m
 dn : ∀ i, i < m → d i < n
 cd : ∀ i, i < m → c (d i) = i
 ca : ∀ x x', x < n → x' < n → (c x = c x' ↔ Alk n σ τ x x')
theorem Quo.al {n m : Nat} {σ τ : Nat → Nat → Nat} {c d : Nat → Nat} (q : Quo n m σ τ c d) {x : Nat} (hx : x < n) : Alk n σ τ (d (c x)) x :=
 (q.ca _ _ (q.dn _ (q.cm x hx)) hx).1 (q.cd _ (q.cm x hx))
theorem Quo.fs {n m : Nat} {σ τ : Nat → Nat → Nat} {c d : Nat → Nat} (h : Nd n σ τ) (q : Quo n m σ τ c d) {x y : Nat} (hx : x < n) (hy : y < n) : c (σ (d (c x)) (d (c y))) = c (σ x y) := by
 have h1 := q.dn _ (q.cm x hx)
 have h2 := q.dn _ (q.cm y hy)
 rw [(q.al hx _ h2).1]
 exact (q.ca _ _ (h.rs _ _ hx h2) (h.rs _ _ hx hy)).2 (h.c1 hx h2 hy (q.al hy))
theorem Quo.ft {n m : Nat} {σ τ : Nat → Nat → Nat} {c d : Nat → Nat} (h : Nd n σ τ) (q : Quo n m σ τ c d) {x y : Nat} (hx : x < n) (hy : y < n) : c (τ (d (c y)) (d (c x))) = c (τ y x) := by
 have h1 := q.dn _ (q.cm x hx)
 have h2 := q.dn _ (q.cm y hy)
 rw [(q.al hy _ h1).2]
 exact (q.ca _ _ (h.rt _ _ hy h1) (h.rt _ _ hy hx)).2 (h.c2 h1 hx hy (q.al hx))

theorem q5n {m : Nat} {g : Nat → Nat} (hs : ∀ w, w < m → ∃ j, j < m ∧ g j = w) : ∀ j j', j < m → j' < m → g j = g j' → j = j' := by
 have hnd : ((List.range m).map g).Nodup := j9o (List.range m) ((List.range m).map g) List.nodup_range (fun x hx => by
  obtain ⟨j, hj, rfl⟩ := hs x (by simpa using hx)
  exact List.mem_map.2 ⟨j, by simpa using hj, rfl⟩) (by simp)
 intro j j' hj hj' he
 have := (List.getElem_inj (xs := (List.range m).map g) (i := j) (j := j') (h₀ := by simpa using hj) (h₁ := by simpa using hj') hnd).1 (by simpa using he)
 exact this

theorem Quo.nd {n m : Nat} {σ τ : Nat → Nat → Nat} {c d : Nat → Nat} (h : Nd n σ τ) (q : Quo n m σ τ c d) : Nd m (fun i j => c (σ (d i) (d j))) (fun i j => c (τ (d i) (d j))) := by
 have rs : ∀ x y, x < m → y < m → c (σ (d x) (d y)) < m := fun x y hx hy => q.cm _ (h.rs _ _ (q.dn _ hx) (q.dn _ hy))
 have rt : ∀ x y, x < m → y < m → c (τ (d x) (d y)) < m := fun x y hx hy => q.cm _ (h.rt _ _ (q.dn _ hx) (q.dn _ hy))
 have ss : ∀ x w, x < m → w < m → ∃ y, y < m ∧ c (σ (d x) (d y)) = w := fun x w hx hw => by
  obtain ⟨y, hy, he⟩ := h.ss (d x) (d w) (q.dn _ hx) (q.dn _ hw)
  refine ⟨c y, q.cm _ hy, ?_⟩
  have := q.fs h (q.dn _ hx) hy
  rw [q.cd _ hx] at this
  rw [this, he, q.cd _ hw]
 have st : ∀ x w, x < m → w < m → ∃ y, y < m ∧ c (τ (d x) (d y)) = w := fun x w hx hw => by
  obtain ⟨y, hy, he⟩ := h.st (d x) (d w) (q.dn _ hx) (q.dn _ hw)
  refine ⟨c y, q.cm _ hy, ?_⟩
  have := q.ft h hy (q.dn _ hx)
  rw [q.cd _ hx] at this
  rw [this, he, q.cd _ hw]
 -- the class of a map of elements is the quotient's map of the classes
 have ks : ∀ u v, u < n → v < n → c (σ (d (c u)) (d (c v))) = c (σ u v) := fun u v hu hv => q.fs h hu hv
 have kt : ∀ u v, u < n → v < n → c (τ (d (c u)) (d (c v))) = c (τ u v) := fun u v hu hv => q.ft h hv hu
 constructor
 · exact rs
 · exact rt
 · exact fun x y y' hx hy hy' he => q5n (fun w hw => ss x w hx hw) y y' hy hy' he
 · exact fun x y y' hx hy hy' he => q5n (fun w hw => st x w hx hw) y y' hy hy' he
 · exact ss
 · exact st
 · intro x y z hx hy hz
   have dx := q.dn _ hx
   have dy := q.dn _ hy
   have dz := q.dn _ hz
   have a1 := h.e1 _ _ _ dx dy dz
   have l1 := ks _ _ (h.rt _ _ dy dx) dz
   rw [q.cd _ hz] at l1
   have l2 := ks _ _ (h.rs _ _ dx dy) (h.rs _ _ (h.rt _ _ dy dx) dz)
   have l3 := ks _ _ dx (h.rs _ _ dy dz)
   rw [q.cd _ hx] at l3
   rw [l1, l2, l3, a1]
 · intro x y z hx hy hz
   have dx := q.dn _ hx
   have dy := q.dn _ hy
   have dz := q.dn _ hz
   have a1 := h.e2 _ _ _ dx dy dz
   have l1 := ks _ _ (h.rt _ _ dy dx) dz
   rw [q.cd _ hz] at l1
   have l2 := kt _ _ (h.rs _ _ (h.rt _ _ dy dx) dz) (h.rs _ _ dx dy)
   have l3 := kt _ _ (h.rs _ _ dy dz) dx
   rw [q.cd _ hx] at l3
   have l4 := ks _ _ (h.rt _ _ (h.rs _ _ dy dz) dx) (h.rt _ _ dz dy)
   rw [l1, l2, l3, l4, a1]
 · intro x y z hx hy hz
   have dx := q.dn _ hx
   have dy := q.dn _ hy
   have dz := q.dn _ hz
   have a1 := h.e3 _ _ _ dx dy dz
   have l1 := kt _ _ dz (h.rt _ _ dy dx)
   rw [q.cd _ hz] at l1
   have l2 := kt _ _ (h.rs _ _ dy dz) dx
   rw [q.cd _ hx] at l2
   have l3 := kt _ _ (h.rt _ _ dz dy) (h.rt _ _ (h.rs _ _ dy dz) dx)
   rw [l1, l2, l3, a1]
end Go.Mch
namespace Go.Mch

def plK (xs : List Int) (P : Int → Bool) (k : Nat) : List Int := ((List.range k).filter fun i => P (xs.getD i 0)).map fun i : Nat => (i : Int)
def pl (xs : List Int) (P : Int → Bool) : List Int := plK xs P xs.length
theorem z3f {xs : List Int} {P : Int → Bool} {k : Nat} (hk : k < xs.length) : plK xs P (k + 1) = if P xs[k] then plK xs P k ++ [(k : Int)] else plK xs P k := by
 have hg : xs.getD k 0 = xs[k] := by rw [List.getD_eq_getElem?_getD, List.getElem?_eq_getElem hk]; rfl
 simp only [plK, List.range_succ, List.filter_append, List.filter_cons, List.filter_nil, hg]
 by_cases h : P xs[k] = true
 · simp [h]
 · simp [h]
theorem z1v (xs : List Int) (P : Int → Bool) (k : Nat) : (plK xs P k).length ≤ k := by
 have := List.length_filter_le (fun i => P (xs.getD i 0)) (List.range k)
 simpa [plK] using this
def ownN (xs : List Int) : T := if xs = [] then nil else .mem .own (some 1) (xs.map I)
theorem j6a {xs : List Int} (h : xs ≠ []) : ownN xs = .mem .own (some 1) (xs.map I) := by simp [ownN, h]

def q8p (pg : Pg) : Prop := ∀ (xs : List Int) (v : Int), xs.length ≤ 1048576 → Call pg 318 [ix xs, I v] [ix xs, I v] (ownN (pl xs fun x => decide (x = v)))
theorem z5j {pg : Pg} (hp : pg.fn 318 = some j4x) : q8p pg := by
 intro xs v hl
 refine Call.intro hp rfl (by simp) ?_
 show wp _ _ j4x.body (post [.t 4] _ _ _) _
 simp [j4x]
 refine j0a (fun k e => e = fr [(1, some (.val (I v))), (5, some (.val (ownN (plK xs (fun x => decide (x = v)) k)))), (8, some (.val (ix xs))), (9, some (.val (I xs.length))), (10, some (.val (I k)))]) xs.length ?_ ?_ 0 _ (by omega) ?_
 · rintro k e hk rfl
   have hs := z3f (P := fun x => decide (x = v)) hk
   have hl2 := z1v xs (fun x => decide (x = v)) k
   generalize plK xs (fun x => decide (x = v)) k = L at *
   generalize plK xs (fun x => decide (x = v)) (k + 1) = L' at *
   by_cases hv : xs[k] = v
   · simp [hv] at hs
     subst hs
     by_cases hL : L = []
     · subst hL
       simp [hk, hv, ownN, roomy]
       omega
     · have hL' : L ++ [(k : Int)] ≠ [] := by simp
       simp [hk, hv, j6a hL, j6a hL', roomy]
       omega
   · simp [hv] at hs
     subst hs
     by_cases hL : L' = []
     · subst hL
       simp [hk, hv, ownN]
       omega
     · simp [hk, hv, j6a hL]
       omega
 · rintro e rfl
   have hpl : pl xs (fun x => decide (x = v)) = plK xs (fun x => decide (x = v)) xs.length := rfl
   rw [hpl]
   generalize plK xs (fun x => decide (x = v)) xs.length = L
   by_cases hL : L = []
   · subst hL
     simp [ownN]
   · simp [j6a hL]
 · simp [plK, ownN]

end Go.Mch
namespace Go.Mch

def σN (f : List (List Int)) (x y : Nat) : Nat := (v2 f x y).toNat
def τN (s : List (List Int)) (y x : Nat) : Nat := (v2 s x y).toNat
def Rg (f s : List (List Int)) : Prop := PM f s ∧ YB f s ∧ j8d f s
theorem rg_of {f s : List (List Int)} (h : j5c f s) : Rg f s := ⟨PM.of h.1.1, h.1.2.2, h.2⟩
theorem PM.v2f {f s : List (List Int)} (h : PM f s) (x y : Nat) : ((σN f x y : Nat) : Int) = v2 f x y ∧ σN f x y < f.length := by
 have h1 := h.tf.nonneg x y
 have h2 := h.tf.lt h.pos x y
 unfold σN
 omega
theorem PM.v2s {f s : List (List Int)} (h : PM f s) (x y : Nat) : ((τN s y x : Nat) : Int) = v2 s x y ∧ τN s y x < f.length := by
 have h1 := h.ts.nonneg x y
 have h2 := h.ts.lt (by rw [h.len]; exact h.pos) x y
 rw [h.len] at h2
 unfold τN
 omega
theorem z9n {r : List Int} (h : j1r r) {y y' : Nat} (hy : y < r.length) (hy' : y' < r.length) (he : r.getD y 0 = r.getD y' 0) : y = y' := by
 rw [List.getD_eq_getElem?_getD, List.getD_eq_getElem?_getD, List.getElem?_eq_getElem hy, List.getElem?_eq_getElem hy'] at he
 exact (List.getElem_inj h.2).1 he
theorem j7c {n : Nat} {g : Nat → Nat} (hr : ∀ y, y < n → g y < n) (hi : ∀ y y', y < n → y' < n → g y = g y' → y = y') : ∀ w, w < n → ∃ y, y < n ∧ g y = w := by
 intro w hw
 apply Classical.byContradiction
 intro hno
 have hnd : (w :: (List.range n).map g).Nodup := by
  rw [List.nodup_cons]
  constructor
  · intro hm
    obtain ⟨y, hy, he⟩ := List.mem_map.1 hm
    exact hno ⟨y, by simpa using hy, he⟩
  · rw [List.Nodup, List.pairwise_map]
    refine (List.nodup_range (n := n)).imp_of_mem ?_
    intro a b ha hb hab he
    exact hab (hi a b (by simpa using ha) (by simpa using hb) he)
 have := j63 (w :: (List.range n).map g) (List.range n) hnd fun x hx => by
  rcases List.mem_cons.1 hx with rfl | hx
  · simpa using hw
  · obtain ⟨y, hy, rfl⟩ := List.mem_map.1 hx
    simpa using hr y (by simpa using hy)
 simp at this
 omega
theorem v7j {f s : List (List Int)} (h : Rg f s) : Nd f.length (σN f) (τN s) := by
 obtain ⟨hp, hy, hn⟩ := h
 have rs : ∀ x y, x < f.length → y < f.length → σN f x y < f.length := fun x y _ _ => (hp.v2f x y).2
 have rt : ∀ x y, x < f.length → y < f.length → τN s x y < f.length := fun x y _ _ => (hp.v2s y x).2
 have is : ∀ x y y', x < f.length → y < f.length → y' < f.length → σN f x y = σN f x y' → y = y' := fun x y y' hx h1 h2 he => by
  have hr := hn.1 f[x] (List.getElem_mem hx)
  have hl := (hp.tf f[x] (List.getElem_mem hx)).1
  have e : f.getD x [] = f[x] := by simp [hx]
  refine z9n hr (by omega) (by omega) ?_
  have a1 := (hp.v2f x y).1
  have a2 := (hp.v2f x y').1
  simp only [v2, e] at a1 a2
  omega
 have it : ∀ x y y', x < f.length → y < f.length → y' < f.length → τN s x y = τN s x y' → y = y' := fun x y y' hx h1 h2 he => by
  have hls := hp.len
  have hxs : x < (j4o s).length := by simp; omega
  have hr := hn.2 (j4o s)[x] (List.getElem_mem hxs)
  have hl := j4j (List.getElem_mem hxs : (j4o s)[x] ∈ tabL s.length fun x y => v2 s y x)
  refine z9n hr (by omega) (by omega) ?_
  have a1 := (hp.v2s y x).1
  have a2 := (hp.v2s y' x).1
  have b1 := j58 (n := s.length) (g := fun x y => v2 s y x) (x := x) (y := y) (by omega) (by omega)
  have b2 := j58 (n := s.length) (g := fun x y => v2 s y x) (x := x) (y := y') (by omega) (by omega)
  have e : (j4o s).getD x [] = (j4o s)[x] := by rw [List.getD_eq_getElem?_getD, List.getElem?_eq_getElem hxs]; rfl
  change v2 (j4o s) x y = _ at b1
  change v2 (j4o s) x y' = _ at b2
  simp only [v2, e] at b1 b2 a1 a2
  omega
 refine ⟨rs, rt, is, it, fun x w hx hw => j7c (fun y hy => rs x y hx hy) (fun y y' h1 h2 => is x y y' hx h1 h2) w hw, fun x w hx hw => j7c (fun y hy => rt x y hx hy) (fun y y' h1 h2 => it x y y' hx h1 h2) w hw, ?_, ?_, ?_⟩
 · intro x y z hx h1 h2
   have := ((z7r f s x y z).1 (hy x y z hx h1 h2)).1
   exact congrArg Int.toNat this
 · intro x y z hx h1 h2
   have := ((z7r f s x y z).1 (hy x y z hx h1 h2)).2.1
   exact congrArg Int.toNat this
 · intro x y z hx h1 h2
   have := ((z7r f s x y z).1 (hy x y z hx h1 h2)).2.2
   exact congrArg Int.toNat this


theorem q4h (xs : List Int) : ∀ k j, k + j ≤ xs.length → ∃ r, j1t (xs.take (k + j)) = j1t (xs.take k) ++ r := by
 intro k j
 induction j with
 | zero => intro _; exact ⟨[], by simp⟩
 | succ j ih =>
  intro h
  obtain ⟨r, hr⟩ := ih (by omega)
  rw [show k + (j + 1) = k + j + 1 from rfl, j43 (show k + j < xs.length by omega)]
  split
  · exact ⟨r, hr⟩
  · exact ⟨r ++ [xs[k + j]], by rw [hr]; simp⟩
theorem w33 {a b : List Int} {x : Int} (h : x ∈ a) : ixOf (a ++ b) x = ixOf a x := by
 induction a with
 | nil => simp at h
 | cons y a ih =>
  simp only [List.cons_append, ixOf]
  by_cases hy : y = x
  · simp [hy]
  · rw [if_neg hy, if_neg hy, ih (by simpa [Ne.symm hy, eq_comm, hy] using h)]
theorem q80 {xs : List Int} {k : Nat} (hk : k < xs.length) : xs[k] ∈ j1t (xs.take (k + 1)) := by
 rw [j43 hk]
 split
 · assumption
 · simp
theorem z07 (xs : List Int) : ∀ k, k ≤ xs.length → (j1t (xs.take k)).Nodup := by
 intro k
 induction k with
 | zero => intro _; simp [j1t]
 | succ k ih =>
  intro hk
  rw [j43 (by omega)]
  split
  · exact ih (by omega)
  · rename_i hn
    rw [List.nodup_append]
    exact ⟨ih (by omega), by simp, fun a ha b hb => by simp only [List.mem_singleton] at hb; subst hb; exact fun e => hn (e ▸ ha)⟩
theorem z7u (xs : List Int) : ∀ k, k ≤ xs.length → ∀ x ∈ j1t (xs.take k), x ∈ xs := by
 intro k
 induction k with
 | zero => intro _ x hx; simp [j1t] at hx
 | succ k ih =>
  intro hk x hx
  rw [j43 (show k < xs.length by omega)] at hx
  split at hx
  · exact ih (by omega) x hx
  · rcases List.mem_append.1 hx with h | h
    · exact ih (by omega) x h
    · simp only [List.mem_singleton] at h; subst h; exact List.getElem_mem _
theorem z9x {xs : List Int} {k : Nat} (hk : k < xs.length) : (j8w xs).getD k 0 = ixOf (j1t xs) xs[k] := by
 have hg : xs.getD k 0 = xs[k] := by rw [List.getD_eq_getElem?_getD, List.getElem?_eq_getElem hk]; rfl
 have h1 : (j8w xs).getD k 0 = ixOf (j1t (xs.take (k + 1))) xs[k] := by
  rw [List.getD_eq_getElem?_getD, List.getElem?_eq_getElem (by simpa using hk)]
  simp only [j8w, List.getElem_map, List.getElem_range, Option.getD_some, hg]
 obtain ⟨r, hr⟩ := q4h xs (k + 1) (xs.length - (k + 1)) (by omega)
 rw [show k + 1 + (xs.length - (k + 1)) = xs.length from by omega, List.take_length] at hr
 rw [h1, hr, w33 (q80 hk)]
theorem q06 {xs : List Int} {k : Nat} (hk : k < xs.length) : xs[k] ∈ j1t xs := by
 obtain ⟨r, hr⟩ := q4h xs (k + 1) (xs.length - (k + 1)) (by omega)
 rw [show k + 1 + (xs.length - (k + 1)) = xs.length from by omega, List.take_length] at hr
 rw [hr]
 exact List.mem_append_left _ (q80 hk)
theorem q0b : ∀ {l : List Int} {x : Int} (_ : x ∈ l), ∃ hi : (ixOf l x).toNat < l.length, l[(ixOf l x).toNat] = x
 | y :: l, x, h => by
  by_cases hy : y = x
  · subst hy; exact ⟨by simp [ixOf], by simp [ixOf]⟩
  · have hx : x ∈ l := by
     rcases List.mem_cons.1 h with h | h
     · exact absurd h.symm hy
     · exact h
    obtain ⟨hi, he⟩ := q0b hx
    have h0 := (j45 l x).2 hx
    have hval : ixOf (y :: l) x = ixOf l x + 1 := by
     simp only [ixOf]; rw [if_neg hy, if_neg (by omega)]
    have ht : (ixOf (y :: l) x).toNat = (ixOf l x).toNat + 1 := by rw [hval]; omega
    refine ⟨by rw [ht]; simp; exact hi, ?_⟩
    simp only [ht, List.getElem_cons_succ]
    exact he
theorem z6u {l : List Int} (hd : l.Nodup) {i : Nat} (hi : i < l.length) : ixOf l l[i] = i := by
 obtain ⟨h1, h2⟩ := q0b (List.getElem_mem hi)
 have := (List.getElem_inj hd).1 h2
 have h3 := (j45 l l[i]).2 (List.getElem_mem hi)
 omega
theorem w34 {l : List Int} {x y : Int} (hx : x ∈ l) (hy : y ∈ l) (h : ixOf l x = ixOf l y) : x = y := by
 obtain ⟨h1, h2⟩ := q0b hx
 obtain ⟨h3, h4⟩ := q0b hy
 rw [← h2, ← h4]
 congr 1
 rw [h]


def labL (f s : List (List Int)) : List Int := (List.range f.length).map fun i => (lab f (j4o s) i : Int)
@[simp] theorem w8k (f s : List (List Int)) : (labL f s).length = f.length := by simp [labL]
theorem q38 (f s : List (List Int)) {x : Nat} (hx : x < (labL f s).length) : (labL f s)[x] = lab f (j4o s) x := by simp [labL]
theorem j67 (f s : List (List Int)) : classes f s = j8w (labL f s) := rfl
def clM (f s : List (List Int)) : Nat := (j1t (labL f s)).length
def clC (f s : List (List Int)) (x : Nat) : Nat := ((classes f s).getD x 0).toNat
def clD (f s : List (List Int)) (i : Nat) : Nat := (ixOf (labL f s) ((j1t (labL f s)).getD i 0)).toNat
theorem j83 {f s : List (List Int)} {x : Nat} (hx : x < f.length) : ((clC f s x : Nat) : Int) = (classes f s).getD x 0 ∧ (classes f s).getD x 0 = ixOf (j1t (labL f s)) (lab f (j4o s) x) := by
 have hx' : x < (labL f s).length := by simpa using hx
 have h1 := z9x hx'
 rw [q38 f s hx'] at h1
 have h2 := (j45 (j1t (labL f s)) (lab f (j4o s) x)).2 (by rw [← q38 f s hx']; exact q06 hx')
 rw [j67, h1]
 refine ⟨?_, rfl⟩
 unfold clC
 rw [j67, h1]
 omega
theorem z3r (a b : List (List Int)) (i : Nat) : lab a b i ≤ i ∧ eqv a b i (lab a b i) ∧ ∀ k, k < lab a b i → ¬ eqv a b i k := by
 unfold lab
 cases h : (List.range i).find? fun j => decide (eqv a b i j) with
 | none =>
  rw [List.find?_range_eq_none] at h
  exact ⟨Nat.le_refl _, ⟨rfl, rfl⟩, fun k hk => by simpa using h k hk⟩
 | some m =>
  rw [List.find?_range_eq_some] at h
  refine ⟨?_, by simpa using h.1, fun k hk => by simpa using h.2.2 k hk⟩
  have := h.2.1
  simp only [List.mem_range] at this
  simp only [Option.getD_some]
  omega
theorem z4k {a b : List (List Int)} {i j : Nat} (h : eqv a b i j) : eqv a b j i := ⟨h.1.symm, h.2.symm⟩
theorem q5x {a b : List (List Int)} {i j k : Nat} (h : eqv a b i j) (h2 : eqv a b j k) : eqv a b i k := ⟨h.1.trans h2.1, h.2.trans h2.2⟩
theorem w8j {a b : List (List Int)} {i j : Nat} : lab a b i = lab a b j ↔ eqv a b i j := by
 obtain ⟨i1, i2, i3⟩ := z3r a b i
 obtain ⟨j1, j2, j3⟩ := z3r a b j
 constructor
 · intro h
   rw [h] at i2
   exact q5x i2 (z4k j2)
 · intro h
   rcases Nat.lt_trichotomy (lab a b i) (lab a b j) with g | g | g
   · exact absurd (q5x (z4k h) i2) (j3 _ g)
   · exact g
   · exact absurd (q5x h j2) (i3 _ g)
theorem w85 {f s : List (List Int)} (h : PM f s) {x x' : Nat} (hx : x < f.length) (hx' : x' < f.length) : eqv f (j4o s) x x' ↔ Alk f.length (σN f) (τN s) x x' := by
 have hls := h.len
 have rowEq : ∀ {a : List (List Int)} (hl : a.length = f.length) (_ : ∀ r ∈ a, r.length = f.length), a.getD x [] = a.getD x' [] ↔ ∀ y, y < f.length → v2 a x y = v2 a x' y := by
  intro a hl hr
  have e1 : a.getD x [] = a[x] := by rw [List.getD_eq_getElem?_getD, List.getElem?_eq_getElem (by omega)]; rfl
  have e2 : a.getD x' [] = a[x'] := by rw [List.getD_eq_getElem?_getD, List.getElem?_eq_getElem (by omega)]; rfl
  have l1 := hr _ (List.getElem_mem (show x < a.length by omega))
  have l2 := hr _ (List.getElem_mem (show x' < a.length by omega))
  constructor
  · intro he y _
    simp only [v2, he]
  · intro he
    rw [e1, e2]
    apply List.ext_getElem (by omega)
    intro y h1 h2
    have := he y (by omega)
    simp only [v2, e1, e2, List.getD_eq_getElem?_getD, List.getElem?_eq_getElem h1, List.getElem?_eq_getElem h2, Option.getD_some] at this
    exact this
 have ht : ∀ z y, z < f.length → y < f.length → v2 (j4o s) z y = v2 s y z := fun z y hz hy => j58 (n := s.length) (g := fun x y => v2 s y x) (by omega) (by omega)
 unfold eqv
 rw [rowEq rfl (fun r hr => by have := (h.tf r hr).1; omega), rowEq (a := j4o s) (by simp; omega) (fun r hr => by rw [j4j hr]; exact hls)]
 constructor
 · rintro ⟨h1, h2⟩ y hy
   have a1 := h1 y hy
   have a2 := h2 y hy
   rw [ht _ _ hx hy, ht _ _ hx' hy] at a2
   exact ⟨congrArg Int.toNat a1, congrArg Int.toNat a2⟩
 · intro hh
   refine ⟨fun y hy => ?_, fun y hy => ?_⟩
   · have := (hh y hy).1
     have b1 := (h.v2f x y).1
     have b2 := (h.v2f x' y).1
     omega
   · have := (hh y hy).2
     have b1 := (h.v2s y x).1
     have b2 := (h.v2s y x').1
     rw [ht _ _ hx hy, ht _ _ hx' hy]
     omega
theorem q1i {f s : List (List Int)} (h : PM f s) : Quo f.length (clM f s) (σN f) (τN s) (clC f s) (clD f s) := by
 have hU := z07 (labL f s) (labL f s).length (Nat.le_refl _)
 rw [List.take_length] at hU
 have hmem : ∀ x, x < f.length → (lab f (j4o s) x : Int) ∈ j1t (labL f s) := fun x hx => by
  have hx' : x < (labL f s).length := by simpa using hx
  rw [← q38 f s hx']
  exact q06 hx'
 have hsub : ∀ i (hi : i < clM f s), (j1t (labL f s))[i] ∈ labL f s := fun i hi => by
  have := z7u (labL f s) (labL f s).length (Nat.le_refl _)
  rw [List.take_length] at this
  exact this _ (List.getElem_mem hi)
 have hD : ∀ i (hi : i < clM f s), clD f s i < f.length ∧ (lab f (j4o s) (clD f s i) : Int) = (j1t (labL f s))[i] := fun i hi => by
  have hg : (j1t (labL f s)).getD i 0 = (j1t (labL f s))[i] := by rw [List.getD_eq_getElem?_getD, List.getElem?_eq_getElem hi]; rfl
  obtain ⟨h1, h2⟩ := q0b (hsub i hi)
  unfold clD
  rw [hg]
  refine ⟨by simpa using h1, ?_⟩
  rw [← q38 f s h1]
  exact h2
 constructor
 · intro x hx
   obtain ⟨h1, h2⟩ := j83 (s := s) hx
   obtain ⟨h3, _⟩ := q0b (hmem x hx)
   have h4 := (j45 _ _).2 (hmem x hx)
   unfold clM
   omega
 · exact fun i hi => (hD i hi).1
 · intro i hi
   obtain ⟨h1, h2⟩ := hD i hi
   obtain ⟨h3, h4⟩ := j83 (s := s) h1
   rw [h2, z6u hU hi] at h4
   omega
 · intro x x' hx hx'
   obtain ⟨h1, h2⟩ := j83 (s := s) hx
   obtain ⟨h3, h4⟩ := j83 (s := s) hx'
   rw [← w85 h hx hx', ← w8j]
   constructor
   · intro he
     have := w34 (hmem x hx) (hmem x' hx') (by omega)
     omega
   · intro he
     rw [he] at h2
     omega
end Go.Mch
namespace Go.Mch

theorem q3m {m : Nat} {g : Nat → Nat} (hr : ∀ y, y < m → g y < m) (hi : ∀ y y', y < m → y' < m → g y = g y' → y = y') : j1r ((List.range m).map fun y => (g y : Int)) := by
 refine ⟨fun x hx => ?_, ?_⟩
 · simp only [List.mem_map, List.mem_range] at hx
   obtain ⟨y, hy, rfl⟩ := hx
   have := hr y hy
   simp
   omega
 · rw [List.Nodup, List.pairwise_map]
   refine (List.nodup_range (n := m)).imp_of_mem ?_
   intro a b ha hb hab he
   exact hab (hi a b (by simpa using ha) (by simpa using hb) (by omega))
theorem v6a {m : Nat} {σ τ : Nat → Nat → Nat} (h : Nd m σ τ) (h0 : 0 < m) (h12 : m ≤ 12) : Rg (tabL m fun i j => (σ i j : Int)) (tabL m fun i j => (τ j i : Int)) := by
 have hf : ∀ x y, x < m → y < m → v2 (tabL m fun i j => (σ i j : Int)) x y = σ x y := fun x y hx hy => j58 hx hy
 have hs : ∀ x y, x < m → y < m → v2 (tabL m fun i j => (τ j i : Int)) x y = τ y x := fun x y hx hy => j58 hx hy
 have rs := h.rs
 have rt := h.rt
 refine ⟨⟨?_, ?_, by simp, by simpa using h0, by simpa using h12⟩, ?_, ?_, ?_⟩
 · exact q86 fun x y hx hy => by have := rs x y hx hy; omega
 · exact q86 fun x y hx hy => by have := rt y x hy hx; omega
 · intro x y z hx hy hz
   simp only [j8n] at hx hy hz
   rw [z7r]
   have a1 := rs x y hx hy
   have a2 := rt y x hy hx
   have a3 := rs y z hy hz
   have a4 := rt z y hz hy
   have a5 := rs _ z a2 hz
   have a6 := rt _ x a3 hx
   simp only [hf x y hx hy, hs x y hx hy, hf y z hy hz, hs y z hy hz, Int.toNat_natCast, hf _ z a2 hz, hs x _ hx a3, hf x _ hx a3, hf _ _ a1 a5, hs _ _ a1 a5, hf _ _ a6 a4, hs _ z a2 hz, hs _ _ a6 a4]
   have b1 := h.e1 x y z hx hy hz
   have b2 := h.e2 x y z hx hy hz
   have b3 := h.e3 x y z hx hy hz
   exact ⟨by rw [b1], by rw [b2], by rw [b3]⟩
 · intro r hr
   simp only [tabL, List.mem_map, List.mem_range] at hr
   obtain ⟨x, hx, rfl⟩ := hr
   exact q3m (fun y hy => rs x y hx hy) (fun y y' h1 h2 he => h.is x y y' hx h1 h2 he)
 · intro r hr
   have : j4o (tabL m fun i j => (τ j i : Int)) = tabL m fun i j => (τ i j : Int) := by
    unfold j4o
    rw [j8n]
    exact j73 fun x y hx hy => hs y x hy hx
   rw [this] at hr
   simp only [tabL, List.mem_map, List.mem_range] at hr
   obtain ⟨x, hx, rfl⟩ := hr
   exact q3m (fun y hy => rt x y hx hy) (fun y y' h1 h2 he => h.it x y y' hx h1 h2 he)

def retF (f s : List (List Int)) : List (List Int) := tabL (clM f s) fun i j => (clC f s (σN f (clD f s i) (clD f s j)) : Int)
def retS (f s : List (List Int)) : List (List Int) := tabL (clM f s) fun i j => (clC f s (τN s (clD f s j) (clD f s i)) : Int)
@[simp] theorem q44 (f s : List (List Int)) : (retF f s).length = clM f s := by simp [retF]
@[simp] theorem w7j (f s : List (List Int)) : (retS f s).length = clM f s := by simp [retS]
theorem z0y (f s : List (List Int)) : clM f s ≤ f.length := by
 have := j71 (labL f s)
 simpa [clM] using this
theorem q8k {f s : List (List Int)} (h : 0 < f.length) : 0 < clM f s := by
 have hl : 0 < (labL f s).length := by simpa using h
 exact List.length_pos_of_mem (q06 hl)
theorem q90 {f s : List (List Int)} (h : Rg f s) : Rg (retF f s) (retS f s) :=
 v6a ((q1i h.1).nd (v7j h)) (q8k h.1.pos) (Nat.le_trans (z0y f s) h.1.small)
theorem z9p {f s : List (List Int)} (h : Rg f s) {a b : Nat} (ha : a < f.length) (hb : b < f.length) :
 v2 (retF f s) (clC f s a) (clC f s b) = clC f s (σN f a b) ∧ v2 (retS f s) (clC f s a) (clC f s b) = clC f s (τN s b a) := by
 have q := q1i h.1
 have n := v7j h
 have h1 := q.cm a ha
 have h2 := q.cm b hb
 refine ⟨?_, ?_⟩
 · rw [retF, j58 h1 h2, q.fs n ha hb]
 · rw [retS, j58 h1 h2, q.ft n ha hb]
theorem q6j (xs : List Int) : ∀ k, k ≤ xs.length → greatest ((j8w xs).take k) = (j1t (xs.take k)).length := by
 intro k
 induction k with
 | zero => intro _; rfl
 | succ k ih =>
  intro hk
  have hkl : k < (j8w xs).length := by simp; omega
  have hg : (j8w xs)[k] = ixOf (j1t (xs.take (k + 1))) xs[k] := by
   have e : xs.getD k 0 = xs[k] := by rw [List.getD_eq_getElem?_getD, List.getElem?_eq_getElem (by omega)]; rfl
   simp only [j8w, List.getElem_map, List.getElem_range, e]
  have ih := ih (by omega)
  rw [j50 hkl, ih, hg, j43 (show k < xs.length by omega)]
  have hb := j7z (j1t (xs.take k)) xs[k]
  by_cases hm : xs[k] ∈ j1t (xs.take k)
  · rw [if_pos hm, if_neg (by omega)]
  · rw [if_neg hm, q79 hm, if_pos (Int.le_refl _)]
    simp
theorem q3x (f s : List (List Int)) : greatest (classes f s) = clM f s := by
 have := q6j (labL f s) (labL f s).length (Nat.le_refl _)
 rw [List.take_length] at this
 have hl : (classes f s).length = (labL f s).length := by simp
 rw [j67] at hl ⊢
 rw [← hl, List.take_length] at this
 exact this


def q8t (pg : Pg) : Prop := ∀ f s : List (List Int), PM f s → Call pg 399 [ix (classes f s)] [ix (classes f s)] (.mem .own (some 1) (((List.range (clM f s)).map fun i => (clD f s i : Int)).map I))
def fsts (f s : List (List Int)) (k : Nat) : List Int := (List.range (j1t ((labL f s).take k)).length).map fun i => (clD f s i : Int)
@[simp] theorem q5t (f s : List (List Int)) (k : Nat) : (fsts f s k).length = (j1t ((labL f s).take k)).length := by simp [fsts]
theorem z6v {xs : List Int} {k : Nat} (hk : k < xs.length) (h : xs[k] ∉ j1t (xs.take k)) : ixOf xs xs[k] = k := by
 refine q2u hk (fun i hi he => h ?_) rfl
 have hi2 : i < (xs.take k).length := by simp; omega
 have := q06 hi2
 rw [List.getElem_take, he] at this
 exact this
theorem w1c {f s : List (List Int)} {k : Nat} (hk : k < f.length) :
 fsts f s (k + 1) = if (classes f s).getD k 0 = (fsts f s k).length then fsts f s k ++ [(k : Int)] else fsts f s k := by
 have hkl : k < (labL f s).length := by simpa using hk
 have hc : (classes f s).getD k 0 = ixOf (j1t ((labL f s).take (k + 1))) (labL f s)[k] := by
  have e : (labL f s).getD k 0 = (labL f s)[k] := by rw [List.getD_eq_getElem?_getD, List.getElem?_eq_getElem hkl]; rfl
  rw [j67, List.getD_eq_getElem?_getD, List.getElem?_eq_getElem (by simpa using hk)]
  simp only [j8w, List.getElem_map, List.getElem_range, Option.getD_some, e]
 have hU := j43 hkl
 have hb := j7z (j1t ((labL f s).take k)) (labL f s)[k]
 rw [hc, q5t]
 by_cases hm : (labL f s)[k] ∈ j1t ((labL f s).take k)
 · rw [if_pos hm] at hU
   rw [hU, if_neg (by omega)]
   simp only [fsts, hU]
 · rw [if_neg hm] at hU
   rw [hU, q79 hm, if_pos rfl]
   simp only [fsts, hU, List.length_append, List.length_cons, List.length_nil, List.range_succ, List.map_append, List.map_cons, List.map_nil]
   congr 2
   obtain ⟨r, hr⟩ := q4h (labL f s) (k + 1) ((labL f s).length - (k + 1)) (by omega)
   rw [show k + 1 + ((labL f s).length - (k + 1)) = (labL f s).length from by omega, List.take_length, hU] at hr
   have hget : (j1t (labL f s)).getD (j1t ((labL f s).take k)).length 0 = (labL f s)[k] := by
    rw [hr, List.append_assoc, List.getD_eq_getElem?_getD, List.getElem?_append_right (Nat.le_refl _), Nat.sub_self]
    rfl
   unfold clD
   rw [hget, z6v hkl hm]
   simp
theorem z4h (f s : List (List Int)) : fsts f s f.length = (List.range (clM f s)).map fun i => (clD f s i : Int) := by
 have : (labL f s).take f.length = labL f s := List.take_of_length_le (by simp)
 simp only [fsts, clM, this]
theorem z8m {pg : Pg} (hp : pg.fn 399 = some j5p) : q8t pg := by
 intro f s h
 have h0 := h.pos
 have h12 := h.small
 have hcl := j4f f s
 refine Call.intro hp rfl (by simp) ?_
 show wp _ _ j5p.body (post [.t 2] _ _ _) _
 simp [j5p]
 refine j0a (fun k e => e = fr [(3, some (.val (ownN (fsts f s k)))), (6, some (.val (ix (classes f s)))), (7, some (.val (I f.length))), (8, some (.val (I k)))]) f.length ?_ ?_ 0 _ (by omega) ?_
 · rintro k e hk rfl
   have hs := w1c (s := s) hk
   have hkc : k < (classes f s).length := by omega
   have hg : (classes f s).getD k 0 = (classes f s)[k] := by rw [List.getD_eq_getElem?_getD, List.getElem?_eq_getElem hkc]; rfl
   have hll : (fsts f s k).length ≤ k := by
    rw [q5t]
    have := j71 ((labL f s).take k)
    simp only [List.length_take] at this
    omega
   rw [hg] at hs
   generalize fsts f s k = L at *
   generalize fsts f s (k + 1) = L' at *
   by_cases hv : (classes f s)[k] = (L.length : Int)
   · rw [if_pos hv] at hs
     subst hs
     by_cases hL : L = []
     · subst hL
       simp at hv
       simp [hk, hv, ownN, roomy]
       omega
     · have hL' : L ++ [(k : Int)] ≠ [] := by simp
       simp [hk, hv, j6a hL, j6a hL', roomy]
       omega
   · rw [if_neg hv] at hs
     subst hs
     by_cases hL : L' = []
     · subst hL
       simp at hv
       simp [hk, hv, ownN]
       omega
     · simp [hk, hv, j6a hL]
       omega
 · rintro e rfl
   have hne : fsts f s f.length ≠ [] := fun hh => by
    have := congrArg List.length hh
    rw [z4h] at this
    have h2 := q8k (s := s) h0
    simp at this
    omega
   rw [j6a hne, z4h]
   simp
 · simp [fsts, j1t, ownN]
end Go.Mch
namespace Go.Mch


def q7o (pg : Pg) : Prop := ∀ (o : Option (List (List Int))) (k : Int), j48 (lso o) → 0 ≤ k → k ≤ 2305843009213693952 → q2w (lso o) k ≤ 4611686018427387904 → Call pg 149 [.agg [eT o], I k] [.agg [eT o], I k] (I (if q2w (lso o) k < 0 then -1 else q2w (lso o) k))
end Go.Mch
namespace Go.Mch

@[simp] theorem z7o (a b : Nat) (as bs : List Nat) : (a :: as).isPrefixOf (b :: bs) = (a == b && as.isPrefixOf bs) := rfl

def solT : Option (List (List Int) × List (List Int)) → T
 | none => .agg [nil, nil]
 | some (X, Y) => .agg [.mem .own (some 1) (rows X), .mem .own (some 1) (rows Y)]
def eS : Option (List (List Int) × List (List Int)) → T
 | none => .agg [nil, nil]
 | some (X, Y) => sol X Y

theorem q7o.at {pg : Pg} (h : q7o pg) (Y : List (List Int)) (m : Int) (hY : j48 Y) (h1 : 0 ≤ m) (h2 : m ≤ 1152921504606846976) : Call pg 149 [.agg [tb (upT m Y)], I m] [.agg [tb (upT m Y)], I m] (I (kAt m Y Y.length)) := by
 have hk := z3v (k := m) hY Y.length (Nat.le_refl _)
 have hl := hY.1
 have := h (some (upT m Y)) m (q4g hY m) h1 (by omega) (by simp [q1s _ _ h1]; omega)
 simp only [j7s, q1s _ _ h1] at this
 rw [if_neg (by omega)] at this
 exact this
def z06 (pg : Pg) : Prop := ∀ (o o' : Option (List (List Int))) (k m : Int), j48 (lso o) → j48 (lso o') → 0 ≤ k → k ≤ 1152921504606846976 → 0 ≤ q2w (lso o) k → q2w (lso o) k ≤ 1152921504606846976 → q2w (lso o') (q2w (lso o) k) = m → 0 ≤ m → Call pg 172 [.agg [eT o, eT o'], I k] [.agg [eT o, eT o'], I k] (I m)
theorem z06.at {pg : Pg} (h : z06 pg) (X Y : List (List Int)) (m : Int) (hX : j48 X) (hY : j48 Y) (h1 : 0 ≤ m) (h2 : m ≤ 1048576) : Call pg 172 [.agg [tb (upT m X), tb (upT (kAt m X X.length) Y)], I m] [.agg [tb (upT m X), tb (upT (kAt m X X.length) Y)], I m] (I (kAt (kAt m X X.length) Y Y.length)) := by
 have hk := z3v (k := m) hX X.length (Nat.le_refl _)
 have hk2 := z3v (k := kAt m X X.length) hY Y.length (Nat.le_refl _)
 have hl := hX.1
 have e1 := q1s X m h1
 have e2 := q1s Y (kAt m X X.length) (by omega)
 exact h (some (upT m X)) (some (upT _ Y)) m _ (q4g hX m) (q4g hY _) h1 (by omega) (by simp [e1]; omega) (by simp [e1]; omega) (by simp [e1, e2]) (by omega)
end Go.Mch
namespace Go.Mch


def q7m (pg : Pg) (n : Nat) (snd : Bool) : Prop := ∀ (x y g1 g2 : Int) (f : Nat) (caps : List T), T.eryL .old caps = caps → T.j0m caps = true → Call pg f (I x :: I y :: caps) (I x :: I y :: caps) (.tup [I g1, I g2]) →
 Call pg n [I x, I y, .mem .old none [.fn f caps]] [I x, I y, .mem .old none [.fn f caps]] (I (if snd then g2 else g1))
theorem q7r {pg : Pg} (hp : pg.fn 391 = some j24) : q7m pg 391 false := by
 intro x y g1 g2 f caps hc1 hc2 hc
 refine Call.intro hp rfl (by simp [hc2]) ?_
 show wp _ _ j24.body (post [.t 5] _ _ _) _
 simp [j24]
 refine j0e (by simpa [hc1] using hc) rfl rfl (fun _ => by simp) ?_
 simp [hc2]
theorem q7q {pg : Pg} (hp : pg.fn 392 = some j23) : q7m pg 392 true := by
 intro x y g1 g2 f caps hc1 hc2 hc
 refine Call.intro hp rfl (by simp [hc2]) ?_
 show wp _ _ j23.body (post [.t 5] _ _ _) _
 simp [j23]
 refine j0e (by simpa [hc1] using hc) rfl rfl (fun _ => by simp) ?_
 simp [hc2]
def q8o (pg : Pg) : Prop := ∀ (n : Nat) (g1 g2 : Nat → Nat → Int) (f : Nat) (caps : List T), n ≤ 1048576 → T.eryL .old caps = caps → T.j0m caps = true →
 (∀ x y : Nat, x < n → y < n → Call pg f (I x :: I y :: caps) (I x :: I y :: caps) (.tup [I (g1 x y), I (g2 x y)])) →
 Call pg 308 [I n, .fn f caps] [I n, .fn f caps] (.agg [.mem .own (some 1) (rows (tabL n g1)), .mem .own (some 1) (rows (tabL n g2))])
theorem q88 {pg : Pg} (hp : pg.fn 308 = some j3w) (h376 : q2c pg) (h391 : q7m pg 391 false) (h392 : q7m pg 392 true) : q8o pg := by
 intro n g1 g2 f caps hn hc1 hc2 hc
 refine Call.intro hp rfl (by simp [hc2]) ?_
 show wp _ _ j3w.body (post [.cell 4 (some 2)] _ _ _) _
 simp [j3w, hc1, hc2]
 have k1 : ∀ x y : Nat, x < n → y < n → Call pg 391 (I x :: I y :: [.mem .old none [.fn f caps]]) (I x :: I y :: [.mem .old none [.fn f caps]]) (I (g1 x y)) := fun x y hx hy => h391 x y (g1 x y) (g2 x y) f caps hc1 hc2 (hc x y hx hy)
 have k2 : ∀ x y : Nat, x < n → y < n → Call pg 392 (I x :: I y :: [.mem .old none [.fn f caps]]) (I x :: I y :: [.mem .old none [.fn f caps]]) (I (g2 x y)) := fun x y hx hy => h392 x y (g1 x y) (g2 x y) f caps hc1 hc2 (hc x y hx hy)
 refine j0e (h376 n g1 391 [.mem .old none [.fn f caps]] hn (by simp [hc1]) (by simp [hc2]) k1) rfl rfl (fun _ => by simp) ?_
 simp [hc1, hc2]
 refine j0e (h376 n g2 392 [.mem .old none [.fn f caps]] hn (by simp [hc1]) (by simp [hc2]) k2) rfl rfl (fun _ => by simp) ?_
 simp [hc2]


def dL (f s : List (List Int)) : List Int := (List.range (clM f s)).map fun i => (clD f s i : Int)
@[simp] theorem w1l (f s : List (List Int)) : (dL f s).length = clM f s := by simp [dL]
theorem w52 (f s : List (List Int)) {i : Nat} (h : i < (dL f s).length) : (dL f s)[i] = (clD f s i : Int) := by simp [dL]
abbrev q2m (f s : List (List Int)) : List T := [.mem .old none [ix (dL f s)], .mem .old none [ix (classes f s)], .mem .old none [tb f, tb s]]
def w18 (pg : Pg) : Prop := ∀ (f s : List (List Int)) (x y : Nat), PM f s → x < clM f s → y < clM f s →
 Call pg 400 (I x :: I y :: q2m f s) (I x :: I y :: q2m f s) (.tup [I (v2 (retF f s) x y), I (v2 (retS f s) x y)])
theorem z5h {pg : Pg} (hp : pg.fn 400 = some j3j) : w18 pg := by
 intro f s x y h hx hy
 have q := q1i h
 have hls := h.len
 have dx := q.dn x hx
 have dy := q.dn y hy
 have hf := h.v2f (clD f s x) (clD f s y)
 have hs := h.v2s (clD f s x) (clD f s y)
 have hcl := j4f f s
 have e1 : v2 (retF f s) x y = (classes f s).getD (σN f (clD f s x) (clD f s y)) 0 := by
  rw [retF, j58 hx hy]; exact (j83 hf.2).1
 have e2 : v2 (retS f s) x y = (classes f s).getD (τN s (clD f s y) (clD f s x)) 0 := by
  rw [retS, j58 hx hy]; exact (j83 hs.2).1
 have hfr := h.tf.row dx
 have hsr := (h.ts.row (x := clD f s x) (by omega)).trans hls
 have hfg : (f[clD f s x])[clD f s y]'(by omega) = v2 f (clD f s x) (clD f s y) := j2a _ _
 have hsg : (s[clD f s x])[clD f s y]'(by omega) = v2 s (clD f s x) (clD f s y) := j2a _ _
 have g1 := w52 f s (i := x) (by simpa using hx)
 have g2' := w52 f s (i := y) (by simpa using hy)
 have n1 : (0 : Int) ≤ v2 f (clD f s x) (clD f s y) := by omega
 have n2 : (0 : Int) ≤ v2 s (clD f s x) (clD f s y) := by omega
 have t1 : (v2 f (clD f s x) (clD f s y)).toNat < f.length := by omega
 have t2 : (v2 s (clD f s x) (clD f s y)).toNat < f.length := by omega
 have t1' : v2 f (clD f s x) (clD f s y) < f.length := by omega
 have t2' : v2 s (clD f s x) (clD f s y) < f.length := by omega
 have dxs : clD f s x < s.length := by omega
 have c1 : (classes f s)[(v2 f (clD f s x) (clD f s y)).toNat]'(by omega) = v2 (retF f s) x y := by
  rw [e1, List.getD_eq_getElem?_getD, List.getElem?_eq_getElem (by rw [hcl]; exact hf.2)]; rfl
 have c2 : (classes f s)[(v2 s (clD f s x) (clD f s y)).toNat]'(by omega) = v2 (retS f s) x y := by
  rw [e2, List.getD_eq_getElem?_getD, List.getElem?_eq_getElem (by rw [hcl]; exact hs.2)]; rfl
 refine Call.intro hp rfl (by simp) ?_
 show wp _ _ j3j.body (post [.t 7, .t 8] _ _ _) _
 simp [j3j, hx, hy, g1, g2', dx, dy, dxs, hfr, hsr, hfg, hsg, n1, n2, t1, t2, t1', t2', c1, c2]

def j6u (pg : Pg) (n : Nat) : Prop := ∀ f s : List (List Int), Rg f s → Call pg n [sol f s] [sol f s] (.agg [.mem .own (some 1) (rows (retF f s)), .mem .own (some 1) (rows (retS f s))])
theorem z1a {pg : Pg} (hp : pg.fn 321 = some j39) (h291 : j5s pg 291) (h399 : q8t pg) (h308 : q8o pg) (h400 : w18 pg) : j6u pg 321 := by
 intro f s h
 have hpm := h.1
 have h12 := hpm.small
 have hm := z0y f s
 refine Call.intro hp rfl (by simp) ?_
 show wp _ _ j39.body (post [.cell 2 (some 2)] _ _ _) _
 simp [j39]
 refine j0e (h291 f s hpm) rfl rfl (fun _ => by simp) ?_
 simp
 have hfi : Call pg 399 [ix (classes f s)] [ix (classes f s)] (.mem .own (some 1) ((dL f s).map I)) := h399 f s hpm
 refine j0e hfi rfl rfl (fun _ => by simp) ?_
 have hk : ∀ x y : Nat, x < clM f s → y < clM f s → Call pg 400 (I x :: I y :: q2m f s) (I x :: I y :: q2m f s) (.tup [I (v2 (retF f s) x y), I (v2 (retS f s) x y)]) := fun x y hx hy => h400 f s x y hpm hx hy
 have hsb := h308 (clM f s) (v2 (retF f s)) (v2 (retS f s)) 400 (q2m f s) (by omega) (by simp) (by simp) hk
 have hr1 : tabL (clM f s) (v2 (retF f s)) = retF f s := (z2t (by simp) fun r hr => by rw [retF] at hr; exact j4j hr).symm
 have hr2 : tabL (clM f s) (v2 (retS f s)) = retS f s := (z2t (by simp) fun r hr => by rw [retS] at hr; exact j4j hr).symm
 rw [hr1, hr2] at hsb
 have hdl := w1l f s
 simp only [q2m] at hsb
 generalize dL f s = D at *
 rw [← hdl] at hsb
 simp
 refine j0e hsb rfl rfl (fun _ => by simp) ?_
 simp


open Classical in
noncomputable def roR (f s : List (List Int)) : Option (List (List Int) × List (List Int)) := if j5c f s then some (retF f s, retS f s) else none
def S_ro (pg : Pg) (n : Nat) : Prop := ∀ f s : List (List Int), fits f → fits s → Call pg n [sol f s] [sol f s] (.tup [solT (roR f s), I (q48 1 (fun _ _ => 0) f s)])
theorem z8b {pg : Pg} (hp : pg.fn 187 = some j4c) (h266 : q57 pg 266) (h321 : j6u pg 321) : S_ro pg 187 := by
 intro f s hf hs
 refine Call.intro hp rfl (by simp) ?_
 show wp _ _ j4c.body (post [.cell 2 (some 2), .t 3] _ _ _) _
 simp [j4c]
 refine j0e (h266 f s hf hs) rfl rfl (fun _ => rfl) ?_
 by_cases h : j5c f s
 · simp [j03 h, j1a h]
   refine j0e (h321 f s (rg_of h)) rfl rfl (fun _ => by simp) ?_
   simp [roR, h, solT]
 · simp [j2i h, roR, h, solT]
end Go.Mch
namespace Go.Mch

def cmpI (a b : Int) : Int := if a < b then -1 else if b < a then 1 else 0
def cmpW {α : Type} (c : α → α → Int) : List α → List α → Int
 | [], [] => 0
 | [], _ :: _ => -1
 | _ :: _, [] => 1
 | a :: as, b :: bs => if c a b ≠ 0 then c a b else cmpW c as bs
theorem q18 (a b : Int) : cmpI a b = 0 ↔ a = b := by
 unfold cmpI
 constructor
 · intro h
   split at h
   · omega
   · split at h <;> omega
 · rintro rfl; simp
theorem z0w {α : Type} {c : α → α → Int} (hc : ∀ a b, c a b = 0 ↔ a = b) : ∀ as bs : List α, cmpW c as bs = 0 ↔ as = bs
 | [], [] => by simp [cmpW]
 | [], _ :: _ => by simp [cmpW]
 | _ :: _, [] => by simp [cmpW]
 | a :: as, b :: bs => by
  have ih := z0w hc as bs
  unfold cmpW
  by_cases h : c a b = 0
  · have := (hc a b).1 h
    subst this
    simp [h, ih]
  · have : a ≠ b := fun he => h ((hc a b).2 he)
    simp [h, this]
abbrev cmpL : List Int → List Int → Int := cmpW cmpI
theorem q51 (a b : List Int) : cmpL a b = 0 ↔ a = b := z0w q18 a b
end Go.Mch
namespace Go.Mch

def atV (k : Env → Prop) (e : Env) (d : Option Nat) (n : Int) : V → Prop
 | .val (.sc (.string s)) => j0c (if 0 ≤ n then s[n.toNat]? else none) fun b => k (e.setD d (.val (.sc (.int .u8 b.toNat))))
 | _ => False
section
variable (G : Rl) (m : K) (d : Option Nat) (k : Env → Prop) (e : Env)
@[simp] theorem q_at (x i : Opd) : j0l G m d (.at x i) k e = j0c (e.opd x) fun a => j0c ((e.opd i).bind asI) fun n => atV k e d n a := by
 unfold j0l atV
 rfl
@[simp ↓, simp] theorem y05 (r : Nat) : asgV e d k (.same r) = j0c (e.take (.same r)) fun y => k (y.2.setD d (.val y.1)) := rfl
@[simp ↓, simp] theorem atV_str (n : Int) (s : ByteArray) : atV k e d n (.val (.sc (.string s))) = j0c (if 0 ≤ n then s[n.toNat]? else none) fun b => k (e.setD d (.val (.sc (.int .u8 b.toNat)))) := rfl
end

theorem w4u (a b : Int) : cmpI b a = - cmpI a b := by
 unfold cmpI
 split
 · rw [if_neg (by omega)]
 · split <;> rfl
theorem z4o : ∀ a b : List Int, cmpL b a = - cmpL a b
 | [], [] => rfl
 | [], _ :: _ => rfl
 | _ :: _, [] => rfl
 | a :: as, b :: bs => by
  have ih := z4o as bs
  have h := w4u a b
  simp only [cmpW]
  by_cases hz : cmpI a b = 0
  · have hz2 : cmpI b a = 0 := by omega
    simp only [hz, hz2, ne_eq, not_true_eq_false, if_false]
    exact ih
  · have hz2 : cmpI b a ≠ 0 := by omega
    simp only [ne_eq, hz, hz2, not_false_eq_true, if_true]
    exact h
theorem z2c {a b : Int} : cmpI a b < 0 ↔ a < b := by
 unfold cmpI
 by_cases h : a < b
 · simp [h]
 · by_cases h2 : b < a
   · simp [h, h2]
   · simp [h, h2]
theorem q25 : ∀ a b c : List Int, cmpL a b < 0 → cmpL b c < 0 → cmpL a c < 0
 | [], [], _, h, _ => by simp [cmpW] at h
 | [], _ :: _, [], _, h => by simp [cmpW] at h
 | [], _ :: _, _ :: _, _, _ => by simp [cmpW]
 | _ :: _, [], _, h, _ => by simp [cmpW] at h
 | _ :: _, _ :: _, [], _, h => by simp [cmpW] at h
 | a :: as, b :: bs, c :: cs, h1, h2 => by
  have ih := q25 as bs cs
  simp only [cmpW] at h1 h2 ⊢
  have z1 := q18 a b
  have z2 := q18 b c
  have l1 := @z2c a b
  have l2 := @z2c b c
  have l3 := @z2c a c
  have z3 := q18 a c
  by_cases e1 : cmpI a b = 0
  · have := z1.1 e1
    subst this
    by_cases e2 : cmpI a c = 0
    · simp [e1, e2] at h1 h2 ⊢
      exact ih h1 h2
    · simp only [ne_eq, e2, not_false_eq_true, if_true] at h2 ⊢
      exact h2
  · by_cases e2 : cmpI b c = 0
    · have := z2.1 e2
      subst this
      simp only [ne_eq, e1, not_false_eq_true, if_true] at h1 ⊢
      exact h1
    · simp only [ne_eq, e1, e2, not_false_eq_true, if_true] at h1 h2
      have : cmpI a c < 0 := l3.2 (by have := l1.1 h1; have := l2.1 h2; omega)
      rw [if_pos (by omega)]
      exact this
def Srt (X : List (List Int)) : Prop := X.Pairwise fun a b => cmpL a b < 0
theorem Srt.lt {X : List (List Int)} (h : Srt X) {i j : Nat} (hj : j < X.length) (hij : i < j) : cmpL (X[i]'(by omega)) X[j] < 0 :=
 List.pairwise_iff_getElem.1 h i j (by omega) hj hij
end Go.Mch
namespace Go.Mch

def gt (X : List (List Int)) (k : Nat) : List Int := X.getD k []
theorem z6x {X : List (List Int)} {k : Nat} (h : k < X.length) : X[k] = gt X k := by simp [gt, h]
def tau (i j k : Nat) : Nat := if k = j then i else if k = i then j else k
theorem w6h {i j k k' : Nat} (h : tau i j k = tau i j k') : k = k' := by
 unfold tau at h
 split at h <;> split at h <;> (try split at h) <;> (try split at h) <;> omega
theorem w6g (i j k : Nat) : tau i j (tau i j k) = k := by
 unfold tau
 split <;> (try split) <;> (try split) <;> (try split) <;> omega
theorem z2q {i j k a b : Nat} (hi : a ≤ i ∧ i < b) (hj : a ≤ j ∧ j < b) (hk : a ≤ k ∧ k < b) : a ≤ tau i j k ∧ tau i j k < b := by
 unfold tau
 split <;> (try split) <;> omega
def swL (X : List (List Int)) (i j : Nat) : List (List Int) := (X.set i (gt X j)).set j (gt X i)
@[simp] theorem z5v (X : List (List Int)) (i j : Nat) : (swL X i j).length = X.length := by simp [swL]
theorem q5p {X : List (List Int)} {i j : Nat} (hi : i < X.length) (hj : j < X.length) (k : Nat) : gt (swL X i j) k = gt X (tau i j k) := by
 unfold tau
 simp only [gt, swL, List.getD_eq_getElem?_getD, List.getElem?_set, List.length_set]
 by_cases h1 : j = k
 · subst h1; simp [hj]
 · have h1' : ¬ k = j := fun h => h1 h.symm
   by_cases h2 : i = k
   · subst h2; simp [h1, h1', hi]
   · have h2' : ¬ k = i := fun h => h2 h.symm
     simp [h1, h2, h1', h2']
def Dj (X : List (List Int)) : Prop := ∀ k k', k < X.length → k' < X.length → gt X k = gt X k' → k = k'
def bef (x y : List Int) : Prop := cmpL x y < 0
instance (x y : List Int) : Decidable (bef x y) := by unfold bef; infer_instance
theorem q52 {x y z : List Int} (h1 : bef x y) (h2 : bef y z) : bef x z := q25 _ _ _ h1 h2
theorem w9j (x : List Int) : ¬ bef x x := by
 have := (q51 x x).2 rfl
 unfold bef
 omega
theorem w9i {x y : List Int} (h : bef x y) : ¬ bef y x := fun h2 => w9j x (q52 h h2)
theorem y0x {x y : List Int} (hne : x ≠ y) (h : ¬ bef x y) : bef y x := by
 have h1 := z4o x y
 have h2 : cmpL x y ≠ 0 := fun hz => hne ((q51 x y).1 hz)
 unfold bef at h ⊢
 omega
theorem Dj.or {X : List (List Int)} (h : Dj X) {i j : Nat} (hi : i < X.length) (hj : j < X.length) (hij : i ≠ j) (hn : ¬ bef (gt X i) (gt X j)) : bef (gt X j) (gt X i) :=
 y0x (fun he => hij (h i j hi hj he)) hn
theorem Dj.swap {X : List (List Int)} (h : Dj X) {i j : Nat} (hi : i < X.length) (hj : j < X.length) : Dj (swL X i j) := by
 intro k k' hk hk' he
 rw [z5v] at hk hk'
 rw [q5p hi hj, q5p hi hj] at he
 have h1 := z2q (i := i) (j := j) (a := 0) (b := X.length) (k := k) (by omega) (by omega) (by omega)
 have h2 := z2q (i := i) (j := j) (a := 0) (b := X.length) (k := k') (by omega) (by omega) (by omega)
 exact w6h (h _ _ h1.2 h2.2 he)
structure PI (X Y : List (List Int)) (a b : Nat) : Prop where
 len : Y.length = X.length
 out : ∀ k, k < a ∨ b ≤ k → gt Y k = gt X k
 fwd : ∀ k, a ≤ k → k < b → ∃ k', a ≤ k' ∧ k' < b ∧ gt Y k = gt X k'
 bwd : ∀ k, a ≤ k → k < b → ∃ k', a ≤ k' ∧ k' < b ∧ gt X k = gt Y k'
 dj : Dj Y
theorem PI.refl {X : List (List Int)} (h : Dj X) (a b : Nat) : PI X X a b := ⟨rfl, fun _ _ => rfl, fun k h1 h2 => ⟨k, h1, h2, rfl⟩, fun k h1 h2 => ⟨k, h1, h2, rfl⟩, h⟩
theorem PI.trans {X Y Z : List (List Int)} {a b : Nat} (h : PI X Y a b) (g : PI Y Z a b) : PI X Z a b :=
 ⟨g.len.trans h.len, fun k hk => (g.out k hk).trans (h.out k hk), fun k h1 h2 => by
  obtain ⟨k', p1, p2, p3⟩ := g.fwd k h1 h2
  obtain ⟨k'', q1, q2, q3⟩ := h.fwd k' p1 p2
  exact ⟨k'', q1, q2, p3.trans q3⟩, fun k h1 h2 => by
  obtain ⟨k', p1, p2, p3⟩ := h.bwd k h1 h2
  obtain ⟨k'', q1, q2, q3⟩ := g.bwd k' p1 p2
  exact ⟨k'', q1, q2, p3.trans q3⟩, g.dj⟩
theorem PI.swap {X Y : List (List Int)} {a b i j : Nat} (h : PI X Y a b) (hb : b ≤ X.length) (hi : a ≤ i ∧ i < b) (hj : a ≤ j ∧ j < b) : PI X (swL Y i j) a b := by
 have hl := h.len
 have hg := q5p (X := Y) (i := i) (j := j) (by omega) (by omega)
 refine ⟨by simp [hl], fun k hk => ?_, fun k h1 h2 => ?_, fun k h1 h2 => ?_, h.dj.swap (by omega) (by omega)⟩
 · rw [hg]
   have : tau i j k = k := by unfold tau; split <;> (try split) <;> omega
   rw [this]
   exact h.out k hk
 · rw [hg]
   have := z2q hi hj ⟨h1, h2⟩
   exact h.fwd _ this.1 this.2
 · obtain ⟨k', p1, p2, p3⟩ := h.bwd k h1 h2
   have := z2q hi hj ⟨p1, p2⟩
   exact ⟨tau i j k', this.1, this.2, by rw [hg, w6g]; exact p3⟩
def SI (X : List (List Int)) (a b : Nat) : Prop := ∀ p q, a ≤ p → p < q → q < b → bef (gt X p) (gt X q)
theorem SI.one (X : List (List Int)) {a b : Nat} (h : b ≤ a + 1) : SI X a b := fun p q h1 h2 h3 => by omega
def SJ (X : List (List Int)) (a j i : Nat) : Prop := ∀ p q, a ≤ p → p < q → q < i → q ≠ j → bef (gt X p) (gt X q)
theorem SJ.done {X : List (List Int)} {a j i : Nat} (h : SJ X a j i) (hj : j = a ∨ bef (gt X (j - 1)) (gt X j)) : SI X a i := fun p q h1 h2 h3 => by
 by_cases hq : q = j
 · subst hq
   rcases hj with hj | hj
   · omega
   · by_cases hp : p = q - 1
     · subst hp; exact hj
     · exact q52 (h p (q - 1) h1 (by omega) (by omega) (by omega)) hj
 · exact h p q h1 h2 h3 hq
theorem SJ.step {X : List (List Int)} {a j i : Nat} (h : SJ X a (j + 1) i) (haj : a ≤ j) (hji : j + 1 < i) (hi : i ≤ X.length) (hb : bef (gt X (j + 1)) (gt X j)) : SJ (swL X (j + 1) j) a j i := by
 have hg := q5p (X := X) (i := j + 1) (j := j) (by omega) (by omega)
 intro p q h1 h2 h3 h4
 rw [hg, hg]
 unfold tau
 by_cases hq : q = j + 1
 · subst hq
   rw [if_neg h4, if_pos rfl]
   by_cases hp : p = j
   · rw [if_pos hp]; exact hb
   · rw [if_neg hp, if_neg (by omega)]
     exact h p j h1 (by omega) (by omega) (by omega)
 · rw [if_neg h4, if_neg hq]
   by_cases hp : p = j
   · rw [if_pos hp]; exact h (j + 1) q (by omega) (by omega) h3 hq
   · rw [if_neg hp]
     by_cases hp2 : p = j + 1
     · rw [if_pos hp2]; exact h j q (by omega) (by omega) h3 hq
     · rw [if_neg hp2]; exact h p q h1 h2 h3 hq
theorem SI.srt {X : List (List Int)} (h : SI X 0 X.length) : Srt X := by
 refine List.pairwise_iff_getElem.2 fun i j hi hj hij => ?_
 have := h i j (by omega) hij hj
 rw [← z6x hi, ← z6x hj] at this
 exact this
theorem PI.mem {X Y : List (List Int)} (h : PI X Y 0 X.length) (x : List Int) : x ∈ Y ↔ x ∈ X := by
 have hl := h.len
 constructor
 · intro hm
   obtain ⟨k, hk, rfl⟩ := List.getElem_of_mem hm
   obtain ⟨k', _, p2, p3⟩ := h.fwd k (by omega) (by omega)
   rw [z6x hk, p3, ← z6x p2]
   exact List.getElem_mem p2
 · intro hm
   obtain ⟨k, hk, rfl⟩ := List.getElem_of_mem hm
   obtain ⟨k', _, p2, p3⟩ := h.bwd k (by omega) hk
   have hk' : k' < Y.length := by omega
   rw [z6x hk, p3, ← z6x hk']
   exact List.getElem_mem hk'
end Go.Mch
namespace Go.Mch

def Sm (X : List (List Int)) : Prop := X.length ≤ 1000000 ∧ ∀ k, (gt X k).length ≤ 1048576
theorem Sm.pi {X Y : List (List Int)} {a b : Nat} (h : Sm X) (p : PI X Y a b) : Sm Y := ⟨by rw [p.len]; exact h.1, fun k => by
 by_cases hk : a ≤ k ∧ k < b
 · obtain ⟨k', _, _, q⟩ := p.fwd k hk.1 hk.2
   rw [q]; exact h.2 k'
 · rw [p.out k (by omega)]; exact h.2 k⟩
def j59 {α : Type} (Q : α → Prop) (rs : List RV) (args : List T) (args' : α → List T) (r : α → T) : X → Env → Prop := fun x e => ∃ l, Q l ∧ post rs args (args' l) (r l) x e
theorem Call.q3y {α : Type} {pg : Pg} {f : Nat} {args : List T} {fn : F} {args' : α → List T} {r : α → T} {Q : α → Prop} (hf : pg.fn f = some fn) (hn : fn.np = args.length) (hl : fn.lets args = true) (hk : kindOf args = .old)
 (h : wp (Call pg) .old fn.body (j59 Q fn.rs args args' r) (init args)) : ∃ l, Q l ∧ Call pg f args (args' l) (r l) := by
 obtain ⟨⟨l, hq⟩, hl2⟩ := v3l (β := { l // Q l }) (R := fun l x e => post fn.rs args (args' l.1) (r l.1) x e) fn.body (wp_mono (fun _ _ _ _ h => h) _ (fun _ _ ⟨l, hq, hp⟩ => ⟨⟨l, hq⟩, hp⟩) h)
 exact ⟨l, hq, Call.q5l hf hn hl (by rw [hk]; exact hl2)⟩
def ExY (P : List (List Int) → Prop) : Prop := ∃ Q, P Q
theorem ExY.mk {P : List (List Int) → Prop} (Q : List (List Int)) (h : P Q) : ExY P := ⟨Q, h⟩
theorem SI.less {X : List (List Int)} {a i b : Nat} (h : SI X a i) (hb : b ≤ i) : SI X a b := fun p q h1 h2 h3 => h p q h1 h2 (by omega)

end Go.Mch
namespace Go.Mch

def chd (c p : Nat) : Prop := c = 2 * p + 1 ∨ c = 2 * p + 2
def Hp (X : List (List Int)) (f lo hi : Nat) : Prop := ∀ p c, lo ≤ p → chd c p → c < hi → ¬ bef (gt X (f + p)) (gt X (f + c))
def HpR (X : List (List Int)) (f lo hi r : Nat) : Prop := (∀ p c, lo ≤ p → p ≠ r → chd c p → c < hi → ¬ bef (gt X (f + p)) (gt X (f + c))) ∧ ∀ q c, lo ≤ q → chd r q → chd c r → c < hi → ¬ bef (gt X (f + q)) (gt X (f + c))
theorem Hp.start {X : List (List Int)} {f lo hi : Nat} (h : Hp X f (lo + 1) hi) : HpR X f lo hi lo :=
 ⟨fun p c h1 h2 h3 h4 => h p c (by omega) h3 h4, fun q c h1 h2 h3 h4 => by unfold chd at h2; omega⟩
theorem HpR.out {X : List (List Int)} {f lo hi r : Nat} (h : HpR X f lo hi r) (hr : hi ≤ 2 * r + 1) : Hp X f lo hi := fun p c h1 h2 h3 => by
 by_cases hp : p = r
 · subst hp; unfold chd at h2; omega
 · exact h.1 p c h1 hp h2 h3
def Big (X : List (List Int)) (f hi r d : Nat) : Prop := chd d r ∧ d < hi ∧ ∀ c, chd c r → c < hi → ¬ bef (gt X (f + d)) (gt X (f + c))
theorem HpR.step {X : List (List Int)} {f lo hi r d : Nat} (h : HpR X f lo hi r) (hr : lo ≤ r) (hl : f + hi ≤ X.length) (hb : Big X f hi r d) (hn : bef (gt X (f + r)) (gt X (f + d))) : HpR (swL X (f + r) (f + d)) f lo hi d := by
 obtain ⟨b1, b2, b3⟩ := hb
 have hrd : r < d := by unfold chd at b1; omega
 have hg := q5p (X := X) (i := f + r) (j := f + d) (by omega) (by omega)
 have hgr : gt (swL X (f + r) (f + d)) (f + r) = gt X (f + d) := by rw [hg]; unfold tau; rw [if_neg (by omega), if_pos rfl]
 have hgd : gt (swL X (f + r) (f + d)) (f + d) = gt X (f + r) := by rw [hg]; unfold tau; rw [if_pos rfl]
 have hgo : ∀ k, k ≠ r → k ≠ d → gt (swL X (f + r) (f + d)) (f + k) = gt X (f + k) := fun k h1 h2 => by rw [hg]; unfold tau; rw [if_neg (by omega), if_neg (by omega)]
 refine ⟨fun p c h1 h2 h3 h4 => ?_, fun q c h1 h2 h3 h4 => ?_⟩
 · by_cases hp : p = r
   · subst hp
     rw [hgr]
     by_cases hc : c = d
     · subst hc; rw [hgd]; exact w9i hn
     · have hcr : c ≠ p := by unfold chd at h3; omega
       rw [hgo c hcr hc]
       exact b3 c h3 h4
   · rw [hgo p hp h2]
     by_cases hc : c = r
     · subst hc
       rw [hgr]
       exact h.2 p d h1 h3 b1 b2
     · have hcd : c ≠ d := fun he => by subst he; unfold chd at h3 b1; omega
       rw [hgo c hc hcd]
       exact h.1 p c h1 hp h3 h4
 · have hq : q = r := by unfold chd at h2 b1; omega
   subst hq
   have hcq : c ≠ q := by unfold chd at h3; omega
   have hcd : c ≠ d := by unfold chd at h3; omega
   rw [hgr, hgo c hcq hcd]
   exact h.1 d c (by omega) (by omega) h3 h4

end Go.Mch
namespace Go.Mch

theorem wr64 {n : Nat} (h : n ≤ 100000000) : IntKind.i64.wrap (n : Int) = n := by
 have h1 : (n : Int) % 18446744073709551616 = n := by omega
 show (if (true && decide ((n : Int) % 18446744073709551616 ≥ 9223372036854775808)) = true then _ else (n : Int) % 18446744073709551616) = _
 rw [h1, if_neg (by simp; omega)]
theorem wru {a : Int} (h0 : 0 ≤ a) (h : a < 18446744073709551616) : IntKind.u64.wrap a = a := by
 show a % 18446744073709551616 = a
 omega

end Go.Mch
namespace Go.Mch

abbrev Y8 (x : Int) : T := .sc (.int .u8 x)
abbrev H64 (x : Int) : T := .sc (.int .u64 x)
def rawB : Rw Int → T
 | .no => nil
 | .odd a => .sc (.slice (some a) 0 0)
 | .of xs => .mem .old (some 1) (xs.map Y8)
@[simp] theorem w71 (xs : List Int) : T.j0m (xs.map Y8) = true := by
 induction xs with
 | nil => rfl
 | cons x xs ih => simp [ih]
@[simp] theorem v9w (k : K) (xs : List Int) : T.eryL k (xs.map Y8) = xs.map Y8 := by
 induction xs with
 | nil => rfl
 | cons x xs ih => simp [ih]
@[simp] theorem v1m (xs : List Int) : T.j1x (xs.map Y8) = xs.map Y8 := by
 induction xs with
 | nil => rfl
 | cons x xs ih => simp [ih]
@[simp] theorem v03 (a : Rw Int) : (rawB a).j0q = true := by cases a <;> simp [rawB]
@[simp] theorem v6i (a : Rw Int) (n : Nat) (p : List Nat) : (rawB a).peek n p = .val (rawB a) := by cases a <;> rfl
@[simp] theorem y2u (a : Rw Int) : (rawB a).ery .old = rawB a := by cases a <;> simp [rawB]
@[simp] theorem v6j (a : Rw Int) : (rawB a).lend = rawB a := by cases a <;> simp [rawB]
@[simp] theorem y2s (a : Rw Int) : lenV (.val (rawB a)) = some (lst a).length := by cases a <;> simp [rawB]
@[simp] theorem w7n (a : Rw Int) : (rawB a).j01 = true := by cases a <;> rfl
@[simp] theorem v04 (a : Rw Int) : (rawB a).cells = [rawB a] := by cases a <;> rfl
@[simp] theorem v2v (vs : List V) (i n : Nat) (c : Rw Int) (r : List (Nat × Nat × V)) : j2j vs ((i, n, .val (rawB c)) :: r) = if n = 1 ∧ i + n ≤ vs.length then j2j (vs.take i ++ [.val (rawB c)] ++ vs.drop (i + n)) r else none := by cases c <;> rfl
@[simp] theorem y2t (a : Rw Int) (i : Int) : idxV 1 (.val (rawB a)) i = if 0 ≤ i ∧ i < ((lst a).length : Int) then some (.val (.mem .old none (win ((lst a).map Y8) (i.toNat * 1) 1))) else none := by
 cases a with
 | no =>
  simp only [rawB, idxV, w0j, List.length_nil, List.map_nil]
  rw [if_neg]
  omega
 | odd ad =>
  simp only [rawB, idxV, z1z, List.length_nil, List.map_nil]
  rw [if_neg]
  omega
 | of xs => simp [rawB]

@[simp] theorem y09 (n : Int) : arith .u64 n = some (.int .u64 (IntKind.u64.wrap n)) := by rw [arith, if_neg (by decide)]

abbrev src (c : Rw Int) (s : Int × Int) : T := .mem .own none [rawB c, I s.1, H64 s.2]
def okB (c : Rw Int) : Prop := (lst c).length ≤ 1048576 ∧ ∀ x ∈ lst c, 0 ≤ x ∧ x < 256
def Sr (c : Rw Int) (s : Int × Int) : Prop := okB c ∧ 0 ≤ s.1 ∧ s.1 ≤ (lst c).length

theorem and24 (a : Nat) : ∃ y : Nat, y ≤ 16777215 ∧ IntKind.i64.wrap (IntKind.u64.wrap ((a &&& 16777215 % 2 ^ IntKind.u64.bits : Nat) : Int)) = (y : Int) := by
 have h : a &&& 16777215 % 2 ^ IntKind.u64.bits ≤ 16777215 := by
  show a &&& 16777215 % 2 ^ 64 ≤ 16777215
  exact Nat.le_trans Nat.and_le_right (by decide)
 refine ⟨_, h, ?_⟩
 rw [wru (by omega) (by omega), wr64 (by omega)]
def q0k (pg : Pg) : Prop := ∀ (c : Rw Int) (s : Int × Int) (n : Int), Sr c s → ∃ (s' : Int × Int) (r : Int), (Sr c s' ∧ 0 ≤ r ∧ (1 ≤ n → r < n) ∧ (n < 1 → r = 0)) ∧ Call pg 336 [src c s, I n] [src c s', I n] (I r)
set_option maxRecDepth 10000 in
theorem t_nxt {pg : Pg} (hp : pg.fn 336 = some j3n) : q0k pg := by
 intro c s n hs
 have hfind := Call.q3y (α := (Int × Int) × Int) (Q := fun Y => Sr c Y.1 ∧ 0 ≤ Y.2 ∧ (1 ≤ n → Y.2 < n) ∧ (n < 1 → Y.2 = 0)) (args := [src c s, I n]) (args' := fun Y => [src c Y.1, I n]) (r := fun Y => I Y.2) hp rfl (by simp [F.lets, j3n, List.range, List.range.loop]) (by simp [kindOf]) ?_
 · obtain ⟨Y, h1, h2⟩ := hfind
   exact ⟨_, _, h1, h2⟩
 show wp _ _ j3n.body (j59 _ [.t 4] _ _ _) _
 generalize hR : j59 (fun Y : (Int × Int) × Int => Sr c Y.1 ∧ 0 ≤ Y.2 ∧ (1 ≤ n → Y.2 < n) ∧ (n < 1 → Y.2 = 0)) [.t 4] [src c s, I n] (fun Y => [src c Y.1, I n]) (fun Y => I Y.2) = R
 obtain ⟨a, h⟩ := s
 obtain ⟨hc, ha, hl⟩ := hs
 have hb := hc.1
 simp only at ha hl
 by_cases hn : n < 1
 · simp [j3n, hn]
   subst hR
   exact ⟨((a, h), 0), ⟨⟨hc, ha, hl⟩, by simp; omega⟩, by simp [post]⟩
 · simp [j3n, hn]
   generalize IntKind.u64.wrap (IntKind.u64.wrap (h * 6364136223846793005) + 1442695040888963407) = h'
   generalize (h'.fdiv (2 ^ min 33 IntKind.u64.bits) % 2 ^ IntKind.u64.bits).toNat = z
   obtain ⟨y, hy, e⟩ := and24 z
   have hn0 : ¬ n = 0 := by omega
   have hmod : ∀ x : Int, 0 ≤ x → 0 ≤ x.tmod n ∧ x.tmod n < n := fun x hx => by
    rw [Int.tmod_eq_emod_of_nonneg hx]
    exact ⟨Int.emod_nonneg _ hn0, Int.emod_lt_of_pos _ (by omega)⟩
   rw [e]
   by_cases hlt : a < (lst c).length
   · obtain ⟨i, rfl⟩ : ∃ i : Nat, a = i := ⟨a.toNat, by omega⟩
     have hi : i < (lst c).length := by omega
     have hx := hc.2 _ (List.getElem_mem hi)
     have hw : IntKind.i64.wrap ((lst c)[i]) = (lst c)[i] := by
      obtain ⟨x, hx'⟩ : ∃ x : Nat, (lst c)[i] = x := ⟨((lst c)[i]).toNat, by omega⟩
      rw [hx', wr64 (by omega)]
     simp [hlt, hi, hn0, hw]
     subst hR
     have := hmod (y + (lst c)[i]) (by omega)
     refine ⟨by omega, by omega, ((i + 1, h'), ((y : Int) + (lst c)[i]).tmod n), ⟨⟨hc, by simp only; omega, by simp only; omega⟩, by simp only; omega⟩, by simp [post]⟩
   · simp [hlt, hn0]
     subst hR
     have := hmod y (by omega)
     exact ⟨((a, h'), (y : Int).tmod n), ⟨⟨hc, ha, hl⟩, by simp only; omega⟩, by simp [post]⟩
theorem j1k {G : Rl} {d : Option Nat} {k : Env → Prop} {e : Env} {n id : Nat} {ts us ts' : List T} {r : T} (hc : G id (.mem .own none (T.j1x ts) :: T.j1x us) (.mem .own none ts' :: us) r) (hk : k ((e.over n (.mem .own none ts')).setD d (.val r))) : z4p G d k e n id ts us := ⟨ts', r, hc, hk⟩
def q7n (pg : Pg) : Prop := ∀ (c : Rw Int) (s : Int × Int) (l : List Int), Sr c s → 0 < l.length → l.length ≤ 1048576 → ∃ (s' : Int × Int) (r : Int), (Sr c s' ∧ r ∈ l) ∧ Call pg 292 [src c s, ix l] [src c s', ix l] (I r)
set_option maxRecDepth 10000 in
theorem v4o {pg : Pg} (hp : pg.fn 292 = some j4h) (h336 : q0k pg) : q7n pg := by
 intro c s l hs h0 hl
 obtain ⟨s', r, ⟨g1, g2, g3, _⟩, hc⟩ := h336 c s l.length hs
 have g3 := g3 (by omega)
 obtain ⟨i, rfl⟩ : ∃ i : Nat, r = i := ⟨r.toNat, by omega⟩
 have hi : i < l.length := by omega
 refine ⟨s', l[i], ⟨g1, List.getElem_mem hi⟩, Call.q5l hp rfl (by simp [F.lets, j4h, List.range, List.range.loop]) ?_⟩
 show wp _ _ j4h.body (post [.t 4] _ _ _) _
 simp [j4h]
 refine j1k (ts' := [rawB c, I s'.1, H64 s'.2]) (r := I i) (by simpa using hc) ?_
 simp [hi]
def z5b (pg : Pg) : Prop := ∀ c : Rw Int, okB c → ∃ s : Int × Int, Sr c s ∧ Call pg 269 [rawB c] [rawB c] (src c s)
set_option maxRecDepth 10000 in
theorem v4q {pg : Pg} (hp : pg.fn 269 = some j5l) : z5b pg := by
 intro c hc
 have hb := hc.1
 have hfind := Call.find (α := Int × Int) (Q := fun s => Sr c s) (args := [rawB c]) (r := fun s => src c s) hp rfl (by simp) ?_
 · exact hfind
 show wp _ _ j5l.body (j59 _ [.t 2] _ _ _) _
 generalize hR : j59 (fun s : Int × Int => Sr c s) [.t 2] [rawB c] (fun _ => [rawB c]) (fun s => src c s) = R
 simp [j5l]
 obtain ⟨m, m1, m2, m3⟩ : ∃ m : Nat, m ≤ (lst c).length ∧ m ≤ 4096 ∧ (m = (lst c).length ∨ m = 4096) := by
  by_cases h1 : (lst c).length ≤ 4096
  · exact ⟨_, Nat.le_refl _, h1, .inl rfl⟩
  · exact ⟨4096, by omega, Nat.le_refl _, .inr rfl⟩
 refine j0a (fun k e => ∃ h : Int, e = fr [(0, some (.val (rawB c))), (3, some (.val (src c (0, h)))), (4, some (.val (I k)))]) m ?_ ?_ 0 _ (by omega) ⟨_, rfl⟩
 · rintro k e hk ⟨h, rfl⟩
   have k1 : k < (lst c).length := by omega
   have k2 : (k : Int) < 4096 := by omega
   simp [k1, k2]
   exact ⟨by omega, _, rfl⟩
 · rintro e ⟨h, rfl⟩
   have hok : Sr c (0, h) := ⟨hc, by simp, by simp⟩
   by_cases h1 : m = (lst c).length
   · subst h1
     simp [j0x]
     subst hR
     exact ⟨(0, h), hok, by simp [post]⟩
   · have h2 : m = 4096 := by omega
     subst h2
     have h3 : (4096 : Int) < (lst c).length := by omega
     simp [h3]
     subst hR
     exact ⟨(0, h), hok, by simp [post]⟩
end Go.Mch
namespace Go.Mch
section
variable {H : Type} {enc : TypeId × Value → H} {P : Program} {w : World} {base : Nat} {held : Bool} {fm : Nat → Nat}
theorem u8_wf {n : Int} (h : (Lit.int .u8 n).wf = true) : 0 ≤ n ∧ n < 256 := by
 simp only [Lit.wf, Bool.and_eq_true, decide_eq_true_eq] at h
 have h1 : IntKind.u8.min = 0 := by decide
 have h2 : IntKind.u8.max = 255 := by decide
 omega
theorem z97 {m : DataW H → Nat} (hm : Bulk m) {t e : TypeId} {fuel : Nat} {cs : List Value} {x : DataW H × List MemPlace} (ht : P.underlying t = some (.slice e)) (he : P.underlying e = some (.int .u8)) (hc : P.cellsOf e = 1)
 (h : DataW.trod enc P w base (fun _ => true) held fuel t cs = some x) : ∃ v o, cs = [v] ∧ rep fm okCl w v (rawB o) ∧ (lst o).length ≤ m x.1 ∧ ∀ n ∈ lst o, 0 ≤ n ∧ n < 256 := by
 rcases w3s ht hc h with ⟨rfl, hx⟩ | ⟨a, rfl, hx⟩ | ⟨b, off, len, cap, ds, rest, n, rfl, hl, hx, hlen, hel⟩
 · exact ⟨_, .no, rfl, ⟨rfl, rfl⟩, by simp, by simp⟩
 · exact ⟨_, .odd a, rfl, ⟨rfl, rfl⟩, by simp, by simp⟩
 · obtain ⟨zs, h1, h2⟩ := each (Q := fun i (z : Int) => w.cell? ⟨b, off + i, none⟩ = some (.int .u8 z) ∧ (Lit.int .u8 z).wf = true) len (fun i hi => by
    obtain ⟨c, y, h3, h4, _⟩ := hel i hi
    obtain ⟨z, h5, _, h6⟩ := DataW.trod_int he h4
    simp only [List.cons.injEq, and_true] at h5
    exact ⟨z, by rw [h3, h5], h6⟩)
   refine ⟨_, .of zs, rfl, z9s (by simp [h1]) hl (by simp) (fun i hi => ?_), ?_, fun n hn => ?_⟩
   · have hi' : i < zs.length := by simpa using hi
     exact ⟨_, (h2 i hi').1, by simp [rep, scal]⟩
   · rw [hx]
     exact Nat.le_trans (by simp [h1, hlen]) (hm.slice ds rest)
   · obtain ⟨i, hi, rfl⟩ := List.getElem_of_mem hn
     exact u8_wf (h2 i hi).2
theorem z98 {m : DataW H → Nat} (hm : Bulk m) {rc : Reach} {b0 : Nat} {t e : TypeId} {v : Value} {d : DataW H} {ps : List MemPlace} (ht : P.underlying t = some (.slice e)) (he : P.underlying e = some (.int .u8)) (hc : P.cellsOf e = 1)
 (hval : Value.okWide P w rc b0 t v) (h : DataW.Trod enc P w base (fun _ => true) held t v d ps) : ∃ a, rep fm okCl w v (rawB a) ∧ (lst a).length ≤ m d ∧ ∀ n ∈ lst a, 0 ≤ n ∧ n < 256 := by
 obtain ⟨ad, len, cap, rfl⟩ := Go.WideShapes.okWide_slice ht hval
 obtain ⟨fuel, h⟩ := h
 obtain ⟨v0, a, e1, e2, e3, e4⟩ := z97 (fm := fm) hm ht he hc h
 simp only [Value.cells, List.cons.injEq, and_true] at e1
 subst e1
 exact ⟨a, e2, e3, e4⟩
end
end Go.Mch
namespace Go.Mch

def q58 (pg : Pg) : Prop := ∀ (xs : List Int) (v : Int), xs.length ≤ 1048576 → Call pg 316 [ix xs, I v] [ix xs, I v] (.mem .own (some 1) ((pl xs fun x => decide (x = v)).map I))
theorem z8c {pg : Pg} (hp : pg.fn 316 = some j3t) : q58 pg := by
 intro xs v hl
 refine Call.intro hp rfl (by simp) ?_
 show wp _ _ j3t.body (post [.t 4] _ _ _) _
 simp [j3t]
 refine j0a (fun k e => e = fr [(0, some (.val (ix xs))), (1, some (.val (I v))), (5, some (.val (.mem .own (some 1) ((plK xs (fun x => decide (x = v)) k).map I)))), (6, some (.val (I k)))]) xs.length ?_ ?_ 0 _ (by omega) ?_
 · rintro k e hk rfl
   have hs := z3f (P := fun x => decide (x = v)) hk
   have hl2 := z1v xs (fun x => decide (x = v)) k
   generalize plK xs (fun x => decide (x = v)) k = L at *
   generalize plK xs (fun x => decide (x = v)) (k + 1) = L' at *
   by_cases hv : xs[k] = v
   · simp [hv] at hs
     subst hs
     simp [hk, hv, roomy]
     omega
   · simp [hv] at hs
     subst hs
     simp [hk, hv]
     omega
 · rintro e rfl
   have hpl : pl xs (fun x => decide (x = v)) = plK xs (fun x => decide (x = v)) xs.length := rfl
   rw [hpl]
   simp
 · simp [plK]
end Go.Mch
namespace Go.Mch

def cloP (f s : List (List Int)) (xs : List Int) (i j : Nat) : Prop := g2 f (xs.getD i 0) (xs.getD j 0) ∈ xs ∧ g2 s (xs.getD i 0) (xs.getD j 0) ∈ xs
def clo (f s : List (List Int)) (xs : List Int) : Prop := ∀ i j : Nat, i < xs.length → j < xs.length → cloP f s xs i j
theorem z0o {f : List (List Int)} {a b : Int} (h1 : a.toNat < f.length) (h2 : b.toNat < (f[a.toNat]).length) : (f[a.toNat])[b.toNat] = g2 f a b := j2a h1 h2
def j88 (pg : Pg) (n : Nat) : Prop := ∀ (f s : List (List Int)) (xs : List Int), PM f s → inN f.length xs → xs.length ≤ 1048576 → Call pg n [sol f s, ix xs] [sol f s, ix xs] (B (dec (clo f s xs)))
set_option maxRecDepth 10000 in
theorem z1d {pg : Pg} (hp : pg.fn 331 = some j35) (h62 : w2k pg) : j88 pg 331 := by
 intro f s xs h hin hl
 have h12 := h.small
 have hls := h.len
 refine Call.intro hp rfl (by simp) ?_
 show wp _ _ j35.body (post [.t 4] _ _ _) _
 simp [j35]
 refine j0a (fun i e => (∀ a b : Nat, a < i → b < xs.length → cloP f s xs a b) ∧ e = fr [(1, some (.val (ix xs))), (2, some (.val (.mem .own none [tb f, tb s]))), (5, some (.val (I i)))]) xs.length ?_ ?_ 0 _ (by omega) ⟨fun a b h => by omega, by simp⟩
 · rintro i e hi ⟨g1, rfl⟩
   simp [hi]
   refine j0a (fun j e => (∀ b : Nat, b < j → cloP f s xs i b) ∧ e = fr [(1, some (.val (ix xs))), (2, some (.val (.mem .own none [tb f, tb s]))), (5, some (.val (I i))), (6, some (.val (I j)))]) xs.length ?_ ?_ 0 _ (by omega) ⟨fun b h => by omega, by simp⟩
   · rintro j e hj ⟨g2', rfl⟩
     have ea : xs.getD i 0 = xs[i] := by simp [hi]
     have eb : xs.getD j 0 = xs[j] := by simp [hj]
     have ra := hin _ (List.getElem_mem hi)
     have rb := hin _ (List.getElem_mem hj)
     have hcl : ∀ hh : ¬ (g2 f xs[i] xs[j] ∈ xs ∧ g2 s xs[i] xs[j] ∈ xs), ¬ clo f s xs := fun hh hc => by
      have := hc i j hi hj
      rw [cloP, ea, eb] at this
      exact hh this
     have hst : g2 f xs[i] xs[j] ∈ xs ∧ g2 s xs[i] xs[j] ∈ xs → ∀ b : Nat, b < j + 1 → cloP f s xs i b := fun hh b hb => by
      by_cases hbj : b = j
      · subst hbj; rw [cloP, ea, eb]; exact hh
      · exact g2' b (by omega)
     generalize hA : xs[i] = a at *
     generalize hB : xs[j] = b at *
     have la : a.toNat < f.length := by omega
     have la2 : a.toNat < s.length := by omega
     have lb : b.toNat < (f[a.toNat]).length := by rw [h.tf.row la]; omega
     have lb2 : b.toNat < (s[a.toNat]).length := by rw [h.ts.row la2]; omega
     have ia : a < f.length := by omega
     have ia2 : a < s.length := by omega
     have ib : b < (f[a.toNat]).length := by omega
     have ib2 : b < (s[a.toNat]).length := by omega
     have eF := z0o la lb
     have eS := z0o la2 lb2
     have c1 := h62 xs (g2 f a b) hl
     have c2 := h62 xs (g2 s a b) hl
     simp [hi, hj, hA, hB, ra, rb, la, lb, ib, eF]
     refine j0e c1 rfl rfl (fun _ => rfl) ?_
     by_cases m1 : g2 f a b ∈ xs
     · simp [m1, la2, lb2, ia2, ib2, ra, rb, hi, hj, hA, hB, eS]
       refine j0e c2 rfl rfl (fun _ => rfl) ?_
       by_cases m2 : g2 s a b ∈ xs
       · have := hst ⟨m1, m2⟩
         simp [m2]
         refine ⟨by omega, this⟩
       · have := hcl fun hh => m2 hh.2
         simp [m2, j0v this]
     · have := hcl fun hh => m1 hh.1
       simp [m1, j0v this, j0x]
   · rintro e ⟨g2', rfl⟩
     simp
     refine ⟨by omega, fun a b ha hb => ?_⟩
     by_cases hai : a = i
     · subst hai; exact g2' b hb
     · exact g1 a b (by omega) hb
 · rintro e ⟨g1, rfl⟩
   have : clo f s xs := fun i j hi hj => g1 i j hi hj
   simp [j03 this]
def w2j (pg : Pg) : Prop := ∀ (xs : List Int) (n : Int), xs.length ≤ 1048576 → Call pg 405 [ix xs, I n] [ix xs, I n] (B (decide (n ∈ xs)))
theorem z5u {pg : Pg} (hp : pg.fn 405 = some j0z) (h384 : j6v pg 384) : w2j pg := by
 intro xs v hl
 have hm := j45 xs v
 refine Call.intro hp rfl (by simp) ?_
 show wp _ _ j0z.body (post [.t 4] _ _ _) _
 simp [j0z]
 refine j0e (h384 xs v hl) rfl rfl (fun _ => rfl) ?_
 simp [hm]
set_option maxRecDepth 10000 in
theorem z5r {pg : Pg} (hp : pg.fn 333 = some j4z) (h405 : w2j pg) : j88 pg 333 := by
 intro f s xs h hin hl
 have h12 := h.small
 have hls := h.len
 refine Call.intro hp rfl (by simp) ?_
 show wp _ _ j4z.body (post [.t 4] _ _ _) _
 simp [j4z]
 refine j0a (fun i e => (∀ a b : Nat, a < i → b < xs.length → cloP f s xs a b) ∧ e = fr [(1, some (.val (ix xs))), (2, some (.val (.mem .own none [tb f, tb s]))), (9, some (.val (ix xs))), (10, some (.val (I xs.length))), (11, some (.val (I i)))]) xs.length ?_ ?_ 0 _ (by omega) ⟨fun a b h => by omega, by simp⟩
 · rintro i e hi ⟨g1, rfl⟩
   simp [hi]
   refine j0a (fun j e => (∀ b : Nat, b < j → cloP f s xs i b) ∧ e = fr [(1, some (.val (ix xs))), (2, some (.val (.mem .own none [tb f, tb s]))), (6, some (.val (I xs[i]))), (9, some (.val (ix xs))), (10, some (.val (I xs.length))), (11, some (.val (I i))), (15, some (.val (ix xs))), (16, some (.val (I xs.length))), (17, some (.val (I j)))]) xs.length ?_ ?_ 0 _ (by omega) ⟨fun b h => by omega, by simp⟩
   · rintro j e hj ⟨g2', rfl⟩
     have ea : xs.getD i 0 = xs[i] := by simp [hi]
     have eb : xs.getD j 0 = xs[j] := by simp [hj]
     have ra := hin _ (List.getElem_mem hi)
     have rb := hin _ (List.getElem_mem hj)
     have hcl : ∀ hh : ¬ (g2 f xs[i] xs[j] ∈ xs ∧ g2 s xs[i] xs[j] ∈ xs), ¬ clo f s xs := fun hh hc => by
      have := hc i j hi hj
      rw [cloP, ea, eb] at this
      exact hh this
     have hst : g2 f xs[i] xs[j] ∈ xs ∧ g2 s xs[i] xs[j] ∈ xs → ∀ b : Nat, b < j + 1 → cloP f s xs i b := fun hh b hb => by
      by_cases hbj : b = j
      · subst hbj; rw [cloP, ea, eb]; exact hh
      · exact g2' b (by omega)
     generalize hA : xs[i] = a at *
     generalize hB : xs[j] = b at *
     have la : a.toNat < f.length := by omega
     have la2 : a.toNat < s.length := by omega
     have lb : b.toNat < (f[a.toNat]).length := by rw [h.tf.row la]; omega
     have lb2 : b.toNat < (s[a.toNat]).length := by rw [h.ts.row la2]; omega
     have ia : a < f.length := by omega
     have ia2 : a < s.length := by omega
     have ib : b < (f[a.toNat]).length := by omega
     have ib2 : b < (s[a.toNat]).length := by omega
     have eF := z0o la lb
     have eS := z0o la2 lb2
     have c1 := h405 xs (g2 f a b) hl
     have c2 := h405 xs (g2 s a b) hl
     simp [hj, hB, ra, rb, la, lb, ib, eF]
     refine j0e c1 rfl rfl (fun _ => rfl) ?_
     by_cases m1 : g2 f a b ∈ xs
     · simp [m1, la2, lb2, ia2, ib2, ra, rb, eS]
       refine j0e c2 rfl rfl (fun _ => rfl) ?_
       by_cases m2 : g2 s a b ∈ xs
       · have := hst ⟨m1, m2⟩
         simp [m2]
         refine ⟨by omega, this⟩
       · have := hcl fun hh => m2 hh.2
         simp [m2, j0v this]
     · have := hcl fun hh => m1 hh.1
       simp [m1, j0v this, j0x]
   · rintro e ⟨g2', rfl⟩
     simp
     refine ⟨by omega, fun a b ha hb => ?_⟩
     by_cases hai : a = i
     · subst hai; exact g2' b hb
     · exact g1 a b (by omega) hb
 · rintro e ⟨g1, rfl⟩
   have : clo f s xs := fun i j hi hj => g1 i j hi hj
   simp [j03 this]
end Go.Mch
namespace Go.Mch

def j7m (m k : Nat) : List (List Int) := List.replicate k (List.replicate m 0)
def zT (m k : Nat) : T := if k = 0 then nil else .mem .own (some 1) (rows (j7m m k))
theorem z7q (m k : Nat) : zT m (k + 1) = .mem .own (some 1) (rows (j7m m k) ++ [.mem .own (some 1) (List.replicate m (I 0))]) := by
 simp [zT, j7m, List.replicate_succ', j8u]
 simp [rows]
def q6b (pg : Pg) : Prop := ∀ m : Nat, 0 < m → m ≤ 1000 → Call pg 398 [I m] [I m] (.agg [.mem .own (some 1) (rows (j7m m m)), .mem .own (some 1) (rows (j7m m m))])
theorem z5n {pg : Pg} (hp : pg.fn 398 = some j4s) : q6b pg := by
 intro m h0 hm
 refine Call.intro hp rfl (by simp) ?_
 show wp _ _ j4s.body (post [.cell 2 (some 2)] _ _ _) _
 simp [j4s]
 refine j0a (fun k e => e = fr [(0, some (.val (I m))), (2, some (.val (.mem .own none [nil, nil]))), (3, some (.val (.mem .own none [zT m k, zT m k]))), (4, some (.val (I k)))]) m ?_ ?_ 0 _ (by omega) ?_
 · rintro k e hk rfl
   have hr : m ≤ roomy := by unfold roomy; omega
   by_cases hk0 : k = 0
   · subst hk0
     have h1 : 1 ≤ roomy := by unfold roomy; omega
     rw [z7q]
     simp [hk, zT, j7m, rows, hr, h1]
   · have hlen : (j7m m k).length = k := by simp [j7m]
     have h1 : k + 1 ≤ roomy := by unfold roomy; omega
     rw [z7q]
     have hz : zT m k = .mem .own (some 1) (rows (j7m m k)) := by simp [zT, hk0]
     rw [hz]
     generalize j7m m k = Z at *
     simp [hk, hr, hlen, h1]
     omega
 · rintro e rfl
   have hz : zT m m = .mem .own (some 1) (rows (j7m m m)) := by simp [zT]; omega
   rw [hz]
   simp
 · simp [zT]

def cov (f s : List (List Int)) (a b i j : Nat) : Prop := ∃ x y, x < f.length ∧ y < f.length ∧ (x < a ∨ (x = a ∧ y < b)) ∧ clC f s x = i ∧ clC f s y = j
noncomputable def pT (f s R : List (List Int)) (a b : Nat) : List (List Int) := tabL (clM f s) fun i j => if dec (cov f s a b i j) then v2 R i j else 0
@[simp] theorem q47 (f s R : List (List Int)) (a b : Nat) : (pT f s R a b).length = clM f s := by simp [pT]
theorem w7v (f s R : List (List Int)) : pT f s R 0 0 = j7m (clM f s) (clM f s) := by
 apply List.ext_getElem
 · simp [j7m]
 · intro i h1 h2
   apply List.ext_getElem
   · simp [pT, tabL, j7m]
   · intro j h3 h4
     have : ¬ cov f s 0 0 i j := fun ⟨x, y, _, _, h, _⟩ => by omega
     simp [pT, tabL, j7m, j0v this]
theorem z95 (f s R : List (List Int)) (a : Nat) : pT f s R a f.length = pT f s R (a + 1) 0 := by
 apply j73
 intro i j _ _
 have : cov f s a f.length i j ↔ cov f s (a + 1) 0 i j := by
  constructor
  · rintro ⟨x, y, h1, h2, h3, h4⟩
    exact ⟨x, y, h1, h2, by omega, h4⟩
  · rintro ⟨x, y, h1, h2, h3, h4⟩
    exact ⟨x, y, h1, h2, by omega, h4⟩
 by_cases hc : cov f s a f.length i j
 · rw [j03 hc, j03 (this.1 hc)]
 · rw [j0v hc, j0v (fun h => hc (this.2 h))]
theorem w5o {f s R : List (List Int)} (h : PM f s) (hR : R = tabL (clM f s) (v2 R)) : pT f s R f.length 0 = R := by
 have q := q1i h
 rw [hR]
 apply j73
 intro i j hi hj
 have : cov f s f.length 0 i j := ⟨clD f s i, clD f s j, q.dn i hi, q.dn j hj, .inl (q.dn i hi), q.cd i hi, q.cd j hj⟩
 rw [j03 this, ← hR]
 rfl
theorem w5m {f s R : List (List Int)} {a b : Nat} (ha : a < f.length) (hb : b < f.length) :
 (pT f s R a b).set (clC f s a) (((pT f s R a b).getD (clC f s a) []).set (clC f s b) (v2 R (clC f s a) (clC f s b))) = pT f s R a (b + 1) := by
 have hcov : ∀ i j, cov f s a (b + 1) i j ↔ cov f s a b i j ∨ (i = clC f s a ∧ j = clC f s b) := fun i j => by
  constructor
  · rintro ⟨x, y, h1, h2, h3, rfl, rfl⟩
    by_cases hxy : x = a ∧ y = b
    · obtain ⟨rfl, rfl⟩ := hxy; exact .inr ⟨rfl, rfl⟩
    · exact .inl ⟨x, y, h1, h2, by omega, rfl, rfl⟩
  · rintro (⟨x, y, h1, h2, h3, h4⟩ | ⟨rfl, rfl⟩)
    · exact ⟨x, y, h1, h2, by omega, h4⟩
    · exact ⟨a, b, ha, hb, by omega, rfl, rfl⟩
 apply List.ext_getElem
 · simp
 · intro i h1 h2
   simp only [q47] at h2
   have hgi : ∀ b', (pT f s R a b')[i]'(by simpa using h2) = (List.range (clM f s)).map fun j => if dec (cov f s a b' i j) then v2 R i j else 0 := fun b' => by simp [pT, tabL]
   rw [List.getElem_set, hgi (b + 1)]
   by_cases hi : clC f s a = i
   · rw [if_pos hi]
     subst hi
     have hgd : (pT f s R a b).getD (clC f s a) [] = (pT f s R a b)[clC f s a]'(by simpa using h2) := by
      rw [List.getD_eq_getElem?_getD, List.getElem?_eq_getElem (by simpa using h2)]; rfl
     rw [hgd, hgi b]
     apply List.ext_getElem
     · simp
     · intro j h3 h4
       simp only [List.length_map, List.length_range] at h4
       simp only [List.getElem_set, List.getElem_map, List.getElem_range]
       by_cases hj : clC f s b = j
       · subst hj
         rw [if_pos rfl, j03 ((hcov _ _).2 (.inr ⟨rfl, rfl⟩))]
         rfl
       · rw [if_neg hj]
         by_cases hc : cov f s a b (clC f s a) j
         · rw [j03 hc, j03 ((hcov _ _).2 (.inl hc))]
         · rw [j0v hc, j0v fun h => ((hcov _ _).1 h).elim hc fun h => hj h.2.symm]
   · rw [if_neg hi, hgi b]
     apply List.map_congr_left
     intro j _
     by_cases hc : cov f s a b i j
     · rw [j03 hc, j03 ((hcov _ _).2 (.inl hc))]
     · rw [j0v hc, j0v fun h => ((hcov _ _).1 h).elim hc fun h => hi h.1.symm]
end Go.Mch
namespace Go.Mch

theorem w3n (f s : List (List Int)) : retF f s = tabL (clM f s) (v2 (retF f s)) := z2t (by simp) fun r hr => by rw [retF] at hr; exact j4j hr
theorem w3m (f s : List (List Int)) : retS f s = tabL (clM f s) (v2 (retS f s)) := z2t (by simp) fun r hr => by rw [retS] at hr; exact j4j hr
theorem j82 {f s : List (List Int)} {x : Nat} (h : x < (classes f s).length) : (classes f s)[x] = clC f s x := by
 have hx : x < f.length := by simpa using h
 have := (j83 (s := s) hx).1
 rw [List.getD_eq_getElem?_getD, List.getElem?_eq_getElem h] at this
 exact this.symm

theorem j7e {X : List (List Int)} {i j : Nat} {v : Int} (h : i < X.length) : (rows X).set i (.mem .own (some 1) ((X[i].map I).set j (I v))) = rows (X.set i (X[i].set j v)) := by
 simp [rows, List.map_set]
theorem w5n (f s R : List (List Int)) (a b : Nat) {i : Nat} (h : i < (pT f s R a b).length) : (pT f s R a b)[i].length = clM f s := j4j (by rw [← pT]; exact List.getElem_mem h)
set_option maxRecDepth 10000 in
theorem q89 {pg : Pg} (hp : pg.fn 320 = some j3r) (h289 : j5s pg 289) (h288 : q3g pg) (h398 : q6b pg) : j6u pg 320 := by
 intro f s h
 have hpm := h.1
 have h0 := hpm.pos
 have h12 := hpm.small
 have hls := hpm.len
 have hm := z0y f s
 have hm0 := q8k (s := s) h0
 have q := q1i hpm
 have hcl := j4f f s
 have hgc := q3x f s
 refine Call.intro hp rfl (by simp) ?_
 show wp _ _ j3r.body (post [.cell 2 (some 2)] _ _ _) _
 simp [j3r]
 refine j0e (h289 f s hpm) rfl rfl (fun _ => by simp) ?_
 simp
 refine j0e (h288 (classes f s) (by omega) (fun x hx => by have := z2d hx; omega)) rfl rfl (fun _ => rfl) ?_
 rw [hgc]
 simp
 refine j0e (h398 (clM f s) hm0 (by omega)) rfl rfl (fun _ => by simp) ?_
 simp
 refine j0a (fun a e => e = fr [(1, some (.val (.mem .own none [tb f, tb s]))), (2, some (.val (.mem .own none [nil, nil]))), (3, some (.val (.mem .own (some 1) ((classes f s).map I)))), (4, some (.val (.mem .own none [.mem .own (some 1) (rows (pT f s (retF f s) a 0)), .mem .own (some 1) (rows (pT f s (retS f s) a 0))]))), (5, some (.val (I a)))]) f.length ?_ ?_ 0 _ (by omega) ?_
 · rintro a e ha rfl
   have hac : a < (classes f s).length := by omega
   have hca := j82 hac
   have hcm := q.cm a ha
   have hF0 := fun a b {i : Nat} h => w5n f s (retF f s) a b (i := i) h
   have hS0 := fun a b {i : Nat} h => w5n f s (retS f s) a b (i := i) h
   simp [ha, hca, hcm, hF0, hS0]
   refine j0a (fun b e => e = fr [(1, some (.val (.mem .own none [tb f, tb s]))), (2, some (.val (.mem .own none [nil, nil]))), (3, some (.val (.mem .own (some 1) ((classes f s).map I)))), (4, some (.val (.mem .own none [.mem .own (some 1) (rows (pT f s (retF f s) a b)), .mem .own (some 1) (rows (pT f s (retS f s) a b))]))), (5, some (.val (I a))), (6, some (.sref 4 [0, clC f s a] 1 0 (clM f s))), (7, some (.sref 4 [1, clC f s a] 1 0 (clM f s))), (8, some (.val (I b)))]) f.length ?_ ?_ 0 _ (by omega) ?_
   · rintro b e hb rfl
     have hbc : b < (classes f s).length := by omega
     have hcb := j82 hbc
     have hcmb := q.cm b hb
     have hr := z9p h ha hb
     have hf := hpm.v2f a b
     have hs2 := hpm.v2s a b
     have hfr := hpm.tf.row ha
     have hsr := (hpm.ts.row (x := a) (by omega)).trans hls
     have has : a < s.length := by omega
     have hfg : (f[a])[b]'(by omega) = v2 f a b := j2a _ _
     have hsg : (s[a])[b]'(by omega) = v2 s a b := j2a _ _
     have n1 : (0 : Int) ≤ v2 f a b := by omega
     have n2 : (0 : Int) ≤ v2 s a b := by omega
     have t1 : (v2 f a b).toNat < f.length := by omega
     have t2 : (v2 s a b).toNat < f.length := by omega
     have t1' : v2 f a b < f.length := by omega
     have t2' : v2 s a b < f.length := by omega
     have c1 : (classes f s)[(v2 f a b).toNat]'(by omega) = v2 (retF f s) (clC f s a) (clC f s b) := by
      rw [j82 (by omega), hr.1]; rfl
     have c2 : (classes f s)[(v2 s a b).toNat]'(by omega) = v2 (retS f s) (clC f s a) (clC f s b) := by
      rw [j82 (by omega), hr.2]; rfl
     have p1 := w5m (f := f) (s := s) (R := retF f s) ha hb
     have p2 := w5m (f := f) (s := s) (R := retS f s) ha hb
     have l1 := q47 f s (retF f s) a b
     have l2 := q47 f s (retS f s) a b
     have r1 := fun {i : Nat} h => hF0 a b (i := i) h
     have r2 := fun {i : Nat} h => hS0 a b (i := i) h
     clear hF0 hS0
     rw [← p1, ← p2]
     generalize pT f s (retF f s) a b = X at *
     generalize pT f s (retS f s) a b = Y at *
     have xr := r1 (i := clC f s a) (by omega)
     have yr := r2 (i := clC f s a) (by omega)
     have lx : clC f s a < X.length := by omega
     have ly : clC f s a < Y.length := by omega
     simp [ha, hb, hcb, hcmb, has, hfr, hsr, hfg, hsg, n1, n2, t1, t2, t1', t2', c1, c2, lx, ly, xr, yr]
     refine ⟨by omega, by omega, ?_⟩
     rw [← j7e lx, ← j7e ly]
   · rintro e rfl
     rw [z95, z95]
     simp
     omega
   · simp
 · rintro e rfl
   rw [w5o hpm (w3n f s), w5o hpm (w3m f s)]
   simp
 · simp [w7v]

theorem z8a {pg : Pg} (hp : pg.fn 186 = some j38) (h264 : q57 pg 264) (h320 : j6u pg 320) : S_ro pg 186 := by
 intro f s hf hs
 refine Call.intro hp rfl (by simp) ?_
 show wp _ _ j38.body (post [.cell 2 (some 2), .t 3] _ _ _) _
 simp [j38]
 refine j0e (h264 f s hf hs) rfl rfl (fun _ => rfl) ?_
 by_cases h : j5c f s
 · simp [j03 h, j1a h]
   refine j0e (h320 f s (rg_of h)) rfl rfl (fun _ => by simp) ?_
   simp [roR, h, solT]
 · simp [j2i h, roR, h, solT]
end Go.Mch
namespace Go.Mch

def frT (X : List (List Int)) : T := .mem .fresh (some 1) (X.map fun xs => .mem .fresh (some 1) (xs.map I))
@[simp] theorem v9p (X : List (List Int)) : (frT X).j0q = true := by
 have := (q3n X).1
 rw [q1w] at this
 simp [frT, this]
@[simp] theorem frT_ery (X : List (List Int)) : (frT X).ery .old = tb X := by
 have := (q3n X).2
 rw [q1w] at this
 simp [frT, this]
@[simp] theorem frT_peek (X : List (List Int)) (r : Nat) (p : List Nat) : (frT X).peek r p = .val (frT X) := rfl
@[simp] theorem frT_cell (X : List (List Int)) : (frT X).j01 = true := rfl
@[simp] theorem v9q (X : List (List Int)) : (frT X).cells = [frT X] := rfl
@[simp] theorem frT_len (X : List (List Int)) : lenV (.val (frT X)) = some X.length := by simp [frT]
theorem q0c (X : List (List Int)) : T.mem .fresh (some 1) (T.frzL .fresh (rows X)) = frT X := by rw [q1w]; rfl

def serL : Nat → List (List Int) → List (List Int) → List (List (List Int) × List (List Int))
 | 0, _, _ => []
 | k + 1, f, s => (f, s) :: if clM f s = f.length then [] else serL k (retF f s) (retS f s)
def frL (l : List (List (List Int) × List (List Int))) : List T := l.flatMap fun x => [frT x.1, frT x.2]
@[simp] theorem frL_nil : frL [] = [] := rfl
@[simp] theorem frL_cons (x : List (List Int) × List (List Int)) (l : List (List (List Int) × List (List Int))) : frL (x :: l) = frT x.1 :: frT x.2 :: frL l := rfl
theorem q20 (a b : List (List (List Int) × List (List Int))) : frL (a ++ b) = frL a ++ frL b := by simp [frL]
theorem q2y (l : List (List (List Int) × List (List Int))) : (frL l).length = 2 * l.length := by
 induction l with
 | nil => rfl
 | cons x l ih => simp [ih]; omega

def w2b (pg : Pg) : Prop := ∀ f s : List (List Int), fits f → fits s → Call pg 397 [sol f s] [sol f s] (.agg [.mem .own (some 1) (rows f), .mem .own (some 1) (rows s)])
theorem w2v {pg : Pg} (hp : pg.fn 397 = some j53) (h280 : q8u pg 280) : w2b pg := by
 intro f s hf hs
 refine Call.intro hp rfl (by simp) ?_
 show wp _ _ j53.body (post [.cell 2 (some 2)] _ _ _) _
 simp [j53]
 refine j0e (h280 f hf) rfl rfl (fun _ => by simp) ?_
 simp
 refine j0e (h280 s hs) rfl rfl (fun _ => by simp) ?_
 simp

def w15 (pg : Pg) : Prop := ∀ f s : List (List Int), Rg f s → Call pg 319 [sol f s] [sol f s] (.mem .own (some 2) (frL (serL f.length f s)))
set_option maxRecDepth 10000 in
theorem z1c {pg : Pg} (hp : pg.fn 319 = some j33) (h397 : w2b pg) (h320 : j6u pg 320) : w15 pg := by
 intro f s h
 have hpm := h.1
 have h0 := hpm.pos
 have h12 := hpm.small
 have hls := hpm.len
 refine Call.intro hp rfl (by simp) ?_
 show wp _ _ j33.body (post [.t 2] _ _ _) _
 simp [j33]
 refine j0e (h397 f s hpm.v9r ⟨by omega, fun r hr => by have := (hpm.ts r hr).1; omega⟩) rfl rfl (fun _ => by simp) ?_
 simp [q0c]
 refine j6m (α := Nat × List (List (List Int) × List (List Int)) × List (List Int) × List (List Int)) (fun y => y.1) (fun y e => Rg y.2.2.1 y.2.2.2 ∧ y.2.2.1.length ≤ y.1 ∧ y.2.1 ++ serL y.1 y.2.2.1 y.2.2.2 = serL f.length f s ∧ y.2.1.length + y.2.2.1.length ≤ f.length ∧
  e = fr [(3, some (.val (.mem .own (some 2) (frL y.2.1 ++ [frT y.2.2.1, frT y.2.2.2]))))]) ?_ (f.length, [], f, s) _ ⟨h, by simp, by simp, by simp, by simp⟩
 rintro ⟨fu, P, F, S⟩ e ⟨g1, g2, g3, g4, rfl⟩
 simp only at g1 g2 g3 g4
 have F0 := g1.1.pos
 obtain ⟨fu, rfl⟩ : ∃ j, fu = j + 1 := ⟨fu - 1, by omega⟩
 have hcl := q2y P
 have hret := h320 F S g1
 have hm := z0y F S
 rw [serL] at g3
 have hlen : (frL P ++ [frT F, frT S]).length / 2 = P.length + 1 := by
  rw [List.length_append, hcl]; simp only [List.length_cons, List.length_nil]; omega
 have hget0 : (frL P ++ [frT F, frT S])[2 * P.length]? = some (frT F) := by rw [List.getElem?_append_right (by omega), hcl]; simp
 have hdrop : (frL P ++ [frT F, frT S]).drop (P.length * 2) = [frT F, frT S] := by rw [← hcl.trans (Nat.mul_comm _ _)]; simp
 have hLl : (frL P ++ [frT F, frT S]).length = 2 * P.length + 2 := by rw [List.length_append, hcl]; rfl
 have hwin : win (frL P ++ [frT F, frT S]) (P.length * 2) 2 = [frT F, frT S] := by unfold win; rw [hdrop]; rfl
 generalize hLd : frL P ++ [frT F, frT S] = L at *
 simp [hlen, hwin]
 refine ⟨by omega, by omega, by omega, ?_⟩
 refine j0e hret rfl rfl (fun _ => by simp) ?_
 simp [q0c]
 have e2 : L.length / 2 * 2 = L.length := by omega
 have e3 : win L 0 L.length = L := by simp [win]
 have e4 : L = frL (P ++ [(F, S)]) := by rw [q20, ← hLd]; rfl
 by_cases hc : clM F S = F.length
 · rw [if_pos hc] at g3
   rw [if_pos (by omega), e2, e3, e2, e3]
   exact ⟨by omega, by omega, by rw [e4, g3]⟩
 · rw [if_neg hc] at g3
   rw [if_neg (by omega), e2, e3]
   have e5 : (L.length / 2 + 1) * 2 = (L ++ [frT (retF F S), frT (retS F S)]).length := by simp; omega
   refine ⟨by omega, by unfold roomy; omega, by omega, fu, by omega, P ++ [(F, S)], retF F S, retS F S, q90 g1, by simp; omega, by rw [List.append_assoc]; exact g3, by simp; omega, ?_⟩
   rw [e5, ← e4]
   simp [win, take_len (L ++ [frT (retF F S), frT (retS F S)]) (n := L.length + 2) (by simp)]

def serT (l : List (List (List Int) × List (List Int))) : List T := match l with
 | [] => []
 | x :: l => tb x.1 :: tb x.2 :: frL l
theorem z8w (l : List (List (List Int) × List (List Int))) (x y : List (List Int) × List (List Int)) : serT (l ++ [x, y]) = serT (l ++ [x]) ++ [frT y.1, frT y.2] := by
 cases l with
 | nil => rfl
 | cons z l => simp [serT, q20]
theorem q0m (l : List (List (List Int) × List (List Int))) : (serT l).length = 2 * l.length := by
 cases l with
 | nil => rfl
 | cons z l => simp [serT, q2y]; omega
theorem z8x (P : List (List (List Int) × List (List Int))) (F S : List (List Int)) : ∃ C, serT (P ++ [(F, S)]) = C ++ [tb F, tb S] ∨ serT (P ++ [(F, S)]) = C ++ [frT F, frT S] := by
 cases P with
 | nil => exact ⟨[], .inl rfl⟩
 | cons z P => exact ⟨tb z.1 :: tb z.2 :: frL P, .inr (by simp [serT, q20])⟩
def z4x (pg : Pg) : Prop := ∀ f s : List (List Int), Rg f s → Call pg 310 [sol f s] [sol f s] (.mem .own (some 2) (serT (serL f.length f s)))
set_option maxRecDepth 10000 in
theorem z5g {pg : Pg} (hp : pg.fn 310 = some j4w) (h321 : j6u pg 321) : z4x pg := by
 intro f s h
 have hpm := h.1
 have h0 := hpm.pos
 have h12 := hpm.small
 refine Call.intro hp rfl (by simp) ?_
 show wp _ _ j4w.body (post [.t 2] _ _ _) _
 simp [j4w]
 refine j6m (α := Nat × List (List (List Int) × List (List Int)) × List (List Int) × List (List Int)) (fun y => y.1) (fun y e => Rg y.2.2.1 y.2.2.2 ∧ y.2.2.1.length ≤ y.1 ∧ y.2.1 ++ serL y.1 y.2.2.1 y.2.2.2 = serL f.length f s ∧ y.2.1.length + y.2.2.1.length ≤ f.length ∧
  e = fr [(3, some (.val (.mem .own (some 2) (serT (y.2.1 ++ [(y.2.2.1, y.2.2.2)])))))]) ?_ (f.length, [], f, s) _ ⟨h, by simp, by simp, by simp, by simp [serT]⟩
 rintro ⟨fu, P, F, S⟩ e ⟨g1, g2, g3, g4, rfl⟩
 simp only at g1 g2 g3 g4
 have F0 := g1.1.pos
 obtain ⟨fu, rfl⟩ : ∃ j, fu = j + 1 := ⟨fu - 1, by omega⟩
 have hret := h321 F S g1
 have hm := z0y F S
 rw [serL] at g3
 have hLl : (serT (P ++ [(F, S)])).length = 2 * P.length + 2 := by rw [q0m]; simp; omega
 have hsn : serT (P ++ [(F, S), (retF F S, retS F S)]) = serT (P ++ [(F, S)]) ++ [frT (retF F S), frT (retS F S)] := z8w P (F, S) (retF F S, retS F S)
 have hdone : P ++ [(F, S)] = serL f.length f s → serT (P ++ [(F, S)]) = serT (serL f.length f s) := fun hh => by rw [hh]
 obtain ⟨C, hC⟩ := z8x P F S
 generalize hLd : serT (P ++ [(F, S)]) = L at *
 have hlen : L.length / 2 = P.length + 1 := by omega
 have e2 : L.length / 2 * 2 = L.length := by omega
 have e3 : win L 0 L.length = L := by simp [win]
 have e5 : (L.length / 2 + 1) * 2 = (L ++ [frT (retF F S), frT (retS F S)]).length := by simp; omega
 have e6 : win (L ++ [frT (retF F S), frT (retS F S)]) 0 (L ++ [frT (retF F S), frT (retS F S)]).length = L ++ [frT (retF F S), frT (retS F S)] := by
  unfold win; exact List.take_of_length_le (by simp)
 have e7 : (L ++ [frT (retF F S), frT (retS F S)]).length = L.length + 2 := by simp
 have fin : clM F S ≠ F.length → ∃ a, a < fu + 1 ∧ ∃ a_1 a_2 b, Rg a_2 b ∧ a_2.length ≤ a ∧ a_1 ++ serL a a_2 b = serL f.length f s ∧ a_1.length + a_2.length ≤ f.length ∧
  fr [(3, some (.val (.mem .own (some 2) (L ++ [frT (retF F S), frT (retS F S)]))))] = fr [(3, some (.val (.mem .own (some 2) (serT (a_1 ++ [(a_2, b)])))))] := fun hc => by
  rw [if_neg hc] at g3
  refine ⟨fu, by omega, P ++ [(F, S)], retF F S, retS F S, q90 g1, by simp; omega, by rw [List.append_assoc]; exact g3, by simp; omega, ?_⟩
  rw [List.append_assoc]
  rw [show [(F, S)] ++ [(retF F S, retS F S)] = [(F, S), (retF F S, retS F S)] from rfl, hsn]
 have hwn : ∀ A B : T, L = C ++ [A, B] → win L (P.length * 2) 2 = [A, B] := fun A B hh => by
  have hCl : C.length = P.length * 2 := by have := congrArg List.length hh; simp at this; omega
  rw [hh, win, ← hCl]
  simp
 rcases hC with hC | hC
 · have hwin := hwn _ _ hC
   clear hC hwn
   simp [hlen, hwin]
   refine ⟨by omega, by omega, by omega, ?_⟩
   refine j0e hret rfl rfl (fun _ => by simp) ?_
   simp [q0c]
   by_cases hc : clM F S = F.length
   · rw [if_pos hc] at g3
     rw [if_pos (by omega), e2, e3, e2, e3]
     exact ⟨by omega, by omega, hdone g3⟩
   · rw [if_neg (by omega), e2, e3, e5, e6]
     exact ⟨by omega, by unfold roomy; omega, by omega, fin hc⟩
 · have hwin := hwn _ _ hC
   clear hC hwn
   simp [hlen, hwin]
   refine ⟨by omega, by omega, by omega, ?_⟩
   refine j0e hret rfl rfl (fun _ => by simp) ?_
   simp [q0c]
   by_cases hc : clM F S = F.length
   · rw [if_pos hc] at g3
     rw [if_pos (by omega), e2, e3, e2, e3]
     exact ⟨by omega, by omega, hdone g3⟩
   · rw [if_neg (by omega), e2, e3, e5, e6]
     exact ⟨by omega, by unfold roomy; omega, by omega, fin hc⟩
end Go.Mch
namespace Go.Mch

def subG (f : List (List Int)) (xs : List Int) (i j : Nat) : Int := ixOf xs (g2 f (xs.getD i 0) (xs.getD j 0))
def subT (f : List (List Int)) (xs : List Int) : List (List Int) := tabL xs.length (subG f xs)
def j7p (f : List (List Int)) (xs : List Int) (i k : Nat) : List Int := (List.range k).map fun j => subG f xs i j
theorem j6z (f : List (List Int)) (xs : List Int) (i k : Nat) : (j7p f xs i k).length = k := by simp [j7p]
theorem q4l (f : List (List Int)) (xs : List Int) (i k : Nat) : j7p f xs i (k + 1) = j7p f xs i k ++ [subG f xs i k] := by simp [j7p, List.range_succ]
theorem q9e (f : List (List Int)) (xs : List Int) {i : Nat} (hi : i < xs.length) : (subT f xs).take (i + 1) = (subT f xs).take i ++ [j7p f xs i xs.length] := by
 have : i < (subT f xs).length := by simpa [subT] using hi
 rw [List.take_succ_eq_append_getElem this]
 simp [subT, tabL, j7p]
theorem z8s {f : List (List Int)} {xs : List Int} (h : 0 < xs.length) : subT f xs ≠ [] := fun hh => by
 have : (subT f xs).length = 0 := by rw [hh]; rfl
 rw [subT, j8n] at this
 omega
def rowN (X : List (List Int)) : T := if X = [] then nil else .mem .own (some 1) (rows X)
theorem z1t {X : List (List Int)} (h : X ≠ []) : rowN X = .mem .own (some 1) (rows X) := by simp [rowN, h]
theorem q9x (X : List (List Int)) (r : List Int) : rowN (X ++ [r]) = .mem .own (some 1) (rows X ++ [.mem .own (some 1) (r.map I)]) := by
 rw [z1t (by simp)]; simp [rows]
def w9s (pg : Pg) : Prop := ∀ (f s : List (List Int)) (xs : List Int), PM f s → inN f.length xs → 0 < xs.length → xs.length ≤ 1000 → Call pg 332 [sol f s, ix xs] [sol f s, ix xs] (.agg [.mem .own (some 1) (rows (subT f xs)), .mem .own (some 1) (rows (subT s xs))])
set_option maxRecDepth 10000 in
theorem w2u {pg : Pg} (hp : pg.fn 332 = some j52) (h69 : q05 pg) : w9s pg := by
 intro f s xs h hin h0 hl
 have h12 := h.small
 have hls := h.len
 refine Call.intro hp rfl (by simp) ?_
 show wp _ _ j52.body (post [.cell 4 (some 2)] _ _ _) _
 simp [j52]
 refine j0a (fun i e => e = fr [(1, some (.val (ix xs))), (2, some (.val (.mem .own none [tb f, tb s]))), (4, some (.val (.mem .own none [nil, nil]))), (5, some (.val (.mem .own none [rowN ((subT f xs).take i), rowN ((subT s xs).take i)]))), (6, some (.val (I i)))]) xs.length ?_ ?_ 0 _ (by omega) ?_
 · rintro i e hi rfl
   have hF := q9e f xs hi
   have hS := q9e s xs hi
   have hFl : ((subT f xs).take i).length ≤ i := by simp; omega
   have hSl : ((subT s xs).take i).length ≤ i := by simp; omega
   rw [hF, hS, q9x, q9x]
   generalize (subT f xs).take i = X at *
   generalize (subT s xs).take i = Y at *
   clear hF hS
   simp [hi]
   refine j0a (fun j e => e = fr [(1, some (.val (ix xs))), (2, some (.val (.mem .own none [tb f, tb s]))), (4, some (.val (.mem .own none [nil, nil]))), (5, some (.val (.mem .own none [rowN X, rowN Y]))), (6, some (.val (I i))), (7, some (.val (.mem .own (some 1) ((j7p f xs i j).map I)))), (8, some (.val (.mem .own (some 1) ((j7p s xs i j).map I)))), (9, some (.val (I j)))]) xs.length ?_ ?_ 0 _ (by omega) ?_
   · rintro j e hj rfl
     have ea : xs.getD i 0 = xs[i] := by simp [hi]
     have eb : xs.getD j 0 = xs[j] := by simp [hj]
     have ra := hin _ (List.getElem_mem hi)
     have rb := hin _ (List.getElem_mem hj)
     have hGf : subG f xs i j = ixOf xs (g2 f xs[i] xs[j]) := by rw [subG, ea, eb]
     have hGs : subG s xs i j = ixOf xs (g2 s xs[i] xs[j]) := by rw [subG, ea, eb]
     have hf2 := q4l f xs i j
     have hs2 := q4l s xs i j
     have hfl := j6z f xs i j
     have hsl := j6z s xs i j
     rw [hf2, hs2, hGf, hGs]
     generalize j7p f xs i j = P at *
     generalize j7p s xs i j = Q at *
     clear hf2 hs2 hGf hGs
     generalize hA : xs[i] = a at *
     generalize hB : xs[j] = b at *
     have la : a.toNat < f.length := by omega
     have la2 : a.toNat < s.length := by omega
     have lb : b.toNat < (f[a.toNat]).length := by rw [h.tf.row la]; omega
     have lb2 : b.toNat < (s[a.toNat]).length := by rw [h.ts.row la2]; omega
     have ia : a < f.length := by omega
     have ia2 : a < s.length := by omega
     have ib : b < (f[a.toNat]).length := by omega
     have ib2 : b < (s[a.toNat]).length := by omega
     have eF := z0o la lb
     have eS := z0o la2 lb2
     have c1 := h69 xs (g2 f a b) (by omega)
     have c2 := h69 xs (g2 s a b) (by omega)
     simp [hi, hj, hA, hB, ra, rb, la, lb, ib, eF]
     refine j0e c1 rfl rfl (fun _ => rfl) ?_
     simp [hi, hj, hA, hB, ra, rb, la2, lb2, ia2, ib2, eS, hfl, roomy]
     refine ⟨by omega, ?_⟩
     refine j0e c2 rfl rfl (fun _ => rfl) ?_
     simp [hsl, roomy]
     omega
   · rintro e rfl
     have hPl := j6z f xs i xs.length
     have hQl := j6z s xs i xs.length
     generalize j7p f xs i xs.length = P at *
     generalize j7p s xs i xs.length = Q at *
     by_cases hX : X = []
     · by_cases hY : Y = []
       · subst hX hY
         simp [rowN, roomy, rows]
         omega
       · subst hX
         simp [rowN, hY, roomy, rows]
         omega
     · by_cases hY : Y = []
       · subst hY
         simp [rowN, hX, roomy, rows]
         omega
       · simp [rowN, hX, hY, roomy]
         omega
   · simp [j7p]
 · rintro e rfl
   have hF : (subT f xs).take xs.length = subT f xs := List.take_of_length_le (by simp [subT])
   have hS : (subT s xs).take xs.length = subT s xs := List.take_of_length_le (by simp [subT])
   have hFn := z8s (f := f) h0
   have hSn := z8s (f := s) h0
   rw [hF, hS, z1t hFn, z1t hSn]
   simp
 · simp [rowN]


def z2e (xs : List Int) (k : Nat) : Prop := xs.getD k 0 < xs.getD (k + 1) 0
def asc (xs : List Int) : Prop := ∀ k : Nat, k + 1 < xs.length → z2e xs k
def w2g (pg : Pg) : Prop := ∀ xs : List Int, xs.length ≤ 1048576 → Call pg 403 [ix xs] [ix xs] (B (dec (asc xs)))
theorem q9c {pg : Pg} (hp : pg.fn 403 = some j3y) : w2g pg := by
 intro xs hl
 refine Call.intro hp rfl (by simp) ?_
 show wp _ _ j3y.body (post [.t 2] _ _ _) _
 simp [j3y]
 refine j6m (α := Nat) (fun k => xs.length - k) (fun k e => (∀ i : Nat, i < k → i + 1 < xs.length → z2e xs i) ∧ e = fr [(0, some (.val (ix xs))), (3, some (.val (I (k + 1 : Nat))))]) ?_ 0 _ ⟨fun i h => by omega, by simp⟩
 rintro k e ⟨g, rfl⟩
 by_cases hk : k + 1 < xs.length
 · have hk0 : k < xs.length := by omega
   have ea : xs.getD k 0 = xs[k] := by simp [hk0]
   have eb : xs.getD (k + 1) 0 = xs[k + 1] := by simp [hk]
   have hk' : (k : Int) + 1 < xs.length := by omega
   by_cases hc : xs[k] < xs[k + 1]
   · have hc2 : ¬ xs[k] ≥ xs[k + 1] := by omega
     have hn : ∀ i : Nat, i < k + 1 → i + 1 < xs.length → z2e xs i := fun i hi h2 => by
      by_cases hik : i = k
      · subst hik; rw [z2e, ea, eb]; exact hc
      · exact g i (by omega) h2
     clear g
     simp [hk', hk, hk0, hc2]
     exact ⟨by omega, by omega, by omega, k + 1, by omega, hn, by simp⟩
   · have hno : ¬ asc xs := fun ha => by
      have := ha k hk
      rw [z2e, ea, eb] at this
      exact hc this
     have hc2 : xs[k + 1] ≤ xs[k] := by omega
     clear g
     simp [hk', hk, hk0, hc2, j0v hno]
     omega
 · have hyes : asc xs := fun i hi => g i (by omega) hi
   have hk' : ¬ (k : Int) + 1 < xs.length := by omega
   clear g
   simp [hk', j03 hyes]
def q1m (n : Int) (xs : List Int) : Prop := 0 < xs.length ∧ inR 0 (n - 1) xs ∧ asc xs
def z2j (pg : Pg) : Prop := ∀ (n : Int) (xs : List Int), xs.length ≤ 1048576 → 0 ≤ n → n ≤ 1048576 → Call pg 357 [I n, ix xs] [I n, ix xs] (B (dec (q1m n xs)))
theorem w6r {pg : Pg} (hp : pg.fn 357 = some j6r) (h39 : j89 pg) (h403 : w2g pg) : z2j pg := by
 intro n xs hl hn1 hn2
 refine Call.intro hp rfl (by simp) ?_
 show wp _ _ j6r.body (post [.t 4] _ _ _) _
 simp [j6r]
 by_cases h0 : 0 < xs.length
 · simp [h0]
   refine j0e (h39 n xs hl hn1 hn2) rfl rfl (fun _ => rfl) ?_
   by_cases h1 : inR 0 (n - 1) xs
   · simp [h1]
     refine j0e (h403 xs hl) rfl rfl (fun _ => rfl) ?_
     by_cases h2 : asc xs
     · simp [j03 h2, j03 (show q1m n xs from ⟨h0, h1, h2⟩)]
     · simp [j0v h2, j0v (fun hh : q1m n xs => h2 hh.2.2)]
   · simp [h1, j0v (fun hh : q1m n xs => h1 hh.2.1), j0x]
 · simp [h0, j0v (fun hh : q1m n xs => h0 hh.1), j0x]
def w14 (pg : Pg) : Prop := ∀ (f s : List (List Int)) (xs : List Int) (x y : Nat), PM f s → inN f.length xs → xs.length ≤ 1048576 → x < xs.length → y < xs.length → Call pg 358 [I x, I y, .mem .old none [ix xs], .mem .old none [tb f, tb s]] [I x, I y, .mem .old none [ix xs], .mem .old none [tb f, tb s]] (.tup [I (subG f xs x y), I (subG s xs x y)])
set_option maxRecDepth 10000 in
theorem v4j {pg : Pg} (hp : pg.fn 358 = some j2p) (h287 : j6v pg 287) : w14 pg := by
 intro f s xs x y h hin hl hx hy
 have hls := h.len
 have ea : xs.getD x 0 = xs[x] := by simp [hx]
 have eb : xs.getD y 0 = xs[y] := by simp [hy]
 have ra := hin _ (List.getElem_mem hx)
 have rb := hin _ (List.getElem_mem hy)
 have hGf : subG f xs x y = ixOf xs (g2 f xs[x] xs[y]) := by rw [subG, ea, eb]
 have hGs : subG s xs x y = ixOf xs (g2 s xs[x] xs[y]) := by rw [subG, ea, eb]
 rw [hGf, hGs]
 refine Call.intro hp rfl (by simp) ?_
 show wp _ _ j2p.body (post [.t 6, .t 7] _ _ _) _
 generalize hA : xs[x] = a at *
 generalize hB : xs[y] = b at *
 have la : a.toNat < f.length := by omega
 have la2 : a.toNat < s.length := by omega
 have lb : b.toNat < (f[a.toNat]).length := by rw [h.tf.row la]; omega
 have lb2 : b.toNat < (s[a.toNat]).length := by rw [h.ts.row la2]; omega
 have ia : a < f.length := by omega
 have ia2 : a < s.length := by omega
 have ib : b < (f[a.toNat]).length := by omega
 have ib2 : b < (s[a.toNat]).length := by omega
 have eF := z0o la lb
 have eS := z0o la2 lb2
 have c1 := h287 xs (g2 f a b) hl
 have c2 := h287 xs (g2 s a b) hl
 simp [j2p, hx, hy, hA, hB, ra, rb, la, lb, ib, eF]
 refine j0e c1 rfl rfl (fun _ => rfl) ?_
 simp [hx, hy, hA, hB, ra, rb, la2, lb2, ia2, ib2, eS]
 refine j0e c2 rfl rfl (fun _ => rfl) ?_
 simp
def w13 (pg : Pg) : Prop := ∀ (f s : List (List Int)) (xs : List Int), j3c f s → q1m f.length xs → clo f s xs → xs.length ≤ 1000 → Call pg 239 [sol f s, ix xs] [sol f s, ix xs] (.tup [.agg [.mem .own (some 1) (rows (subT f xs)), .mem .own (some 1) (rows (subT s xs))], I 0])
set_option maxRecDepth 10000 in
theorem q7u {pg : Pg} (hp : pg.fn 239 = some j3l) (h59 : j7l pg 59) (h357 : z2j pg) (h333 : j88 pg 333) (h308 : q8o pg) (h358 : w14 pg) : w13 pg := by
 intro f s xs hpm hset hclo hl
 have h := PM.of hpm
 have h12 := h.small
 have hin : inN f.length xs := fun v hv => by have := hset.2.1 v hv; omega
 have hfs : fits s := ⟨by have := h.len; omega, fun r hr => by have := (h.ts r hr).1; have := h.len; omega⟩
 have hb := h308 xs.length (subG f xs) (subG s xs) 358 [.mem .old none [ix xs], .mem .old none [tb f, tb s]] (by omega) (by simp) (by simp) fun x y hx hy => h358 f s xs x y h hin (by omega) hx hy
 refine Call.intro hp rfl (by simp) ?_
 show wp _ _ j3l.body (post [.cell 4 (some 2), .t 5] _ _ _) _
 simp [j3l]
 refine j0e (h59 f s h.v9r hfs) rfl rfl (fun _ => rfl) ?_
 simp [hpm]
 refine j0e (h357 f.length xs (by omega) (by omega) (by omega)) rfl rfl (fun _ => rfl) ?_
 simp [j03 hset]
 refine j0e (h333 f s xs h hin (by omega)) rfl rfl (fun _ => rfl) ?_
 simp [j03 hclo]
 refine j0e hb rfl rfl (fun _ => by simp) ?_
 simp [subT]
end Go.Mch
namespace Go.Mch

def invQ (p : List Int) (x : Nat) : Nat := (ixOf p x).toNat
structure Pm (p : List Int) : Prop where
 pm : j1r p
 pos : 0 < p.length
 sm : p.length ≤ 12
theorem Pm.mem {p : List Int} (h : Pm p) {x : Nat} (hx : x < p.length) : (x : Int) ∈ p :=
 ((j8y (by have := h.pos; omega) h.sm h.pm.1).2 h.pm).2.2 x hx
theorem Pm.lt {p : List Int} (h : Pm p) {x : Nat} (hx : x < p.length) : invQ p x < p.length := by
 have h1 := j7z p x
 have h2 := (j45 p x).2 (h.mem hx)
 unfold invQ
 omega
theorem w0q : ∀ (xs : List Int) (v : Int), 0 ≤ ixOf xs v → xs.getD (ixOf xs v).toNat 0 = v := by
 intro xs v
 induction xs with
 | nil => intro h; simp [ixOf] at h
 | cons z xs ih =>
  intro h
  unfold ixOf at h ⊢
  by_cases hz : z = v
  · simp [hz]
  · rw [if_neg hz] at h ⊢
    by_cases hn : ixOf xs v < 0
    · rw [if_pos hn] at h; omega
    · rw [if_neg hn]
      have := ih (by omega)
      rw [show (ixOf xs v + 1).toNat = (ixOf xs v).toNat + 1 by omega]
      simpa using this
theorem Pm.at {p : List Int} (h : Pm p) {x : Nat} (hx : x < p.length) : p.getD (invQ p x) 0 = x :=
 w0q p x ((j45 p x).2 (h.mem hx))
theorem Pm.back {p : List Int} (h : Pm p) {i : Nat} (hi : i < p.length) : invQ p (p[i]).toNat = i := by
 have hr := h.pm.1 _ (List.getElem_mem hi)
 have e : (((p[i]).toNat : Nat) : Int) = p[i] := by omega
 unfold invQ
 rw [e, q2u hi (fun j hj he => ?_) rfl]
 · simp
 · have := (List.getElem_inj h.pm.2).1 he
   omega
def invL (p : List Int) : List Int := (List.range p.length).map fun x => (invQ p x : Int)
@[simp] theorem z11 (p : List Int) : (invL p).length = p.length := by simp [invL]
def invK (p : List Int) (k : Nat) : List Int := (List.range p.length).map fun x => if invQ p x < k then (invQ p x : Int) else 0
@[simp] theorem z13 (p : List Int) (k : Nat) : (invK p k).length = p.length := by simp [invK]
theorem w0r (p : List Int) : invK p 0 = List.replicate p.length 0 := by
 apply List.ext_getElem
 · simp
 · intro i h1 h2; simp [invK]
theorem w0s {p : List Int} (h : Pm p) : invK p p.length = invL p := by
 refine List.map_congr_left fun x hx => ?_
 rw [if_pos (h.lt (List.mem_range.1 hx))]
theorem w36 {p : List Int} (h : Pm p) {k : Nat} (hk : k < p.length) : (invK p k).set (p[k]).toNat k = invK p (k + 1) := by
 have hr := h.pm.1 _ (List.getElem_mem hk)
 apply List.ext_getElem
 · simp
 · intro x h1 h2
   have hx : x < p.length := by simpa using h2
   simp only [List.getElem_set, invK, List.getElem_map, List.getElem_range]
   by_cases hxk : (p[k]).toNat = x
   · subst hxk
     rw [if_pos rfl, h.back hk, if_pos (by omega)]
   · rw [if_neg hxk]
     have hne : invQ p x ≠ k := fun he => by
      have := h.at hx
      rw [he] at this
      simp [hk] at this
      omega
     by_cases hlt : invQ p x < k
     · rw [if_pos hlt, if_pos (by omega)]
     · rw [if_neg hlt, if_neg (by omega)]
def w9w (pg : Pg) (n : Nat) : Prop := ∀ p : List Int, Pm p → Call pg n [ix p] [ix p] (.mem .own (some 1) ((invL p).map I))
theorem z8j {pg : Pg} (hp : pg.fn 304 = some j5m) : w9w pg 304 := by
 intro p h
 have h12 := h.sm
 refine Call.intro hp rfl (by simp) ?_
 show wp _ _ j5m.body (post [.t 2] _ _ _) _
 simp [j5m]
 refine ⟨by unfold roomy; omega, ?_⟩
 refine j0a (fun k e => e = fr [(0, some (.val (ix p))), (3, some (.val (.mem .own (some 1) ((invK p k).map I)))), (4, some (.val (I k)))]) p.length ?_ ?_ 0 _ (by omega) ?_
 · rintro k e hk rfl
   have hr := h.pm.1 _ (List.getElem_mem hk)
   have hl := z13 p k
   have hs := w36 h hk
   have ht : (p[k]).toNat < p.length := by omega
   rw [← hs]
   generalize invK p k = K at *
   simp [hk, hr, ht, hl]
   omega
 · rintro e rfl
   simp [w0s h]
 · simp [w0r]

def imG (t : List (List Int)) (p : List Int) (x y : Nat) : Int := p.getD (v2 t (invQ p x) (invQ p y)).toNat 0
def imT (t : List (List Int)) (p : List Int) : List (List Int) := tabL t.length (imG t p)
def q8s (pg : Pg) (n : Nat) : Prop := ∀ (t : List (List Int)) (p : List Int), Tab t → Pm p → p.length = t.length → Call pg n [tb t, ix p] [tb t, ix p] (.mem .own (some 1) (rows (imT t p)))
end Go.Mch
namespace Go.Mch

theorem z8y {f s : List (List Int)} (h : 0 < f.length) : ∃ P F S, serL f.length f s = P ++ [(F, S)] := by
 have : serL f.length f s ≠ [] := by
  obtain ⟨n, hn⟩ : ∃ n, f.length = n + 1 := ⟨f.length - 1, by omega⟩
  rw [hn, serL]; simp
 obtain ⟨P, x, hx⟩ : ∃ P x, serL f.length f s = P ++ [x] := ⟨_, _, (List.dropLast_concat_getLast this).symm⟩
 exact ⟨P, x.1, x.2, hx⟩
theorem q34 (k : Nat) : ∀ f s : List (List Int), (serL k f s).length ≤ k := by
 induction k with
 | zero => intro f s; simp [serL]
 | succ k ih =>
  intro f s
  rw [serL]
  split
  · simp
  · have := ih (retF f s) (retS f s); simp; omega
end Go.Mch
namespace Go.Mch

def rsL (f s : List (List Int)) : List Int := (serL f.length f s).map fun x => (x.1.length : Int)
def S_rs (pg : Pg) (n : Nat) : Prop := ∀ f s : List (List Int), fits f → fits s → ∃ o, lso o = q48 [] rsL f s ∧ Call pg n [sol f s] [sol f s] (.tup [ownI o, I (q48 1 (fun _ _ => 0) f s)])
theorem z2y (L : List (List (List Int) × List (List Int))) {i : Nat} (h : i < L.length) : win (serT L) (i * 2) 2 = [tb L[i].1, tb L[i].2] ∨ win (serT L) (i * 2) 2 = [frT L[i].1, frT L[i].2] := by
 cases L with
 | nil => simp at h
 | cons x L =>
  cases i with
  | zero => left; simp [serT, win]
  | succ i =>
   right
   have hi : i < L.length := by simpa using h
   have key : ∀ (L : List (List (List Int) × List (List Int))) (i : Nat) (hi : i < L.length), win (frL L) (i * 2) 2 = [frT L[i].1, frT L[i].2] := by
    intro L
    induction L with
    | nil => intro i hi; simp at hi
    | cons y L ih =>
     intro i hi
     cases i with
     | zero => simp [win]
     | succ i =>
      have := ih i (by simpa using hi)
      rw [win, show (i + 1) * 2 = i * 2 + 2 from by omega]
      rw [win] at this
      simpa using this
   have := key L i hi
   rw [win, show (i + 1) * 2 = i * 2 + 2 from by omega]
   rw [win] at this
   simpa [serT] using this
theorem z7z {pg : Pg} (hp : pg.fn 189 = some j1i) (h266 : q57 pg 266) (h310 : z4x pg) : S_rs pg 189 := by
 intro f s hf hs
 by_cases h : j5c f s
 · refine ⟨some (rsL f s), by simp [j1a h], Call.intro hp rfl (by simp) ?_⟩
   have hpm := PM.of h.1.1
   have h12 := hpm.small
   have h0 := hpm.pos
   have hsl := q34 f.length f s
   obtain ⟨P, F, S, hser⟩ := z8y (s := s) h0
   show wp _ _ j1i.body (post [.t 2, .t 3] _ _ _) _
   simp [j1i]
   refine j0e (h266 f s hf hs) rfl rfl (fun _ => rfl) ?_
   simp [j03 h, j1a h]
   refine j0e (h310 f s (rg_of h)) rfl rfl (fun hh => by simp at hh) ?_
   have hrs : rsL f s = (serL f.length f s).map fun x => (x.1.length : Int) := rfl
   rw [hrs]
   have hL0 : 0 < (serL f.length f s).length := by rw [hser]; simp
   generalize serL f.length f s = L at *
   have hfl := q0m L
   have hget := fun {i : Nat} (hi : i < L.length) => z2y L hi
   generalize serT L = M at *
   have hm2 : M.length / 2 = L.length := by omega
   simp [hm2]
   refine j0a (fun k e => e = fr [(4, some (.val (ownN ((L.take k).map fun x => (x.1.length : Int))))), (11, some (.val (.mem .own (some 2) M))), (12, some (.val (I L.length))), (13, some (.val (I k)))]) L.length ?_ ?_ 0 _ (by omega) ?_
   · rintro k e hk rfl
     have hg := hget hk
     have hs : ((L.take (k + 1)).map fun x => (x.1.length : Int)) = ((L.take k).map fun x => (x.1.length : Int)) ++ [(L[k].1.length : Int)] := by
      rw [List.take_succ_eq_append_getElem hk, List.map_append]; rfl
     have hAl : ((L.take k).map fun x => (x.1.length : Int)).length ≤ k := by simp; omega
     have hb : k * 2 + 2 ≤ M.length := by omega
     have hb2 : k * 2 ≤ M.length := by omega
     rw [hs]
     generalize ((L.take k).map fun x => (x.1.length : Int)) = A at *
     have hne : A ++ [(L[k].1.length : Int)] ≠ [] := by simp
     rw [j6a hne]
     rcases hg with hg | hg
     · by_cases hA : A = []
       · subst hA
         simp [hk, hm2, hg, hb, ownN, roomy]
         omega
       · simp [hk, hm2, hg, hb, j6a hA, roomy]
         omega
     · by_cases hA : A = []
       · subst hA
         simp [hk, hm2, hg, hb, ownN, roomy]
         omega
       · simp [hk, hm2, hg, hb, j6a hA, roomy]
         omega
   · rintro e rfl
     have hne : ((L.take L.length).map fun x => (x.1.length : Int)) ≠ [] := fun hh => by
      have := congrArg List.length hh
      simp at this
      simp [this] at hL0
     rw [j6a hne]
     simp [ownI]
   · simp [ownN]
 · refine ⟨none, by simp [j2i h], Call.intro hp rfl (by simp) ?_⟩
   show wp _ _ j1i.body (post [.t 2, .t 3] _ _ _) _
   simp [j1i]
   refine j0e (h266 f s hf hs) rfl rfl (fun _ => rfl) ?_
   simp [j0v h, j2i h, ownI]
end Go.Mch
