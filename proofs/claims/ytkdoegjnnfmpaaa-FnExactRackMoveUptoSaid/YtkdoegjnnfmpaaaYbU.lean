/- Rules by which the machine's steps are reckoned on frames that are written out. -/
import Derived.Test.YtkdoegjnnfmpaaaYbA
namespace Go.Mch

/-- What follows, hidden from the reckoning until it is due. -/
class Kn (α : Type) where
  f : α → Prop
def bindI {α : Type} (o : Option α) [c : Kn α] : Prop := bindP o c.f
@[simp ↓] theorem bindP_hide {α : Type} (o : Option α) (f : α → Prop) : bindP o f = @bindI α o ⟨f⟩ := rfl
@[simp ↓, simp] theorem bindI_some {α : Type} (a : α) (c : Kn α) : @bindI α (some a) c = c.f a := by simp only [bindI, bindP, Option.some.injEq, exists_eq_left']
@[simp] theorem bindI_none {α : Type} (c : Kn α) : @bindI α none c = False := by simp only [bindI, bindP]; simp
@[simp] theorem bindI_ite_none {α : Type} (p : Prop) [Decidable p] (x : Option α) (c : Kn α) : @bindI α (if p then x else none) c = (p ∧ @bindI α x c) := by
  by_cases h : p
  · simp only [h, if_true, true_and]
  · simp only [h, if_false, bindI_none, false_and]
@[simp] theorem bindI_map {α β : Type} (x : Option α) (g : α → β) (c : Kn β) : @bindI β (x.map g) c = @bindI α x ⟨fun a => c.f (g a)⟩ := by
  cases x with
  | none => simp only [Option.map_none, bindI_none]
  | some a => simp only [Option.map_some, bindI_some]
@[simp] theorem bindI_bind {α β : Type} (x : Option α) (g : α → Option β) (c : Kn β) : @bindI β (x.bind g) c = @bindI α x ⟨fun a => @bindI β (g a) c⟩ := by
  cases x with
  | none => simp only [Option.bind_none, bindI_none]
  | some a => simp only [Option.bind_some, bindI_some]

theorem ite_bif {α : Type} (b : Bool) (x y : α) [Decidable (b = true)] : (if b = true then x else y) = bif b then x else y := by cases b <;> simp

/-- A step that is to leave a trace. -/
theorem nrfl {α : Type} {a b : α} (h : a = b) : a = b := h.trans rfl

/-- A frame written out: the first row of a slot counts. -/
def fr : List (Nat × Option V) → Env
  | [], _ => none
  | (k, v) :: l, s => if k = s then v else fr l s

@[simp] theorem fr_nil (s : Nat) : fr [] s = none := rfl
@[simp] theorem fr_cons (k : Nat) (v : Option V) (l : List (Nat × Option V)) (s : Nat) : fr ((k, v) :: l) s = if k = s then v else fr l s := rfl

def killV (r : Nat) (p : List Nat) (v : Option V) : Option V := match v with | some u => if u.hits r p then none else some u | none => none
@[simp] theorem killV_none (r : Nat) (p : List Nat) : killV r p none = none := rfl
@[simp] theorem killV_val (r : Nat) (p : List Nat) (t : T) : killV r p (some (.val t)) = some (.val t) := rfl
@[simp] theorem killV_sref (r : Nat) (p : List Nat) (r' : Nat) (q : List Nat) (a b c : Nat) : killV r p (some (.sref r' q a b c)) = bif (r == r' && p.isPrefixOf q) then none else some (.sref r' q a b c) := by cases h : (r == r' && p.isPrefixOf q) <;> simp only [killV, V.hits, h] <;> rfl
@[simp] theorem killV_pref (r : Nat) (p : List Nat) (r' : Nat) (q : List Nat) (a : Nat) : killV r p (some (.pref r' q a)) = bif (r == r' && p.isPrefixOf q) then none else some (.pref r' q a) := by cases h : (r == r' && p.isPrefixOf q) <;> simp only [killV, V.hits, h] <;> rfl
@[simp] theorem killV_vagg (r : Nat) (p : List Nat) (vs : List V) : killV r p (some (.vagg vs)) = bif V.hitsL r p vs then none else some (.vagg vs) := by cases h : V.hitsL r p vs <;> simp only [killV, V.hits, h] <;> rfl
@[simp] theorem killV_vtup (r : Nat) (p : List Nat) (vs : List V) : killV r p (some (.vtup vs)) = bif V.hitsL r p vs then none else some (.vtup vs) := by cases h : V.hitsL r p vs <;> simp only [killV, V.hits, h] <;> rfl
theorem killV_some (r : Nat) (p : List Nat) (u : V) : killV r p (some u) = if u.hits r p then none else some u := rfl

@[simp] theorem hits_val (r : Nat) (p : List Nat) (t : T) : (V.val t).hits r p = false := rfl
@[simp] theorem hits_sref (r : Nat) (p : List Nat) (r' : Nat) (q : List Nat) (a b c : Nat) : (V.sref r' q a b c).hits r p = (r == r' && p.isPrefixOf q) := rfl
@[simp] theorem hits_pref (r : Nat) (p : List Nat) (r' : Nat) (q : List Nat) (a : Nat) : (V.pref r' q a).hits r p = (r == r' && p.isPrefixOf q) := rfl
@[simp] theorem hits_vagg (r : Nat) (p : List Nat) (vs : List V) : (V.vagg vs).hits r p = V.hitsL r p vs := rfl
@[simp] theorem hits_vtup (r : Nat) (p : List Nat) (vs : List V) : (V.vtup vs).hits r p = V.hitsL r p vs := rfl
@[simp] theorem hitsL_nil (r : Nat) (p : List Nat) : V.hitsL r p [] = false := rfl
@[simp] theorem hitsL_cons (r : Nat) (p : List Nat) (v : V) (vs : List V) : V.hitsL r p (v :: vs) = (v.hits r p || V.hitsL r p vs) := rfl

def killL (r : Nat) (p : List Nat) : List (Nat × Option V) → List (Nat × Option V)
  | [] => []
  | (k, v) :: l => (k, killV r p v) :: killL r p l
@[simp] theorem killL_nil (r : Nat) (p : List Nat) : killL r p [] = [] := rfl
@[simp] theorem killL_cons (r : Nat) (p : List Nat) (k : Nat) (v : Option V) (l : List (Nat × Option V)) : killL r p ((k, v) :: l) = (k, killV r p v) :: killL r p l := rfl

theorem fr_killL (r : Nat) (p : List Nat) (l : List (Nat × Option V)) (s : Nat) : fr (killL r p l) s = killV r p (fr l s) := by
  induction l with
  | nil => rfl
  | cons x l ih => obtain ⟨k, v⟩ := x; by_cases h : k = s <;> simp [h, ih]

/-- Does a row name slot d? -/
def hitR (d : Nat) : List (Nat × Option V) → Bool
  | [] => false
  | (_, some v) :: l => v.hits d [] || hitR d l
  | (_, none) :: l => hitR d l
@[simp] theorem hitR_nil (d : Nat) : hitR d [] = false := nrfl rfl
@[congr] theorem cond_congr1 {α : Type} {b b' : Bool} {x y : α} (h : b = b') : cond b x y = cond b' x y := by rw [h]
@[simp] theorem hitR_none (d k : Nat) (l : List (Nat × Option V)) : hitR d ((k, none) :: l) = hitR d l := rfl
@[simp] theorem hitR_val (d k : Nat) (t : T) (l : List (Nat × Option V)) : hitR d ((k, some (.val t)) :: l) = hitR d l := rfl
@[simp] theorem hitR_sref (d k r : Nat) (q : List Nat) (a b c : Nat) (l : List (Nat × Option V)) : hitR d ((k, some (.sref r q a b c)) :: l) = (d == r || hitR d l) := by simp [hitR]
@[simp] theorem hitR_pref (d k r : Nat) (q : List Nat) (a : Nat) (l : List (Nat × Option V)) : hitR d ((k, some (.pref r q a)) :: l) = (d == r || hitR d l) := by simp [hitR]
@[simp] theorem hitR_vagg (d k : Nat) (vs : List V) (l : List (Nat × Option V)) : hitR d ((k, some (.vagg vs)) :: l) = (V.hitsL d [] vs || hitR d l) := rfl
@[simp] theorem hitR_vtup (d k : Nat) (vs : List V) (l : List (Nat × Option V)) : hitR d ((k, some (.vtup vs)) :: l) = (V.hitsL d [] vs || hitR d l) := rfl

theorem hitR_kill {d : Nat} : ∀ {l : List (Nat × Option V)}, hitR d l = false → killL d [] l = l
  | [], _ => rfl
  | (k, none) :: l, h => by simp only [killL, killV]; rw [hitR_kill (l := l) h]
  | (k, some v) :: l, h => by
    simp only [hitR, Bool.or_eq_false_iff] at h
    simp only [killL, killV, h.1, Bool.false_eq_true, if_false]; rw [hitR_kill h.2]

/-- The rows behind a put. -/
def rest (d : Nat) (l : List (Nat × Option V)) : List (Nat × Option V) := if hitR d l then killL d [] l else l

@[simp] theorem kill_fr (l : List (Nat × Option V)) (r : Nat) (p : List Nat) : (fr l).kill r p = fr (killL r p l) := by
  funext s; rw [fr_killL]; rfl
theorem put_fr0 (l : List (Nat × Option V)) (d : Nat) (v : V) : (fr l).put d v = fr ((d, if v.hits d [] then none else some v) :: killL d [] l) := by
  funext s; simp only [Env.put, fr_cons, fr_killL, Env.kill]
  by_cases h : s = d
  · simp [h]
  · simp [h, Ne.symm h]; rfl
@[simp] theorem put_fr (l : List (Nat × Option V)) (d : Nat) (v : V) : (fr l).put d v = fr ((d, killV d [] (some v)) :: bif hitR d l then killL d [] l else l) := by
  rw [put_fr0, killV_some]
  cases h : hitR d l with
  | true => rfl
  | false => rw [hitR_kill h]; rfl
@[simp] theorem del_fr (l : List (Nat × Option V)) (d : Nat) : (fr l).del d = fr ((d, none) :: bif hitR d l then killL d [] l else l) := by
  have h0 : (fr l).del d = fr ((d, none) :: killL d [] l) := by
    funext s; simp only [Env.del, fr_cons, fr_killL, Env.kill]
    by_cases h : s = d
    · simp [h]
    · simp [h, Ne.symm h]; rfl
  rw [h0]
  cases h : hitR d l with
  | true => rfl
  | false => rw [hitR_kill h]; rfl
@[simp] theorem setD_some (e : Env) (d : Nat) (v : V) : e.setD (some d) v = e.put d v := rfl
@[simp] theorem setD_none (e : Env) (v : V) : e.setD none v = e := rfl
def updV (p : List Nat) (x : T) (v : Option V) : Option V := match v with | some (.val t) => some (.val (t.setAt p x)) | _ => none
@[simp] theorem updV_val (p : List Nat) (x t : T) : updV p x (some (.val t)) = some (.val (t.setAt p x)) := rfl
@[simp] theorem setTree_fr (l : List (Nat × Option V)) (r : Nat) (p : List Nat) (x : T) : (fr l).setTree r p x = fr ((r, updV p x (fr l r)) :: killL r p l) := by
  funext s; simp only [Env.setTree, fr_cons, fr_killL, Env.kill]
  by_cases h : s = r
  · subst h; simp only [updV, if_true]; rfl
  · simp [h, Ne.symm h]; rfl
def keepV (ks : List Nat) (v : Option V) : Option V := match v with | some u => if u.inside ks then some u else none | none => none
@[simp] theorem keepV_none (ks : List Nat) : keepV ks none = none := rfl
@[simp] theorem keepV_val (ks : List Nat) (t : T) : keepV ks (some (.val t)) = some (.val t) := rfl
@[simp] theorem keepV_sref (ks : List Nat) (r : Nat) (q : List Nat) (a b c : Nat) : keepV ks (some (.sref r q a b c)) = bif ks.contains r then some (.sref r q a b c) else none := by cases h : ks.contains r <;> simp only [keepV, V.inside, h] <;> rfl
@[simp] theorem keepV_pref (ks : List Nat) (r : Nat) (q : List Nat) (a : Nat) : keepV ks (some (.pref r q a)) = bif ks.contains r then some (.pref r q a) else none := by cases h : ks.contains r <;> simp only [keepV, V.inside, h] <;> rfl
@[simp] theorem keepV_vagg (ks : List Nat) (vs : List V) : keepV ks (some (.vagg vs)) = bif V.insideL ks vs then some (.vagg vs) else none := by cases h : V.insideL ks vs <;> simp only [keepV, V.inside, h] <;> rfl
@[simp] theorem keepV_vtup (ks : List Nat) (vs : List V) : keepV ks (some (.vtup vs)) = bif V.insideL ks vs then some (.vtup vs) else none := by cases h : V.insideL ks vs <;> simp only [keepV, V.inside, h] <;> rfl
@[simp] theorem inside_val (ks : List Nat) (t : T) : (V.val t).inside ks = true := rfl
@[simp] theorem inside_sref (ks : List Nat) (r : Nat) (q : List Nat) (a b c : Nat) : (V.sref r q a b c).inside ks = ks.contains r := rfl
@[simp] theorem inside_pref (ks : List Nat) (r : Nat) (q : List Nat) (a : Nat) : (V.pref r q a).inside ks = ks.contains r := rfl
@[simp] theorem inside_vagg (ks : List Nat) (vs : List V) : (V.vagg vs).inside ks = V.insideL ks vs := rfl
@[simp] theorem insideL_nil (ks : List Nat) : V.insideL ks [] = true := rfl
@[simp] theorem insideL_cons (ks : List Nat) (v : V) (vs : List V) : V.insideL ks (v :: vs) = (v.inside ks && V.insideL ks vs) := rfl
def pickL (ks : List Nat) (l : List (Nat × Option V)) : List Nat → List (Nat × Option V)
  | [] => []
  | k :: r => (k, keepV ks (fr l k)) :: pickL ks l r
@[simp] theorem pickL_nil (ks : List Nat) (l : List (Nat × Option V)) : pickL ks l [] = [] := rfl
@[simp] theorem pickL_cons (ks : List Nat) (l : List (Nat × Option V)) (k : Nat) (r : List Nat) : pickL ks l (k :: r) = (k, keepV ks (fr l k)) :: pickL ks l r := rfl
theorem fr_pickL (ks : List Nat) (l : List (Nat × Option V)) (r : List Nat) (s : Nat) : fr (pickL ks l r) s = if s ∈ r then keepV ks (fr l s) else none := by
  induction r with
  | nil => rfl
  | cons k r ih =>
    by_cases h : k = s
    · simp [h]
    · simp [h, ih, Ne.symm h]
@[simp] theorem keep_fr (l : List (Nat × Option V)) (ks : List Nat) : (fr l).keep ks = fr (pickL ks l ks) := by
  funext s; rw [fr_pickL]; simp only [Env.keep, keepV, List.contains_iff_mem]; rfl

theorem init_cons (t : T) (ts : List T) : init (t :: ts) = fun s => match s with | 0 => some (.val t) | s + 1 => init ts s := by
  funext s; cases s <;> rfl
def frI (i : Nat) : List T → List (Nat × Option V)
  | [] => []
  | t :: ts => (i, some (.val t)) :: frI (i + 1) ts
@[simp] theorem frI_nil (i : Nat) : frI i [] = [] := rfl
@[simp] theorem frI_cons (i : Nat) (t : T) (ts : List T) : frI i (t :: ts) = (i, some (.val t)) :: frI (i + 1) ts := rfl
theorem fr_frI (ts : List T) : ∀ i s, fr (frI i ts) s = if s < i then none else (ts[s - i]?).map .val := by
  induction ts with
  | nil => intro i s; simp [frI]
  | cons t ts ih =>
    intro i s
    simp only [frI, fr_cons, ih]
    by_cases h : i = s
    · subst h; simp
    · by_cases h2 : s < i
      · have : s < i + 1 := by omega
        simp [h, h2, this]
      · have h3 : ¬ s < i + 1 := by omega
        have h4 : s - i = (s - (i + 1)) + 1 := by omega
        simp [h, h2, h3, h4]
@[simp] theorem init_fr (ts : List T) : init ts = fr (frI 0 ts) := by
  funext s; rw [fr_frI]; simp [init]

def softO (o : Option V) : Option V := softV o
@[simp] theorem softV_none : softV none = none := rfl
@[simp] theorem softV_val (t : T) : softV (some (.val t)) = bif t.noOwn then some (.val t) else none := by cases h : t.noOwn <;> simp only [softV, h] <;> rfl
@[simp] theorem softV_sref (r : Nat) (q : List Nat) (a b c : Nat) : softV (some (.sref r q a b c)) = none := rfl
@[simp] theorem softV_pref (r : Nat) (q : List Nat) (a : Nat) : softV (some (.pref r q a)) = none := rfl
@[simp] theorem softV_vagg (vs : List V) : softV (some (.vagg vs)) = none := rfl
@[simp] theorem softV_vtup (vs : List V) : softV (some (.vtup vs)) = none := rfl
@[simp] theorem soft_fr (l : List (Nat × Option V)) (d : Nat) : (fr l).soft d = fr ((d, softV (fr l d)) :: killL d [] l) := by
  funext s
  simp only [Env.soft, fr_cons, kill_fr]
  by_cases h : s = d
  · subst h; simp
  · rw [if_neg h, if_neg (Ne.symm h)]
def softR : List Nat → Nat → Option V → Option V
  | [], _, v => v
  | d :: ds, k, v => softR ds k (if k = d then softV v else killV d [] v)
@[simp] theorem softR_nil (k : Nat) (v : Option V) : softR [] k v = v := rfl
@[simp] theorem softR_cons (d : Nat) (ds : List Nat) (k : Nat) (v : Option V) : softR (d :: ds) k v = softR ds k (if k = d then softV v else killV d [] v) := rfl
def softL (ds : List Nat) : List (Nat × Option V) → List (Nat × Option V)
  | [] => []
  | (k, v) :: l => (k, softR ds k v) :: softL ds l
@[simp] theorem softL_nil (ds : List Nat) : softL ds [] = [] := rfl
@[simp] theorem softL_cons (ds : List Nat) (k : Nat) (v : Option V) (l : List (Nat × Option V)) : softL ds ((k, v) :: l) = (k, softR ds k v) :: softL ds l := rfl
theorem fr_soft1 (d : Nat) (l : List (Nat × Option V)) (s : Nat) : fr (softL [d] l) s = if s = d then softV (fr l d) else killV d [] (fr l s) := by
  induction l with
  | nil => simp
  | cons x l ih =>
    obtain ⟨k, v⟩ := x
    simp only [softL_cons, fr_cons, softR_cons, softR_nil, ih]
    by_cases h : k = s
    · subst h
      simp only [if_true]
      by_cases h2 : k = d
      · subst h2; simp
      · simp [h2]
    · simp only [if_neg h]
      by_cases h2 : s = d
      · subst h2; simp [h]
      · simp [h2]
theorem softL_softL (d : Nat) (ds : List Nat) (l : List (Nat × Option V)) : softL ds (softL [d] l) = softL (d :: ds) l := by
  induction l with
  | nil => rfl
  | cons x l ih => obtain ⟨k, v⟩ := x; simp only [softL_cons, ih, softR_cons, softR_nil]
@[simp] theorem softs_fr (ds : List Nat) (l : List (Nat × Option V)) : (fr l).softs ds = fr (softL ds l) := by
  induction ds generalizing l with
  | nil =>
    have : softL [] l = l := by
      induction l with
      | nil => rfl
      | cons x l ih => obtain ⟨k, v⟩ := x; simp only [softL_cons, softR_nil, ih]
    rw [this]; rfl
  | cons d ds ih =>
    have h1 : (fr l).soft d = fr (softL [d] l) := by
      funext s
      rw [soft_fr, fr_soft1, fr_cons, fr_killL]
      by_cases h : s = d
      · subst h; simp
      · simp [h, Ne.symm h]
    show ((fr l).soft d).softs ds = _
    rw [h1, ih, softL_softL]

/-! ### Trees -/

@[simp] theorem at_nil (t : T) : t.at [] = some t := by cases t <;> rfl
@[simp] theorem at_own (s : Option Nat) (ts : List T) (i : Nat) (p : List Nat) : (T.mem .own s ts).at (i :: p) = (ts[i]?).bind fun u => u.at p := rfl
@[simp] theorem at_agg (ts : List T) (i : Nat) (p : List Nat) : (T.agg ts).at (i :: p) = (ts[i]?).bind fun u => u.at p := rfl
@[simp] theorem at_tup (ts : List T) (i : Nat) (p : List Nat) : (T.tup ts).at (i :: p) = (ts[i]?).bind fun u => u.at p := rfl
@[simp] theorem setAt_nil (t x : T) : t.setAt [] x = x := by cases t <;> rfl
@[simp] theorem setAt_own (s : Option Nat) (ts : List T) (i : Nat) (p : List Nat) (x : T) : (T.mem .own s ts).setAt (i :: p) x = .mem .own s (ts.set i ((ts.getD i .gone).setAt p x)) := rfl
@[simp] theorem setAt_agg (ts : List T) (i : Nat) (p : List Nat) (x : T) : (T.agg ts).setAt (i :: p) x = .agg (ts.set i ((ts.getD i .gone).setAt p x)) := rfl
@[simp] theorem setAt_tup (ts : List T) (i : Nat) (p : List Nat) (x : T) : (T.tup ts).setAt (i :: p) x = .tup (ts.set i ((ts.getD i .gone).setAt p x)) := rfl
@[simp] theorem peek_sc (r : Nat) (p : List Nat) (v : Value) : (T.sc v).peek r p = .val (.sc v) := rfl
@[simp] theorem peek_gone (r : Nat) (p : List Nat) : T.gone.peek r p = .val .gone := rfl
@[simp] theorem peek_nul (r : Nat) (p : List Nat) : T.nul.peek r p = .val .nul := rfl
@[simp] theorem peek_fn (r : Nat) (p : List Nat) (f : Nat) (cs : List T) : (T.fn f cs).peek r p = .val (.fn f cs) := rfl
@[simp] theorem peek_own (r : Nat) (p : List Nat) (sz : Nat) (ts : List T) : (T.mem .own (some sz) ts).peek r p = .sref r p sz 0 (ts.length / sz) := rfl
@[simp] theorem peek_cell (r : Nat) (p : List Nat) (ts : List T) : (T.mem .own none ts).peek r p = .pref r p 0 := rfl
@[simp] theorem peek_old (r : Nat) (p : List Nat) (s : Option Nat) (ts : List T) : (T.mem .old s ts).peek r p = .val (.mem .old s ts) := rfl
@[simp] theorem peek_fresh (r : Nat) (p : List Nat) (s : Option Nat) (ts : List T) : (T.mem .fresh s ts).peek r p = .val (.mem .fresh s ts) := rfl
@[simp] theorem peek_agg (r : Nat) (p : List Nat) (ts : List T) : (T.agg ts).peek r p = .vagg (T.peekL r p 0 ts) := rfl
@[simp] theorem peek_tup (r : Nat) (p : List Nat) (ts : List T) : (T.tup ts).peek r p = .vtup (T.peekL r p 0 ts) := rfl
@[simp] theorem peekL_nil (r : Nat) (p : List Nat) (i : Nat) : T.peekL r p i [] = [] := rfl
@[simp] theorem peekL_cons (r : Nat) (p : List Nat) (i : Nat) (t : T) (ts : List T) : T.peekL r p i (t :: ts) = t.peek r (p ++ [i]) :: T.peekL r p (i + 1) ts := rfl

def pkV (n : Nat) : Option V → Option V
  | some (.val t) => some (t.peek n [])
  | x => x
@[simp] theorem pkV_none (n : Nat) : pkV n none = none := rfl
@[simp] theorem pkV_val (n : Nat) (t : T) : pkV n (some (.val t)) = some (t.peek n []) := rfl
@[simp] theorem pkV_sref (n r : Nat) (q : List Nat) (a b c : Nat) : pkV n (some (.sref r q a b c)) = some (.sref r q a b c) := rfl
@[simp] theorem pkV_pref (n r : Nat) (q : List Nat) (a : Nat) : pkV n (some (.pref r q a)) = some (.pref r q a) := rfl
@[simp] theorem pkV_vagg (n : Nat) (vs : List V) : pkV n (some (.vagg vs)) = some (.vagg vs) := rfl
@[simp] theorem pkV_vtup (n : Nat) (vs : List V) : pkV n (some (.vtup vs)) = some (.vtup vs) := rfl
theorem peek_eq (e : Env) (n : Nat) : e.peek n = pkV n (e n) := by
  unfold Env.peek pkV
  cases e n with
  | none => rfl
  | some v => cases v <;> rfl
@[simp] theorem peek_fr (l : List (Nat × Option V)) (n : Nat) : (fr l).peek n = pkV n (fr l n) := peek_eq _ _
@[simp] theorem opd_t (e : Env) (n : Nat) : e.opd (.t n) = e.peek n := nrfl rfl
@[simp] theorem opd_c (e : Env) (v : Value) : e.opd (.c v) = some (.val (.sc v)) := nrfl rfl
@[simp] theorem opd_f (e : Env) (id : Nat) : e.opd (.f id) = some (.val (.fn id [])) := nrfl rfl
def trV (p : List Nat) : Option V → Option T
  | some (.val t) => t.at p
  | _ => none
@[simp] theorem trV_none (p : List Nat) : trV p none = none := rfl
@[simp] theorem trV_val (p : List Nat) (t : T) : trV p (some (.val t)) = t.at p := rfl
@[simp] theorem tree_fr (l : List (Nat × Option V)) (r : Nat) (p : List Nat) : (fr l).tree r p = trV p (fr l r) := by
  unfold Env.tree trV
  cases fr l r with
  | none => rfl
  | some v => cases v <;> rfl
@[simp] theorem clear_nil (e : Env) (r : Nat) : e.clear r [] = e.del r := rfl
@[simp] theorem clear_cons (e : Env) (r i : Nat) (p : List Nat) : e.clear r (i :: p) = e.setTree r (i :: p) .gone := rfl
@[simp] theorem puts_nil (e : Env) (r : Nat) (p : List Nat) (off : Nat) : e.puts r p off [] = e := rfl
@[simp] theorem puts_cons (e : Env) (r : Nat) (p : List Nat) (off : Nat) (t : T) (ts : List T) : e.puts r p off (t :: ts) = (e.setTree r (p ++ [off]) t).puts r p (off + 1) ts := rfl

/-! ### Operations -/

@[simp] theorem binV_same (op : BinOp) (k : IntKind) (a b : Int) : binV op (.val (.sc (.int k a))) (.val (.sc (.int k b))) = (binSc op k a b).map fun v => .val (.sc v) := by simp [binV]
@[simp] theorem binSc_add (k : IntKind) (a b : Int) : binSc .add k a b = arith k (a + b) := nrfl rfl
@[simp] theorem binSc_sub (k : IntKind) (a b : Int) : binSc .sub k a b = arith k (a - b) := nrfl rfl
@[simp] theorem binSc_mul (k : IntKind) (a b : Int) : binSc .mul k a b = arith k (a * b) := nrfl rfl
@[simp] theorem binSc_quo (k : IntKind) (a b : Int) : binSc .quo k a b = if b = 0 then none else arith k (a.tdiv b) := nrfl rfl
@[simp] theorem binSc_rem (k : IntKind) (a b : Int) : binSc .rem k a b = if b = 0 then none else some (.int k (a.tmod b)) := nrfl rfl
@[simp] theorem binSc_eql (k : IntKind) (a b : Int) : binSc .eql k a b = some (.bool (decide (a = b))) := by simp only [binSc]; congr 2
@[simp] theorem binSc_neq (k : IntKind) (a b : Int) : binSc .neq k a b = some (.bool (!decide (a = b))) := by simp only [binSc]; congr 2
@[simp] theorem binSc_lss (k : IntKind) (a b : Int) : binSc .lss k a b = some (.bool (a < b)) := nrfl rfl
@[simp] theorem binSc_leq (k : IntKind) (a b : Int) : binSc .leq k a b = some (.bool (a ≤ b)) := nrfl rfl
@[simp] theorem binSc_gtr (k : IntKind) (a b : Int) : binSc .gtr k a b = some (.bool (a > b)) := nrfl rfl
@[simp] theorem binSc_geq (k : IntKind) (a b : Int) : binSc .geq k a b = some (.bool (a ≥ b)) := nrfl rfl
@[simp] theorem arith_i64 (n : Int) : arith .i64 n = if -9223372036854775808 ≤ n ∧ n ≤ 9223372036854775807 then some (.int .i64 n) else none := by rw [arith, if_pos rfl]
@[simp] theorem unV_not (b : Bool) : unV .not (.val (.sc (.bool b))) = some (.val (.sc (.bool !b))) := nrfl rfl
@[simp] theorem unV_neg (k : IntKind) (n : Int) : unV .neg (.val (.sc (.int k n))) = (arith k (0 - n)).map fun v => .val (.sc v) := nrfl rfl
@[simp] theorem lenV_nil : lenV (.val (.sc (.slice none 0 0))) = some 0 := nrfl rfl
@[simp] theorem lenV_odd (a : Addr) : lenV (.val (.sc (.slice (some a) 0 0))) = some 0 := nrfl rfl
@[simp] theorem lenV_mem (k : K) (sz : Nat) (ts : List T) : lenV (.val (.mem k (some sz) ts)) = some (ts.length / sz) := nrfl rfl
@[simp] theorem lenV_sref (r : Nat) (p : List Nat) (a b c : Nat) : lenV (.sref r p a b c) = some c := nrfl rfl
@[simp] theorem slenV_str (s : ByteArray) : slenV (.val (.sc (.string s))) = some s.size := nrfl rfl
@[simp] theorem asI_int (k : IntKind) (n : Int) : asI (.val (.sc (.int k n))) = some n := nrfl rfl
@[simp] theorem asB_bool (b : Bool) : asB (.val (.sc (.bool b))) = some b := nrfl rfl
@[simp] theorem isNil_nil : V.isNil (.val (.sc (.slice none 0 0))) = some true := nrfl rfl
@[simp] theorem isNil_odd (a : Addr) : V.isNil (.val (.sc (.slice (some a) 0 0))) = some false := nrfl rfl
@[simp] theorem isNil_mem (k : K) (sz : Nat) (ts : List T) : V.isNil (.val (.mem k (some sz) ts)) = some false := nrfl rfl
@[simp] theorem isNil_sref (r : Nat) (p : List Nat) (a b c : Nat) : V.isNil (.sref r p a b c) = some false := nrfl rfl
@[simp] theorem optI_none (e : Env) : e.optI none = some none := nrfl rfl
@[simp] theorem optI_some (e : Env) (x : Opd) : e.optI (some x) = ((e.opd x).bind asI).map some := nrfl rfl
@[simp] theorem idxV_mem (sz sz' : Nat) (k : K) (ts : List T) (i : Int) : idxV sz (.val (.mem k (some sz') ts)) i = if sz' = sz ∧ 0 ≤ i ∧ i < ((ts.length / sz : Nat) : Int) then some (.val (.mem k none (win ts (i.toNat * sz) sz))) else none := nrfl rfl
@[simp] theorem idxV_sref (sz r : Nat) (p : List Nat) (a b c : Nat) (i : Int) : idxV sz (.sref r p a b c) i = if a = sz ∧ 0 ≤ i ∧ i < (c : Int) then some (.pref r p ((b + i.toNat) * sz)) else none := nrfl rfl
@[simp] theorem fld_mem (e : Env) (off : Nat) (k : K) (ts : List T) : e.fld off (.val (.mem k none ts)) = if off ≤ ts.length then some (.val (.mem k none (ts.drop off))) else none := nrfl rfl
def fldT (off r : Nat) (p : List Nat) (o : Nat) : Option T → Option V
  | some (.mem .own _ ts) => if o + off ≤ ts.length then some (.pref r p (o + off)) else none
  | _ => none
@[simp] theorem fld_pref (e : Env) (off r : Nat) (p : List Nat) (o : Nat) : e.fld off (.pref r p o) = fldT off r p o (e.tree r p) := nrfl rfl
@[simp] theorem fldT_own (off r : Nat) (p : List Nat) (o : Nat) (s : Option Nat) (ts : List T) : fldT off r p o (some (.mem .own s ts)) = if o + off ≤ ts.length then some (.pref r p (o + off)) else none := nrfl rfl
@[simp] theorem ld_mem (e : Env) (k : K) (ts : List T) : e.ld none (.val (.mem k none ts)) = (ts[0]?).map .val := nrfl rfl
@[simp] theorem ld_mem_n (e : Env) (n : Nat) (k : K) (ts : List T) : e.ld (some n) (.val (.mem k none ts)) = if n ≤ ts.length then some (.vagg ((ts.take n).map .val)) else none := nrfl rfl
def ldT (r : Nat) (p : List Nat) (off : Nat) : Option T → Option V
  | some (.mem .own _ ts) => (ts[off]?).map fun t => t.peek r (p ++ [off])
  | _ => none
def ldTn (n r : Nat) (p : List Nat) (off : Nat) : Option T → Option V
  | some (.mem .own _ ts) => if off + n ≤ ts.length then some (.vagg (T.peekL r p off (win ts off n))) else none
  | _ => none
@[simp] theorem ld_pref (e : Env) (r : Nat) (p : List Nat) (off : Nat) : e.ld none (.pref r p off) = ldT r p off (e.tree r p) := nrfl rfl
@[simp] theorem ld_pref_n (e : Env) (n r : Nat) (p : List Nat) (off : Nat) : e.ld (some n) (.pref r p off) = ldTn n r p off (e.tree r p) := nrfl rfl
@[simp] theorem ldT_own (r : Nat) (p : List Nat) (off : Nat) (s : Option Nat) (ts : List T) : ldT r p off (some (.mem .own s ts)) = (ts[off]?).map fun t => t.peek r (p ++ [off]) := nrfl rfl
@[simp] theorem ldTn_own (n r : Nat) (p : List Nat) (off : Nat) (s : Option Nat) (ts : List T) : ldTn n r p off (some (.mem .own s ts)) = if off + n ≤ ts.length then some (.vagg (T.peekL r p off (win ts off n))) else none := nrfl rfl
@[simp] theorem fldvV_n (off : Nat) (vs : List V) : fldvV off none (.vagg vs) = vs[off]? := nrfl rfl
@[simp] theorem fldvV_s (off n : Nat) (vs : List V) : fldvV off (some n) (.vagg vs) = if off + n ≤ vs.length then some (.vagg ((vs.drop off).take n)) else none := nrfl rfl
@[simp] theorem extV_tup (i : Nat) (vs : List V) : extV i (.vtup vs) = vs[i]? := nrfl rfl
@[simp] theorem slV_mem (sz sz' : Nat) (k : K) (ts : List T) (lo hi : Option Int) : slV sz (.val (.mem k (some sz') ts)) lo hi = if sz' = sz ∧ 0 ≤ lo.getD 0 ∧ lo.getD 0 ≤ hi.getD ((ts.length / sz : Nat) : Int) ∧ hi.getD ((ts.length / sz : Nat) : Int) ≤ ((ts.length / sz : Nat) : Int) then some (.val (.mem k (some sz) (win ts ((lo.getD 0).toNat * sz) (((hi.getD ((ts.length / sz : Nat) : Int)).toNat - (lo.getD 0).toNat) * sz)))) else none := nrfl rfl
@[simp] theorem slV_sref (sz r : Nat) (p : List Nat) (a b c : Nat) (lo hi : Option Int) : slV sz (.sref r p a b c) lo hi = if a = sz ∧ 0 ≤ lo.getD 0 ∧ lo.getD 0 ≤ hi.getD (c : Int) ∧ hi.getD (c : Int) ≤ (c : Int) then some (.sref r p sz (b + (lo.getD 0).toNat) ((hi.getD (c : Int)).toNat - (lo.getD 0).toNat)) else none := nrfl rfl

@[simp] theorem noOwn_sc (v : Value) : (T.sc v).noOwn = true := rfl
@[simp] theorem noOwn_gone : T.gone.noOwn = true := rfl
@[simp] theorem noOwn_nul : T.nul.noOwn = true := rfl
@[simp] theorem noOwn_own (s : Option Nat) (ts : List T) : (T.mem .own s ts).noOwn = false := rfl
@[simp] theorem noOwn_old (s : Option Nat) (ts : List T) : (T.mem .old s ts).noOwn = T.noOwnL ts := rfl
@[simp] theorem noOwn_fresh (s : Option Nat) (ts : List T) : (T.mem .fresh s ts).noOwn = T.noOwnL ts := rfl
@[simp] theorem noOwn_fn (f : Nat) (cs : List T) : (T.fn f cs).noOwn = T.noOwnL cs := rfl
@[simp] theorem noOwn_agg (ts : List T) : (T.agg ts).noOwn = T.noOwnL ts := rfl
@[simp] theorem noOwn_tup (ts : List T) : (T.tup ts).noOwn = T.noOwnL ts := rfl
@[simp] theorem noOwnL_nil : T.noOwnL [] = true := rfl
@[simp] theorem noOwnL_cons (t : T) (ts : List T) : T.noOwnL (t :: ts) = (t.noOwn && T.noOwnL ts) := rfl

@[simp] theorem take_val (e : Env) (t : T) : e.take (.val t) = if t.noOwn then some (t, e) else none := nrfl rfl
def takeS (e : Env) (r : Nat) (p : List Nat) (sz off len : Nat) : Option T → Option (T × Env)
  | some (.mem .own (some sz') ts) => if sz' = sz ∧ (off + len) * sz ≤ ts.length ∧ 0 < sz then some (.mem .own (some sz) (win ts (off * sz) (len * sz)), e.clear r p) else none
  | _ => none
@[simp] theorem take_sref (e : Env) (r : Nat) (p : List Nat) (sz off len : Nat) : e.take (.sref r p sz off len) = takeS e r p sz off len (e.tree r p) := by
  unfold Env.take takeS
  rfl
@[simp] theorem takeS_own (e : Env) (r : Nat) (p : List Nat) (sz off len sz' : Nat) (ts : List T) : takeS e r p sz off len (some (.mem .own (some sz') ts)) = if sz' = sz ∧ (off + len) * sz ≤ ts.length ∧ 0 < sz then some (.mem .own (some sz) (win ts (off * sz) (len * sz)), e.clear r p) else none := nrfl rfl
def takeP (e : Env) (r : Nat) (p : List Nat) (off : Nat) : Option T → Option (T × Env)
  | some (.mem .own none ts) => if off = 0 then some (.mem .own none ts, e.clear r p) else none
  | _ => none
@[simp] theorem take_pref (e : Env) (r : Nat) (p : List Nat) (off : Nat) : e.take (.pref r p off) = takeP e r p off (e.tree r p) := by
  unfold Env.take takeP
  rfl
@[simp] theorem takeP_own (e : Env) (r : Nat) (p : List Nat) (off : Nat) (ts : List T) : takeP e r p off (some (.mem .own none ts)) = if off = 0 then some (.mem .own none ts, e.clear r p) else none := nrfl rfl
@[simp] theorem take_vagg (e : Env) (vs : List V) : e.take (.vagg vs) = (e.takeL vs).map fun x => (.agg x.1, x.2) := nrfl rfl
@[simp] theorem take_vtup (e : Env) (vs : List V) : e.take (.vtup vs) = (e.takeL vs).map fun x => (.tup x.1, x.2) := nrfl rfl
@[simp] theorem takeL_nil (e : Env) : e.takeL [] = some ([], e) := nrfl rfl
@[simp] theorem takeL_cons (e : Env) (v : V) (vs : List V) : e.takeL (v :: vs) = (e.take v).bind fun x => (x.2.takeL vs).map fun y => (x.1 :: y.1, y.2) := nrfl rfl

@[simp] theorem cells_sc (v : Value) : (T.sc v).cells = [.sc v] := rfl
@[simp] theorem cells_mem (k : K) (s : Option Nat) (ts : List T) : (T.mem k s ts).cells = [.mem k s ts] := rfl
@[simp] theorem cells_fn (f : Nat) (cs : List T) : (T.fn f cs).cells = [.fn f cs] := rfl
@[simp] theorem cells_agg (ts : List T) : (T.agg ts).cells = ts := rfl
@[simp] theorem isCell_sc (v : Value) : (T.sc v).isCell = true := rfl
@[simp] theorem isCell_mem (k : K) (s : Option Nat) (ts : List T) : (T.mem k s ts).isCell = true := rfl
@[simp] theorem isCell_fn (f : Nat) (cs : List T) : (T.fn f cs).isCell = true := rfl

@[simp] theorem rv_t (e : Env) (s : Nat) : e.rv (.t s) = e.peek s := nrfl rfl
@[simp] theorem rv_cell (e : Env) (s : Nat) (n : Option Nat) : e.rv (.cell s n) = (e.peek s).bind fun a => e.ld n a := nrfl rfl
@[simp] theorem rvs_nil (e : Env) : e.rvs [] = some [] := nrfl rfl
@[simp] theorem rvs_cons (e : Env) (x : RV) (xs : List RV) : e.rvs (x :: xs) = (e.rv x).bind fun v => (e.rvs xs).map fun vs => v :: vs := nrfl rfl
@[simp] theorem result_nil (e : Env) : e.result [] = (e.rvs []).bind fun vs => (e.takeL vs).map fun x => (.tup x.1, x.2) := nrfl rfl
@[simp] theorem result_one (e : Env) (r : RV) : e.result [r] = (e.rv r).bind fun v => e.take v := nrfl rfl
@[simp] theorem result_two (e : Env) (r r' : RV) (rs : List RV) : e.result (r :: r' :: rs) = (e.rvs (r :: r' :: rs)).bind fun vs => (e.takeL vs).map fun x => (.tup x.1, x.2) := nrfl rfl
@[simp] theorem backArgs_nil (e : Env) (s : Nat) : backArgs e s [] = [] := rfl
@[simp] theorem backArgs_cons (e : Env) (s : Nat) (t : T) (ts : List T) : backArgs e s (t :: ts) = (if t.noOwn then t else slotT e s) :: backArgs e (s + 1) ts := rfl
def slT : Option V → T
  | some (.val t) => t
  | _ => .gone
@[simp] theorem slT_val (t : T) : slT (some (.val t)) = t := rfl
@[simp] theorem slT_none : slT none = .gone := rfl
@[simp] theorem slotT_fr (l : List (Nat × Option V)) (s : Nat) : slotT (fr l) s = slT (fr l s) := by
  unfold slotT slT
  cases fr l s with
  | none => rfl
  | some v => cases v <;> rfl
@[simp] theorem post_nrm (rs : List RV) (args args' : List T) (r : T) (e : Env) : post rs args args' r .nrm e = bindP (e.result rs) fun x => x.1 = r ∧ args' = backArgs x.2 0 args := rfl
@[simp] theorem post_ret (rs : List RV) (args args' : List T) (r : T) (e : Env) : post rs args args' r .ret e = bindP (e.result rs) fun x => x.1 = r ∧ args' = backArgs x.2 0 args := rfl

@[simp] theorem base_nil (e : Env) (sz : Nat) : e.base sz (.val (.sc (.slice none 0 0))) = some (none, e) := nrfl rfl
def baseS (sz : Nat) : Option (T × Env) → Option (Option (List T) × Env)
  | some (.mem .own (some sz') ts, e') => if sz' = sz then some (some ts, e') else none
  | _ => none
@[simp] theorem base_sref (e : Env) (sz r : Nat) (p : List Nat) (a b c : Nat) : e.base sz (.sref r p a b c) = baseS sz (e.take (.sref r p a b c)) := by
  unfold Env.base baseS
  rfl
@[simp] theorem baseS_own (sz sz' : Nat) (ts : List T) (e' : Env) : baseS sz (some (.mem .own (some sz') ts, e')) = if sz' = sz then some (some ts, e') else none := nrfl rfl
@[simp] theorem baseS_ite (sz : Nat) (c : Prop) [Decidable c] (x : Option (T × Env)) : baseS sz (if c then x else none) = if c then baseS sz x else none := by split <;> rfl
@[simp] theorem src_nil (e : Env) (mv : Bool) (sz : Nat) : e.src mv sz (.val (.sc (.slice none 0 0))) = some ([], e) := nrfl rfl
@[simp] theorem src_old (e : Env) (mv : Bool) (sz sz' : Nat) (ts : List T) : e.src mv sz (.val (.mem .old (some sz') ts)) = if sz' = sz ∧ T.noOwnL ts = true ∧ ts.length % sz = 0 then some (ts, e) else none := by simp [Env.src]
@[simp] theorem src_fresh (e : Env) (mv : Bool) (sz sz' : Nat) (ts : List T) : e.src mv sz (.val (.mem .fresh (some sz') ts)) = if sz' = sz ∧ T.noOwnL ts = true ∧ ts.length % sz = 0 then some (ts, e) else none := by simp [Env.src]
def srcS (e : Env) (mv : Bool) (sz r : Nat) (p : List Nat) (sz' off len : Nat) : Option T → Option (List T × Env)
  | some (.mem .own (some _) ts) =>
    if sz' = sz ∧ (off + len) * sz ≤ ts.length then
      (if mv then (if p = [] then some (win ts (off * sz) (len * sz), e.del r) else none)
       else if T.noOwnL (win ts (off * sz) (len * sz)) then some (win ts (off * sz) (len * sz), e) else none)
    else none
  | _ => none
@[simp] theorem src_sref (e : Env) (mv : Bool) (sz r : Nat) (p : List Nat) (sz' off len : Nat) : e.src mv sz (.sref r p sz' off len) = srcS e mv sz r p sz' off len (e.tree r p) := by
  unfold Env.src srcS
  rfl
@[simp] theorem srcS_mv (e : Env) (sz r : Nat) (sz' off len sz2 : Nat) (ts : List T) : srcS e true sz r [] sz' off len (some (.mem .own (some sz2) ts)) = if sz' = sz ∧ (off + len) * sz ≤ ts.length then some (win ts (off * sz) (len * sz), e.del r) else none := by simp [srcS]
@[simp] theorem srcS_cp (e : Env) (sz r : Nat) (p : List Nat) (sz' off len sz2 : Nat) (ts : List T) : srcS e false sz r p sz' off len (some (.mem .own (some sz2) ts)) = if sz' = sz ∧ (off + len) * sz ≤ ts.length ∧ T.noOwnL (win ts (off * sz) (len * sz)) = true then some (win ts (off * sz) (len * sz), e) else none := by
  simp only [srcS, Bool.false_eq_true, if_false]
  by_cases h : sz' = sz ∧ (off + len) * sz ≤ ts.length
  · rw [if_pos h]
    by_cases h2 : T.noOwnL (win ts (off * sz) (len * sz)) = true
    · simp [h, h2]
    · simp [h2]
  · rw [if_neg h, if_neg fun hh => h ⟨hh.1, hh.2.1⟩]

@[simp] theorem rootly_val (t : T) : (V.val t).rootly = t.noOwn := rfl
@[simp] theorem rootly_sref (r : Nat) (p : List Nat) (a b c : Nat) : (V.sref r p a b c).rootly = p.isEmpty := rfl
@[simp] theorem rootly_pref (r : Nat) (p : List Nat) (a : Nat) : (V.pref r p a).rootly = p.isEmpty := rfl

@[simp] theorem opds_nil (e : Env) : e.opds [] = some [] := nrfl rfl
@[simp] theorem opds_cons (e : Env) (x : Opd) (xs : List Opd) : e.opds (x :: xs) = (e.opd x).bind fun v => (e.opds xs).map fun vs => v :: vs := nrfl rfl
@[simp] theorem parts_nil (e : Env) : e.parts [] = some [] := nrfl rfl
@[simp] theorem parts_cons (e : Env) (i n : Nat) (x : Opd) (xs : List (Nat × Nat × Opd)) : e.parts ((i, n, x) :: xs) = (e.opd x).bind fun v => (e.parts xs).map fun vs => (i, n, v) :: vs := nrfl rfl
@[simp] theorem fillV_nil (vs : List V) : fillV vs [] = some vs := nrfl rfl
@[simp] theorem fillV_vagg (vs us : List V) (i n : Nat) (r : List (Nat × Nat × V)) : fillV vs ((i, n, .vagg us) :: r) = if us.length = n ∧ i + n ≤ vs.length then fillV (vs.take i ++ us ++ vs.drop (i + n)) r else none := nrfl rfl
@[simp] theorem fillV_sref (vs : List V) (i n s : Nat) (p : List Nat) (a b c : Nat) (r : List (Nat × Nat × V)) : fillV vs ((i, n, .sref s p a b c) :: r) = if n = 1 ∧ i + n ≤ vs.length then fillV (vs.take i ++ [.sref s p a b c] ++ vs.drop (i + n)) r else none := nrfl rfl
@[simp] theorem fillV_pref (vs : List V) (i n s : Nat) (p : List Nat) (a : Nat) (r : List (Nat × Nat × V)) : fillV vs ((i, n, .pref s p a) :: r) = if n = 1 ∧ i + n ≤ vs.length then fillV (vs.take i ++ [.pref s p a] ++ vs.drop (i + n)) r else none := nrfl rfl
@[simp] theorem fillV_sc (vs : List V) (i n : Nat) (v : Value) (r : List (Nat × Nat × V)) : fillV vs ((i, n, .val (.sc v)) :: r) = if n = 1 ∧ i + n ≤ vs.length then fillV (vs.take i ++ [.val (.sc v)] ++ vs.drop (i + n)) r else none := nrfl rfl
@[simp] theorem fillV_mem (vs : List V) (i n : Nat) (k : K) (s : Option Nat) (ts : List T) (r : List (Nat × Nat × V)) : fillV vs ((i, n, .val (.mem k s ts)) :: r) = if n = 1 ∧ i + n ≤ vs.length then fillV (vs.take i ++ [.val (.mem k s ts)] ++ vs.drop (i + n)) r else none := nrfl rfl
@[simp] theorem fillV_fn (vs : List V) (i n f : Nat) (cs : List T) (r : List (Nat × Nat × V)) : fillV vs ((i, n, .val (.fn f cs)) :: r) = if n = 1 ∧ i + n ≤ vs.length then fillV (vs.take i ++ [.val (.fn f cs)] ++ vs.drop (i + n)) r else none := nrfl rfl

/-! ### Calls -/

@[simp] theorem args_nil (e : Env) : e.args [] = some [] := nrfl rfl
@[simp] theorem args_r (e : Env) (x : Opd) (xs : List (Opd × Mode)) : e.args ((x, .r) :: xs) = (e.opd x).bind fun v => (e.res v).bind fun t => (e.args xs).map fun ts => t :: ts := nrfl rfl
def lentO : Option V → Bool
  | some v => v.lent
  | none => true
@[simp] theorem lentO_some (v : V) : lentO (some v) = v.lent := rfl
@[simp] theorem lends_nil (e : Env) : e.lends [] = false := rfl
@[simp] theorem lends_r (e : Env) (x : Opd) (xs : List (Opd × Mode)) : e.lends ((x, .r) :: xs) = (lentO (e.opd x) || e.lends xs) := by
  simp only [Env.lends, lentO]
  cases e.opd x <;> rfl
@[simp] theorem back_nil (e : Env) : e.back [] [] = some e := nrfl rfl
@[simp] theorem back_r1 (e : Env) (x : Opd) (xs : List (Opd × Mode)) (t : T) (ts : List T) : e.back ((x, .r) :: xs) (t :: ts) = e.back xs ts := nrfl rfl
@[simp] theorem lent_val (t : T) : (V.val t).lent = false := rfl
@[simp] theorem lent_sref (r : Nat) (p : List Nat) (a b c : Nat) : (V.sref r p a b c).lent = true := rfl
@[simp] theorem lent_pref (r : Nat) (p : List Nat) (a : Nat) : (V.pref r p a).lent = true := rfl
@[simp] theorem lent_vagg (vs : List V) : (V.vagg vs).lent = V.lentL vs := rfl
@[simp] theorem lent_vtup (vs : List V) : (V.vtup vs).lent = V.lentL vs := rfl
@[simp] theorem lentL_nil : V.lentL [] = false := rfl
@[simp] theorem lentL_cons (v : V) (vs : List V) : V.lentL (v :: vs) = (v.lent || V.lentL vs) := rfl
@[simp] theorem res_val (e : Env) (t : T) : e.res (.val t) = if t.noOwn then some (t.ery .old) else none := nrfl rfl
def resS (sz off len : Nat) : Option T → Option T
  | some (.mem .own _ ts) => if (off + len) * sz ≤ ts.length then some (.mem .old (some sz) (T.eryL .old (win ts (off * sz) (len * sz)))) else none
  | _ => none
@[simp] theorem res_sref (e : Env) (r : Nat) (p : List Nat) (sz off len : Nat) : e.res (.sref r p sz off len) = resS sz off len (e.tree r p) := by
  unfold Env.res resS
  rfl
@[simp] theorem resS_own (sz off len : Nat) (s : Option Nat) (ts : List T) : resS sz off len (some (.mem .own s ts)) = if (off + len) * sz ≤ ts.length then some (.mem .old (some sz) (T.eryL .old (win ts (off * sz) (len * sz)))) else none := nrfl rfl
def resP (off : Nat) : Option T → Option T
  | some (.mem .own _ ts) => if off ≤ ts.length then some (.mem .old none (T.eryL .old (ts.drop off))) else none
  | _ => none
@[simp] theorem res_pref (e : Env) (r : Nat) (p : List Nat) (off : Nat) : e.res (.pref r p off) = resP off (e.tree r p) := by
  unfold Env.res resP
  rfl
@[simp] theorem resP_own (off : Nat) (s : Option Nat) (ts : List T) : resP off (some (.mem .own s ts)) = if off ≤ ts.length then some (.mem .old none (T.eryL .old (ts.drop off))) else none := nrfl rfl
@[simp] theorem res_vagg (e : Env) (vs : List V) : e.res (.vagg vs) = (e.resL vs).map .agg := nrfl rfl
@[simp] theorem res_vtup (e : Env) (vs : List V) : e.res (.vtup vs) = (e.resL vs).map .tup := nrfl rfl
@[simp] theorem resL_nil (e : Env) : e.resL [] = some [] := nrfl rfl
@[simp] theorem resL_cons (e : Env) (v : V) (vs : List V) : e.resL (v :: vs) = (e.res v).bind fun t => (e.resL vs).map fun ts => t :: ts := nrfl rfl
@[simp] theorem ery_sc (k : K) (v : Value) : (T.sc v).ery k = .sc v := rfl
@[simp] theorem ery_mem (k k' : K) (s : Option Nat) (ts : List T) : (T.mem k' s ts).ery k = .mem k s (T.eryL k ts) := rfl
@[simp] theorem ery_fn (k : K) (f : Nat) (cs : List T) : (T.fn f cs).ery k = .fn f (T.eryL k cs) := rfl
@[simp] theorem ery_agg (k : K) (ts : List T) : (T.agg ts).ery k = .agg (T.eryL k ts) := rfl
@[simp] theorem ery_tup (k : K) (ts : List T) : (T.tup ts).ery k = .tup (T.eryL k ts) := rfl
@[simp] theorem eryL_nil (k : K) : T.eryL k [] = [] := rfl
@[simp] theorem eryL_cons (k : K) (t : T) (ts : List T) : T.eryL k (t :: ts) = t.ery k :: T.eryL k ts := rfl
@[simp] theorem noOld_sc (v : Value) : (T.sc v).noOld = true := rfl
@[simp] theorem noOld_own (s : Option Nat) (ts : List T) : (T.mem .own s ts).noOld = T.noOldL ts := rfl
@[simp] theorem noOld_fresh (s : Option Nat) (ts : List T) : (T.mem .fresh s ts).noOld = T.noOldL ts := rfl
@[simp] theorem noOld_old (s : Option Nat) (ts : List T) : (T.mem .old s ts).noOld = false := rfl
@[simp] theorem noOld_fn (f : Nat) (cs : List T) : (T.fn f cs).noOld = T.noOldL cs := rfl
@[simp] theorem noOld_agg (ts : List T) : (T.agg ts).noOld = T.noOldL ts := rfl
@[simp] theorem noOld_tup (ts : List T) : (T.tup ts).noOld = T.noOldL ts := rfl
@[simp] theorem noOldL_nil : T.noOldL [] = true := rfl
@[simp] theorem noOldL_cons (t : T) (ts : List T) : T.noOldL (t :: ts) = (t.noOld && T.noOldL ts) := rfl
@[simp] theorem lend_sc (v : Value) : (T.sc v).lend = .sc v := rfl
@[simp] theorem lend_own (s : Option Nat) (ts : List T) : (T.mem .own s ts).lend = .mem .own s (T.lendL ts) := rfl
@[simp] theorem lend_old (s : Option Nat) (ts : List T) : (T.mem .old s ts).lend = .mem .old s (T.lendL ts) := rfl
@[simp] theorem lend_fresh (s : Option Nat) (ts : List T) : (T.mem .fresh s ts).lend = .mem .old s (T.lendL ts) := rfl
@[simp] theorem lend_agg (ts : List T) : (T.agg ts).lend = .agg (T.lendL ts) := rfl
@[simp] theorem lend_fn (f : Nat) (cs : List T) : (T.fn f cs).lend = .fn f (T.eryL .old cs) := rfl
@[simp] theorem lendL_nil : T.lendL [] = [] := rfl
@[simp] theorem lendL_cons (t : T) (ts : List T) : T.lendL (t :: ts) = t.lend :: T.lendL ts := rfl

/-! ### Code -/

/-- A loop: what is kept until a round leaves it. -/
def wpLoop (G : Rl) (m : K) (b : C) (R : X → Env → Prop) (e : Env) : Prop := wp G m (.loop b) R e

section
variable (G : Rl) (m : K) (R : X → Env → Prop) (e : Env) (k : Env → Prop)
@[simp ↓] theorem wp_skip' : wp G m .skip R e = R .nrm e := rfl
@[simp ↓] theorem wp_region_f (ops : List O) (ks : List Nat) : wp G m (.region none ops ks) R e = wpL G m ops (kReg R ks) e := rfl
@[simp ↓] theorem wp_region_t (ds : List Nat) (ops : List O) (ks : List Nat) : wp G m (.region (some ds) ops ks) R e = wpL G m ops (kReg R ks) (e.softs ds) := rfl
@[simp ↓] theorem wp_seq' (a b : C) : wp G m (.seq a b) R e = wp G m a (X.after (wp G m b R) R) e := rfl
@[simp ↓] theorem wp_cond' (c : Opd) (a b : C) : wp G m (.cond c a b) R e = bindP ((e.opd c).bind asB) fun t => if t then wp G m a R e else wp G m b R e := rfl
@[simp ↓] theorem wp_block' (id : Nat) (b : C) : wp G m (.block id b) R e = wp G m b (X.out id R) e := rfl
@[simp ↓] theorem wp_loop' (b : C) : wp G m (.loop b) R e = wpLoop G m b R e := rfl
@[simp ↓] theorem wp_exit' (id : Nat) : wp G m (.exit id) R e = R (.ext id) e := rfl
@[simp ↓] theorem wp_ret' : wp G m .ret R e = R .ret e := rfl
@[simp ↓] theorem after_nrm (next : Env → Prop) : X.after next R .nrm e = next e := rfl
@[simp ↓] theorem after_ext (next : Env → Prop) (id : Nat) : X.after next R (.ext id) e = R (.ext id) e := rfl
@[simp ↓] theorem after_ret (next : Env → Prop) : X.after next R .ret e = R .ret e := rfl
@[simp ↓] theorem out_nrm (id : Nat) : X.out id R .nrm e = R .nrm e := rfl
@[simp ↓] theorem out_ret (id : Nat) : X.out id R .ret e = R .ret e := rfl
@[simp ↓] theorem out_ext (id i : Nat) : X.out id R (.ext i) e = if i = id then R .nrm e else R (.ext i) e := rfl
@[simp] theorem kReg' (ks : List Nat) : kReg R ks e = R .nrm (e.keep ks) := rfl
@[simp ↓] theorem wpL_nil : wpL G m [] k e = k e := rfl
@[simp ↓] theorem wpL_cons (o : O) (l : List O) : wpL G m (o :: l) k e = stepO G m o (wpL G m l k) e := rfl
@[simp] theorem stepO_none (d : Option Nat) (q : Q) : stepO G m ⟨d, none, q⟩ k e = stepQ G m d q k e := rfl
def frAt (e : Env) (s : Nat) : Option V := e s
@[simp] theorem frAt_fr (l : List (Nat × Option V)) (s : Nat) : frAt (fr l) s = fr l s := nrfl rfl
class Gd where
  yes : Prop
  no : Prop
def guardV (b : Bool) (o : Option V) [c : Gd] : Prop :=
  match o with
  | some (.val (.sc (.bool b'))) => if b' = b then c.yes else c.no
  | some (.val .nul) => c.no
  | _ => False
@[simp ↓, simp] theorem guardV_tt (c : Gd) : @guardV true (some (.val (.sc (.bool true)))) c = c.yes := by simp only [guardV, if_true]
@[simp ↓, simp] theorem guardV_ff (c : Gd) : @guardV false (some (.val (.sc (.bool false)))) c = c.yes := by simp only [guardV, if_true]
@[simp ↓, simp] theorem guardV_tf (c : Gd) : @guardV true (some (.val (.sc (.bool false)))) c = c.no := by simp [guardV]
@[simp ↓, simp] theorem guardV_ft (c : Gd) : @guardV false (some (.val (.sc (.bool true)))) c = c.no := by simp [guardV]
@[simp ↓, simp] theorem guardV_nul (b : Bool) (c : Gd) : @guardV b (some (.val .nul)) c = c.no := rfl
@[simp] theorem stepO_some (d : Option Nat) (s : Nat) (b : Bool) (q : Q) : stepO G m ⟨d, some (s, b), q⟩ k e = @guardV b (frAt e s) ⟨stepQ G m d q k e, k (e.setD d undefV)⟩ := by
  unfold stepO guardV frAt
  rfl
end

/-- In what is asked of a code only the frame is reckoned. -/
@[congr] theorem wp_congr {G : Rl} {m : K} {c : C} {R : X → Env → Prop} {e e' : Env} (h : e = e') : wp G m c R e = wp G m c R e' := by rw [h]
@[congr] theorem wpL_congr {G : Rl} {m : K} {l : List O} {k : Env → Prop} {e e' : Env} (h : e = e') : wpL G m l k e = wpL G m l k e' := by rw [h]
@[congr] theorem stepO_congr {G : Rl} {m : K} {o : O} {k : Env → Prop} {e e' : Env} (h : e = e') : stepO G m o k e = stepO G m o k e' := by rw [h]
@[congr] theorem wpLoop_congr {G : Rl} {m : K} {c : C} {R : X → Env → Prop} {e e' : Env} (h : e = e') : wpLoop G m c R e = wpLoop G m c R e' := by rw [h]
@[congr] theorem after_congr {next : Env → Prop} {R : X → Env → Prop} {x : X} {e e' : Env} (h : e = e') : X.after next R x e = X.after next R x e' := by rw [h]
@[congr] theorem out_congr {id : Nat} {R : X → Env → Prop} {x : X} {e e' : Env} (h : e = e') : X.out id R x e = X.out id R x e' := by rw [h]
@[congr] theorem kReg_congr {R : X → Env → Prop} {ks : List Nat} {e e' : Env} (h : e = e') : kReg R ks e = kReg R ks e' := by rw [h]

section
variable (G : Rl) (m : K) (d : Option Nat) (k : Env → Prop) (e : Env)
@[simp] theorem q_mv (x : Opd) : stepQ G m d (.mv x) k e = bindP (e.opd x) fun v => k (e.setD d v) := rfl
@[simp] theorem q_mvw (x : Opd) : stepQ G m d (.mvw x) k e = bindP (e.opd x) fun v => v.rootly = true ∧ k (e.setD d v) := rfl
def asgV (e : Env) (d : Option Nat) (k : Env → Prop) : V → Prop
  | .val t => k (e.setD d (.val t))
  | v => bindP (e.take v) fun y => k (y.2.setD d (.val y.1))
@[simp] theorem q_asg (x : Opd) : stepQ G m d (.asg x) k e = bindP (e.opd x) (asgV e d k) := by
  unfold stepQ asgV
  rfl
@[simp ↓, simp] theorem asgV_val (t : T) : asgV e d k (.val t) = k (e.setD d (.val t)) := rfl
@[simp ↓, simp] theorem asgV_sref (r : Nat) (p : List Nat) (a b c : Nat) : asgV e d k (.sref r p a b c) = bindP (e.take (.sref r p a b c)) fun y => k (y.2.setD d (.val y.1)) := rfl
@[simp ↓, simp] theorem asgV_pref (r : Nat) (p : List Nat) (a : Nat) : asgV e d k (.pref r p a) = bindP (e.take (.pref r p a)) fun y => k (y.2.setD d (.val y.1)) := rfl
@[simp ↓, simp] theorem asgV_vagg (vs : List V) : asgV e d k (.vagg vs) = bindP (e.take (.vagg vs)) fun y => k (y.2.setD d (.val y.1)) := rfl
@[simp ↓, simp] theorem asgV_vtup (vs : List V) : asgV e d k (.vtup vs) = bindP (e.take (.vtup vs)) fun y => k (y.2.setD d (.val y.1)) := rfl
def pickO (e : Env) (a b : Opd) : Bool → Option V
  | true => e.opd a
  | false => e.opd b
@[simp] theorem pickO_true (a b : Opd) : pickO e a b true = e.opd a := nrfl rfl
@[simp] theorem pickO_false (a b : Opd) : pickO e a b false = e.opd b := nrfl rfl
/-- Where it is not known which, but both are Booleans. -/
theorem pickO_bif (a b : Opd) (t : Bool) : pickO e a b t = bif t then e.opd a else e.opd b := by cases t <;> rfl
@[simp] theorem q_pick (c a b : Opd) : stepQ G m d (.pick c a b) k e = bindP ((e.opd c).bind asB) fun t => bindP (pickO e a b t) fun v => k (e.setD d v) := by
  simp only [stepQ]
  congr 1
  funext t
  cases t <;> rfl
@[simp] theorem q_bin (op : BinOp) (x y : Opd) : stepQ G m d (.bin op x y) k e = bindP (e.opd x) fun a => bindP (e.opd y) fun b => bindP (binV op a b) fun v => k (e.setD d v) := rfl
@[simp] theorem q_beq (neg : Bool) (x y : Opd) : stepQ G m d (.beq neg x y) k e = bindP ((e.opd x).bind asB) fun a => bindP ((e.opd y).bind asB) fun b => k (e.setD d (.val (.sc (.bool ((a == b) != neg))))) := rfl
@[simp] theorem q_isnil (neg : Bool) (x : Opd) : stepQ G m d (.isnil neg x) k e = bindP ((e.opd x).bind V.isNil) fun b => k (e.setD d (.val (.sc (.bool (b != neg))))) := rfl
@[simp] theorem q_un (op : UnOp) (x : Opd) : stepQ G m d (.un op x) k e = bindP (e.opd x) fun a => bindP (unV op a) fun v => k (e.setD d v) := rfl
@[simp] theorem q_conv (kd : IntKind) (x : Opd) : stepQ G m d (.conv kd x) k e = bindP ((e.opd x).bind asI) fun n => k (e.setD d (.val (.sc (.int kd (kd.wrap n))))) := rfl
@[simp] theorem q_len (x : Opd) : stepQ G m d (.len x) k e = bindP ((e.opd x).bind lenV) fun n => k (e.setD d (.val (.sc (.int .i64 n)))) := rfl
@[simp] theorem q_slen (x : Opd) : stepQ G m d (.slen x) k e = bindP ((e.opd x).bind slenV) fun n => k (e.setD d (.val (.sc (.int .i64 n)))) := rfl
@[simp] theorem q_idx (sz : Nat) (x i : Opd) : stepQ G m d (.idx sz x i) k e = bindP (e.opd x) fun a => bindP ((e.opd i).bind asI) fun n => bindP (idxV sz a n) fun v => k (e.setD d v) := rfl
@[simp] theorem q_fld (off : Nat) (x : Opd) : stepQ G m d (.fld off x) k e = bindP (e.opd x) fun a => bindP (e.fld off a) fun v => k (e.setD d v) := rfl
@[simp] theorem q_fldv (off : Nat) (n : Option Nat) (x : Opd) : stepQ G m d (.fldv off n x) k e = bindP (e.opd x) fun a => bindP (fldvV off n a) fun v => k (e.setD d v) := rfl
@[simp] theorem q_ld (n : Option Nat) (a : Opd) : stepQ G m d (.ld n a) k e = bindP (e.opd a) fun a => bindP (e.ld n a) fun v => k (e.setD d v) := rfl
def stT (n : Option Nat) (k : Env → Prop) (e : Env) (r : Nat) (p : List Nat) (off : Nat) (t : T) : Option T → Prop
  | some (.mem .own _ ts) => (t.cells.length = n.getD 1 ∧ off + t.cells.length ≤ ts.length ∧ t.cells.all T.isCell = true) ∧ k (e.puts r p off t.cells)
  | _ => False
def stV (n : Option Nat) (k : Env → Prop) (e : Env) (t : T) : V → Prop
  | .pref r p off => stT n k e r p off t (e.tree r p)
  | _ => False
@[simp] theorem q_st (n : Option Nat) (a x : Opd) : stepQ G m d (.st n a x) k e = bindP (e.opd a) fun a => bindP (e.opd x) fun v => bindP (e.take v) fun y => stV n k y.2 y.1 a := by
  unfold stepQ stV stT
  rfl
@[simp ↓, simp] theorem stV_pref (n : Option Nat) (t : T) (r : Nat) (p : List Nat) (off : Nat) : stV n k e t (.pref r p off) = stT n k e r p off t (e.tree r p) := rfl
@[simp ↓, simp] theorem stT_own (n : Option Nat) (r : Nat) (p : List Nat) (off : Nat) (t : T) (s : Option Nat) (ts : List T) : stT n k e r p off t (some (.mem .own s ts)) = ((t.cells.length = n.getD 1 ∧ off + t.cells.length ≤ ts.length ∧ t.cells.all T.isCell = true) ∧ k (e.puts r p off t.cells)) := rfl
@[congr] theorem stT_congr {n : Option Nat} {k : Env → Prop} {e : Env} {r : Nat} {p : List Nat} {off : Nat} {t : T} {o o' : Option T} (h : o = o') : stT n k e r p off t o = stT n k e r p off t o' := by rw [h]
def stsT (k : Env → Prop) (e : Env) (r : Nat) (p : List Nat) (off : Nat) (z : Value) : Option T → Prop
  | some (.mem .own _ ts) => off < ts.length ∧ k (e.setTree r (p ++ [off]) (.sc z))
  | _ => False
def stsV (k : Env → Prop) (e : Env) : V → V → Prop
  | .pref r p off, .val (.sc z) => stsT k e r p off z (e.tree r p)
  | _, _ => False
@[simp] theorem q_sts (a x : Opd) : stepQ G m d (.sts a x) k e = bindP (e.opd a) fun a => bindP (e.opd x) fun v => stsV k e a v := by
  unfold stepQ stsV stsT
  rfl
@[simp ↓, simp] theorem stsV_pref (r : Nat) (p : List Nat) (off : Nat) (z : Value) : stsV k e (.pref r p off) (.val (.sc z)) = stsT k e r p off z (e.tree r p) := rfl
@[simp ↓, simp] theorem stsT_own (r : Nat) (p : List Nat) (off : Nat) (z : Value) (s : Option Nat) (ts : List T) : stsT k e r p off z (some (.mem .own s ts)) = (off < ts.length ∧ k (e.setTree r (p ++ [off]) (.sc z))) := rfl
@[congr] theorem stsT_congr {k : Env → Prop} {e : Env} {r : Nat} {p : List Nat} {off : Nat} {z : Value} {o o' : Option T} (h : o = o') : stsT k e r p off z o = stsT k e r p off z o' := by rw [h]
def nilckV (d : Option Nat) (k : Env → Prop) (e : Env) : V → Prop
  | .pref r p o => k (e.setD d (.pref r p o))
  | .val (.mem kk none ts) => k (e.setD d (.val (.mem kk none ts)))
  | _ => False
@[simp] theorem q_nilck (x : Opd) : stepQ G m d (.nilck x) k e = bindP (e.opd x) (nilckV d k e) := by
  unfold stepQ nilckV
  rfl
@[simp ↓, simp] theorem nilckV_pref (r : Nat) (p : List Nat) (o : Nat) : nilckV d k e (.pref r p o) = k (e.setD d (.pref r p o)) := rfl
@[simp ↓, simp] theorem nilckV_mem (kk : K) (ts : List T) : nilckV d k e (.val (.mem kk none ts)) = k (e.setD d (.val (.mem kk none ts))) := rfl
@[simp] theorem q_alloc (zs : List Value) : stepQ G m d (.alloc zs) k e = k (e.setD d (.val (.mem .own none (zs.map .sc)))) := rfl
@[simp] theorem q_box (x : Opd) : stepQ G m d (.box x) k e = bindP (e.opd x) fun v => bindP (e.take v) fun y => y.1.cells.all T.isCell = true ∧ k (y.2.setD d (.val (.mem .own none y.1.cells))) := rfl
@[simp] theorem q_build (zs : List Value) (ps : List (Nat × Nat × Opd)) : stepQ G m d (.build zs ps) k e = bindP (e.parts ps) fun ps => bindP (fillV (zs.map fun z => .val (.sc z)) ps) fun vs => k (e.setD d (.vagg vs)) := rfl
@[simp] theorem q_mks (z : Value) (n : Opd) : stepQ G m d (.mks z n) k e = bindP ((e.opd n).bind asI) fun n => (0 ≤ n ∧ n ≤ (roomy : Int)) ∧ k (e.setD d (.val (.mem .own (some 1) (List.replicate n.toNat (.sc z))))) := rfl
@[simp] theorem q_bsl (ps : List Opd) : stepQ G m d (.bsl ps) k e = bindP (e.opds ps) fun vs => bindP (e.takeL vs) fun y => y.1.all T.isCell = true ∧ k (y.2.setD d (.val (.mem .own (some 1) y.1))) := rfl
def appT (sz : Nat) (d : Option Nat) (k : Env → Prop) (e : Env) (us : List T) : Option (List T) → Prop
  | none => (us = [] → k (e.setD d (.val (.sc (.slice none 0 0))))) ∧ (us ≠ [] → k (e.setD d (.val (.mem .own (some sz) us))))
  | some ts => k (e.setD d (.val (.mem .own (some sz) (ts ++ us))))
@[simp] theorem q_app (mv : Bool) (sz : Nat) (x y : Opd) : stepQ G m d (.app mv sz x y) k e = bindP (e.opd x) fun a => bindP (e.opd y) fun b => bindP (e.base sz a) fun z => bindP (z.2.src mv sz b) fun u =>
      ((z.1.getD []).length + u.1.length ≤ roomy ∧ u.1.all T.isCell = true) ∧ appT sz d k u.2 u.1 z.1 := by
  unfold stepQ appT
  rfl
@[simp ↓, simp] theorem appT_some (sz : Nat) (us ts : List T) : appT sz d k e us (some ts) = k (e.setD d (.val (.mem .own (some sz) (ts ++ us)))) := rfl
@[simp ↓, simp] theorem appT_none (sz : Nat) (us : List T) : appT sz d k e us none = ((us = [] → k (e.setD d (.val (.sc (.slice none 0 0))))) ∧ (us ≠ [] → k (e.setD d (.val (.mem .own (some sz) us))))) := rfl
@[simp] theorem q_sl (sz : Nat) (x : Opd) (lo hi : Option Opd) : stepQ G m d (.sl sz x lo hi) k e = bindP (e.opd x) fun a => bindP (e.optI lo) fun l => bindP (e.optI hi) fun h => bindP (slV sz a l h) fun v => k (e.setD d v) := rfl
@[simp] theorem q_ext (x : Opd) (i : Nat) : stepQ G m d (.ext x i) k e = bindP (e.opd x) fun a => bindP (extV i a) fun v => k (e.setD d v) := rfl
@[simp] theorem q_fnc (f : Nat) (cs : List Opd) : stepQ G m d (.fnc f cs) k e = bindP (Env.caps m e cs) fun y => k (y.2.setD d (.val (.fn f y.1))) := rfl
/-- A call: the callee's arguments, and what follows its result. -/
def callP (G : Rl) (d : Option Nat) (k : Env → Prop) (e : Env) (args : List (Opd × Mode)) (id : Nat) (caps : List T) (ts : List T) : Prop :=
  ∃ ts' r, G id (ts ++ T.eryL .old caps) (ts' ++ T.eryL .old caps) r ∧ ts'.length = ts.length ∧ (e.lends args = true → r.noOld = true ∧ args.all (fun x => x.2 == .r) = true) ∧ bindP (e.back args ts') fun e' => k (e'.setD d (.val r))
def callV (G : Rl) (d : Option Nat) (k : Env → Prop) (e : Env) (args : List (Opd × Mode)) : V → Prop
  | .val (.fn id caps) => bindP (e.args args) (callP G d k e args id caps)
  | _ => False
@[simp] theorem q_call (f : Opd) (args : List (Opd × Mode)) : stepQ G m d (.call f args) k e = bindP (e.opd f) (callV G d k e args) := by
  unfold stepQ callV
  rfl
@[simp ↓, simp] theorem callV_fn (args : List (Opd × Mode)) (id : Nat) (caps : List T) : callV G d k e args (.val (.fn id caps)) = bindP (e.args args) (callP G d k e args id caps) := rfl
@[congr] theorem callP_congr {G : Rl} {d : Option Nat} {k : Env → Prop} {e : Env} {args : List (Opd × Mode)} {id : Nat} {caps ts ts' : List T} (h : ts = ts') : callP G d k e args id caps ts = callP G d k e args id caps ts' := by rw [h]
/-- A call that is handed own memory. -/
def callmP (G : Rl) (d : Option Nat) (k : Env → Prop) (e : Env) (gs : List Bool) (ks : List Nat) (id : Nat) (caps : List T) (vs : List V) (y : List T × Env) : Prop :=
  y.2.holes vs gs = true ∧ ∃ ts' r, G id (T.lendL y.1 ++ T.eryL .old caps) (ts' ++ T.eryL .old caps) r ∧ ts'.length = y.1.length ∧
    bindP (y.2.gives vs gs ts') fun e2 => bindP (e.revive y.2 e2 vs gs ks) fun e3 => k (e3.setD d (.val r))
def callmW (G : Rl) (d : Option Nat) (k : Env → Prop) (e : Env) (gs : List Bool) (ks : List Nat) (id : Nat) (caps : List T) (vs : List V) : Prop :=
  e.wholes vs gs = true ∧ bindP (e.takeL vs) (callmP G d k e gs ks id caps vs)
def callmV (G : Rl) (d : Option Nat) (k : Env → Prop) (e : Env) (args : List (Opd × Bool)) (ks : List Nat) : V → Prop
  | .val (.fn id caps) => bindP (e.opds (args.map (·.1))) (callmW G d k e (args.map (·.2)) ks id caps)
  | _ => False
@[simp] theorem q_callm (f : Opd) (args : List (Opd × Bool)) (ks : List Nat) : stepQ G m d (.callm f args ks) k e = bindP (e.opd f) (callmV G d k e args ks) := by
  unfold stepQ callmV callmW callmP
  rfl
@[simp ↓, simp] theorem callmV_fn (args : List (Opd × Bool)) (ks : List Nat) (id : Nat) (caps : List T) : callmV G d k e args ks (.val (.fn id caps)) = bindP (e.opds (args.map (·.1))) (callmW G d k e (args.map (·.2)) ks id caps) := rfl
@[simp ↓, simp] theorem callmW_eq (gs : List Bool) (ks : List Nat) (id : Nat) (caps : List T) (vs : List V) : callmW G d k e gs ks id caps vs = (e.wholes vs gs = true ∧ bindP (e.takeL vs) (callmP G d k e gs ks id caps vs)) := rfl
@[congr] theorem callmP_congr {G : Rl} {d : Option Nat} {k : Env → Prop} {e : Env} {gs : List Bool} {ks : List Nat} {id : Nat} {caps : List T} {vs : List V} {y y' : List T × Env} (h : y = y') : callmP G d k e gs ks id caps vs y = callmP G d k e gs ks id caps vs y' := by rw [h]
def wholeT (sz len : Nat) : Option T → Bool
  | some (.mem _ _ ts) => len * sz == ts.length
  | _ => false
@[simp] theorem wholeT_mem (sz len : Nat) (kk : K) (s : Option Nat) (ts : List T) : wholeT sz len (some (.mem kk s ts)) = (len * sz == ts.length) := rfl
@[simp] theorem whole_val (t : T) : e.whole (.val t) = true := rfl
@[simp] theorem whole_sref (r : Nat) (p : List Nat) (sz off len : Nat) : e.whole (.sref r p sz off len) = (off == 0 && wholeT sz len (e.tree r p)) := by
  unfold Env.whole wholeT
  rfl
@[simp] theorem whole_vagg (vs : List V) : e.whole (.vagg vs) = e.wholeL vs := rfl
@[simp] theorem wholeL_nil : e.wholeL [] = true := rfl
@[simp] theorem wholeL_cons (v : V) (vs : List V) : e.wholeL (v :: vs) = (e.whole v && e.wholeL vs) := rfl
@[simp] theorem wholes_nil (gs : List Bool) : e.wholes [] gs = true := by cases gs <;> rfl
@[simp] theorem wholes_cons (v : V) (vs : List V) (g : Bool) (gs : List Bool) : e.wholes (v :: vs) (g :: gs) = ((!g || e.whole v) && e.wholes vs gs) := rfl
def holeT : Option T → Bool
  | some .gone => true
  | _ => false
@[simp] theorem holeT_gone : holeT (some .gone) = true := rfl
@[simp] theorem isHole_nil (r : Nat) : e.isHole r [] = true := rfl
@[simp] theorem isHole_cons (r i : Nat) (p : List Nat) : e.isHole r (i :: p) = holeT (e.tree r (i :: p)) := by
  unfold Env.isHole holeT
  rfl
@[simp] theorem hole_val (t : T) : e.hole (.val t) = true := rfl
@[simp] theorem hole_sref (r : Nat) (p : List Nat) (sz off len : Nat) : e.hole (.sref r p sz off len) = e.isHole r p := rfl
@[simp] theorem hole_vagg (vs : List V) : e.hole (.vagg vs) = e.holeL vs := rfl
@[simp] theorem holeL_nil : e.holeL [] = true := rfl
@[simp] theorem holeL_cons (v : V) (vs : List V) : e.holeL (v :: vs) = (e.hole v && e.holeL vs) := rfl
@[simp] theorem holes_nil (gs : List Bool) : e.holes [] gs = true := by cases gs <;> rfl
@[simp] theorem holes_cons (v : V) (vs : List V) (g : Bool) (gs : List Bool) : e.holes (v :: vs) (g :: gs) = ((!g || e.hole v) && e.holes vs gs) := rfl
def back0 (e : Env) (r : Nat) (t : T) : Option V → Option Env
  | none => some (e.put r (.val t))
  | some _ => none
@[simp] theorem back0_none (r : Nat) (t : T) : back0 e r t none = some (e.put r (.val t)) := nrfl rfl
def back2 (e : Env) (r : Nat) (p : List Nat) (t : T) : Option T → Option Env
  | some .gone => some (e.setTree r p t)
  | _ => none
@[simp] theorem back2_gone (r : Nat) (p : List Nat) (t : T) : back2 e r p t (some .gone) = some (e.setTree r p t) := nrfl rfl
@[simp] theorem back1_nil (r : Nat) (t : T) : e.back1 r [] t = back0 e r t (e r) := by
  unfold Env.back1 back0
  rfl
@[simp] theorem back1_cons (r i : Nat) (p : List Nat) (t : T) : e.back1 r (i :: p) t = back2 e r (i :: p) t (e.tree r (i :: p)) := by
  unfold Env.back1 back2
  rfl
@[simp] theorem give_val (t t' : T) : e.give (.val t) t' = some e := by cases t' <;> rfl
@[simp] theorem give_sref (r : Nat) (p : List Nat) (sz off len : Nat) (t : T) : e.give (.sref r p sz off len) t = e.back1 r p t := by cases t <;> rfl
@[simp] theorem give_vagg (vs : List V) (ts : List T) : e.give (.vagg vs) (.agg ts) = e.giveL vs ts := nrfl rfl
@[simp] theorem giveL_nil (ts : List T) : e.giveL [] ts = some e := by cases ts <;> rfl
@[simp] theorem giveL_cons (v : V) (vs : List V) (t : T) (ts : List T) : e.giveL (v :: vs) (t :: ts) = (e.give v t).bind fun e' => e'.giveL vs ts := nrfl rfl
@[simp] theorem gives_nil : e.gives [] [] [] = some e := nrfl rfl
@[simp] theorem gives_cons (v : V) (vs : List V) (g : Bool) (gs : List Bool) (t : T) (ts : List T) : e.gives (v :: vs) (g :: gs) (t :: ts) = if g then (e.give v t).bind fun e' => e'.gives vs gs ts else e.gives vs gs ts := nrfl rfl
@[simp] theorem revive_nil (e0 e1 : Env) (vs : List V) (gs : List Bool) : Env.revive e0 e1 e vs gs [] = some e := nrfl rfl
def revV (e0 e1 e : Env) (vs : List V) (gs : List Bool) (s : Nat) (ks : List Nat) : Option V → Option V → Option Env
  | some x, none => if Env.again e1 e vs gs x then Env.revive e0 e1 (e.put s x) vs gs ks else none
  | _, _ => none
@[simp] theorem revive_cons (e0 e1 : Env) (vs : List V) (gs : List Bool) (s : Nat) (ks : List Nat) : Env.revive e0 e1 e vs gs (s :: ks) = revV e0 e1 e vs gs s ks (e0 s) (e s) := by
  unfold revV
  rfl
@[simp] theorem revV_some (e0 e1 : Env) (vs : List V) (gs : List Bool) (s : Nat) (ks : List Nat) (x : V) : revV e0 e1 e vs gs s ks (some x) none = if Env.again e1 e vs gs x then Env.revive e0 e1 (e.put s x) vs gs ks else none := nrfl rfl
def againT (sz off len : Nat) : Option T → Bool
  | some (.mem .own (some sz') ts) => sz' == sz && decide ((off + len) * sz ≤ ts.length)
  | _ => false
@[simp] theorem againT_own (sz off len sz' : Nat) (ts : List T) : againT sz off len (some (.mem .own (some sz') ts)) = (sz' == sz && decide ((off + len) * sz ≤ ts.length)) := rfl
@[simp] theorem again_sref (e1 : Env) (vs : List V) (gs : List Bool) (r : Nat) (p : List Nat) (sz off len : Nat) : Env.again e1 e vs gs (.sref r p sz off len) = ((leafOf vs gs r p sz off len || (e1.tree r p).isSome) && againT sz off len (e.tree r p)) := by
  unfold Env.again againT
  rfl
@[simp] theorem again_vagg (e1 : Env) (vs : List V) (gs : List Bool) (us : List V) : Env.again e1 e vs gs (.vagg us) = Env.againL e1 e vs gs us := rfl
@[simp] theorem againL_nil (e1 : Env) (vs : List V) (gs : List Bool) : Env.againL e1 e vs gs [] = true := rfl
@[simp] theorem againL_cons (e1 : Env) (vs : List V) (gs : List Bool) (v : V) (us : List V) : Env.againL e1 e vs gs (v :: us) = (Env.again e1 e vs gs v && Env.againL e1 e vs gs us) := rfl
@[simp] theorem leafOf_nil (gs : List Bool) (r : Nat) (p : List Nat) (sz off len : Nat) : leafOf [] gs r p sz off len = false := by cases gs <;> rfl
@[simp] theorem leafOf_cons (v : V) (vs : List V) (g : Bool) (gs : List Bool) (r : Nat) (p : List Nat) (sz off len : Nat) : leafOf (v :: vs) (g :: gs) r p sz off len = ((g && v.hasLeaf r p sz off len) || leafOf vs gs r p sz off len) := rfl
@[simp] theorem hasLeaf_sref (r : Nat) (p : List Nat) (sz off len r' : Nat) (p' : List Nat) (sz' off' len' : Nat) : (V.sref r' p' sz' off' len').hasLeaf r p sz off len = (r == r' && p == p' && sz == sz' && off == off' && len == len') := rfl
@[simp] theorem hasLeaf_val (r : Nat) (p : List Nat) (sz off len : Nat) (t : T) : (V.val t).hasLeaf r p sz off len = false := rfl
@[simp] theorem hasLeaf_vagg (r : Nat) (p : List Nat) (sz off len : Nat) (vs : List V) : (V.vagg vs).hasLeaf r p sz off len = V.hasLeafL r p sz off len vs := rfl
@[simp] theorem hasLeafL_nil (r : Nat) (p : List Nat) (sz off len : Nat) : V.hasLeafL r p sz off len [] = false := rfl
@[simp] theorem hasLeafL_cons (r : Nat) (p : List Nat) (sz off len : Nat) (v : V) (vs : List V) : V.hasLeafL r p sz off len (v :: vs) = (v.hasLeaf r p sz off len || V.hasLeafL r p sz off len vs) := rfl
@[simp] theorem settle_fr (l : List (Nat × Option V)) (s : Nat) : (fr l).settle s = (fr l s).bind fun v => ((fr l).take v).map fun y => y.2.put s (.val y.1) := nrfl rfl
@[simp] theorem q_freeze (s : Nat) : stepQ G m d (.freeze s) k e = bindP (e.freeze m s) fun e' => k e' := rfl
@[simp] theorem q_settle (s : Nat) : stepQ G m d (.settle s) k e = bindP (e.settle s) fun e' => k e' := rfl
def frzV (l : List (Nat × Option V)) (kk : K) (s : Nat) : Option V → Option Env
  | some (.val t) => some (fr ((s, some (.val (t.frz kk))) :: killL s [] l))
  | _ => none
@[simp] theorem frzV_val (l : List (Nat × Option V)) (kk : K) (s : Nat) (t : T) : frzV l kk s (some (.val t)) = some (fr ((s, some (.val (t.frz kk))) :: killL s [] l)) := nrfl rfl
@[simp] theorem freeze_fr (l : List (Nat × Option V)) (kk : K) (s : Nat) : (fr l).freeze kk s = frzV l kk s (fr l s) := by
  unfold Env.freeze frzV
  cases fr l s with
  | none => rfl
  | some v =>
    cases v with
    | val t =>
      simp only [Option.some.injEq]
      funext x
      by_cases h : x = s
      · subst h; simp
      · simp only [if_neg h, fr_cons, if_neg (Ne.symm h), kill_fr]
    | _ => rfl
@[simp] theorem frz_sc (kk : K) (v : Value) : (T.sc v).frz kk = .sc v := rfl
@[simp] theorem frz_own (kk : K) (s : Option Nat) (ts : List T) : (T.mem .own s ts).frz kk = .mem kk s (T.frzL kk ts) := rfl
@[simp] theorem frz_old (kk : K) (s : Option Nat) (ts : List T) : (T.mem .old s ts).frz kk = .mem .old s (T.frzL kk ts) := rfl
@[simp] theorem frz_fresh (kk : K) (s : Option Nat) (ts : List T) : (T.mem .fresh s ts).frz kk = .mem .fresh s (T.frzL kk ts) := rfl
@[simp] theorem frz_fn (kk : K) (f : Nat) (cs : List T) : (T.fn f cs).frz kk = .fn f cs := rfl
@[simp] theorem frz_agg (kk : K) (ts : List T) : (T.agg ts).frz kk = .agg (T.frzL kk ts) := rfl
@[simp] theorem frzL_nil (kk : K) : T.frzL kk [] = [] := rfl
@[simp] theorem frzL_cons (kk : K) (t : T) (ts : List T) : T.frzL kk (t :: ts) = t.frz kk :: T.frzL kk ts := rfl
@[simp] theorem caps_nil (kk : K) : Env.caps kk e [] = some ([], e) := nrfl rfl
def capF (kk : K) (xs : List Opd) (e' : Env) : Option V → Option (List T × Env)
  | some (.val (.mem k' none us)) => (Env.caps kk e' xs).map fun y => (.mem k' none us :: y.1, y.2)
  | _ => none
def capV (kk : K) (e : Env) (xs : List Opd) : V → Option (List T × Env)
  | .val (.mem k' none ts) => if k' ≠ .own ∧ T.noOwnL ts then ((Env.caps kk e xs).map fun y => (T.mem k' none ts :: y.1, y.2)) else none
  | .pref r [] 0 => (e.freeze kk r).bind fun e' => capF kk xs e' (e' r)
  | _ => none
@[simp] theorem caps_cons (kk : K) (x : Opd) (xs : List Opd) : Env.caps kk e (x :: xs) = (e.opd x).bind (capV kk e xs) := by
  rw [Env.caps]
  congr 1
@[simp] theorem capV_pref (kk : K) (xs : List Opd) (r : Nat) : capV kk e xs (.pref r [] 0) = (e.freeze kk r).bind fun e' => capF kk xs e' (e' r) := nrfl rfl
@[simp] theorem capV_old (kk : K) (xs : List Opd) (ts : List T) : capV kk e xs (.val (.mem .old none ts)) = if T.noOwnL ts = true then ((Env.caps kk e xs).map fun y => (T.mem .old none ts :: y.1, y.2)) else none := by simp [capV]
@[simp] theorem capV_fresh (kk : K) (xs : List Opd) (ts : List T) : capV kk e xs (.val (.mem .fresh none ts)) = if T.noOwnL ts = true then ((Env.caps kk e xs).map fun y => (T.mem .fresh none ts :: y.1, y.2)) else none := by simp [capV]
@[simp] theorem capF_mem (kk : K) (xs : List Opd) (e' : Env) (k' : K) (us : List T) : capF kk xs e' (some (.val (.mem k' none us))) = (Env.caps kk e' xs).map fun y => (.mem k' none us :: y.1, y.2) := nrfl rfl
def boxkV (s : Nat) (k : Env → Prop) (e : Env) : V → Option Nat → Prop
  | .val (.agg ts), some d => (s ≠ d ∧ ts.all T.isCell = true) ∧ k (((e.del s).put d (.val (.mem .own none ts))).put s (.vagg (T.peekL d [] 0 ts)))
  | _, _ => False
@[simp] theorem q_boxk (s : Nat) : stepQ G m d (.boxk s) k e = bindP (frAt e s) fun v => boxkV s k e v d := by
  unfold stepQ boxkV frAt
  rfl
@[simp ↓, simp] theorem boxkV_agg (s d : Nat) (ts : List T) : boxkV s k e (.val (.agg ts)) (some d) = ((s ≠ d ∧ ts.all T.isCell = true) ∧ k (((e.del s).put d (.val (.mem .own none ts))).put s (.vagg (T.peekL d [] 0 ts)))) := rfl
end

@[congr] theorem asgV_congr {e : Env} {d : Option Nat} {k : Env → Prop} {v v' : V} (h : v = v') : asgV e d k v = asgV e d k v' := by rw [h]
@[congr] theorem stV_congr {n : Option Nat} {k : Env → Prop} {e e' : Env} {t t' : T} {v v' : V} (h : v = v') (h2 : t = t') (h3 : e = e') : stV n k e t v = stV n k e' t' v' := by rw [h, h2, h3]
@[congr] theorem stsV_congr {k : Env → Prop} {e : Env} {v v' x x' : V} (h : v = v') (h2 : x = x') : stsV k e v x = stsV k e v' x' := by rw [h, h2]
@[congr] theorem nilckV_congr {d : Option Nat} {k : Env → Prop} {e : Env} {v v' : V} (h : v = v') : nilckV d k e v = nilckV d k e v' := by rw [h]
@[congr] theorem callV_congr {G : Rl} {d : Option Nat} {k : Env → Prop} {e : Env} {args : List (Opd × Mode)} {v v' : V} (h : v = v') : callV G d k e args v = callV G d k e args v' := by rw [h]
@[congr] theorem callmV_congr {G : Rl} {d : Option Nat} {k : Env → Prop} {e : Env} {args : List (Opd × Bool)} {ks : List Nat} {v v' : V} (h : v = v') : callmV G d k e args ks v = callmV G d k e args ks v' := by rw [h]
@[congr] theorem callmW_congr {G : Rl} {d : Option Nat} {k : Env → Prop} {e : Env} {gs gs' : List Bool} {ks : List Nat} {id : Nat} {caps : List T} {vs vs' : List V} (h : vs = vs') (h2 : gs = gs') : callmW G d k e gs ks id caps vs = callmW G d k e gs' ks id caps vs' := by rw [h, h2]
@[congr] theorem appT_congr {sz : Nat} {d : Option Nat} {k : Env → Prop} {e e' : Env} {us us' : List T} {o o' : Option (List T)} (h : o = o') (h2 : us = us') (h3 : e = e') : appT sz d k e us o = appT sz d k e' us' o' := by rw [h, h2, h3]
@[congr] theorem boxkV_congr {s : Nat} {k : Env → Prop} {e : Env} {v v' : V} {d : Option Nat} (h : v = v') : boxkV s k e v d = boxkV s k e v' d := by rw [h]

@[simp] theorem win_all (ts : List T) (n : Nat) (h : ts.length ≤ n) : win ts 0 n = ts := by simp [win, List.take_of_length_le h]
@[simp] theorem win_getElem? (ts : List T) (i n j : Nat) : (win ts i n)[j]? = if j < n then ts[i + j]? else none := by
  simp [win, List.getElem?_take, List.getElem?_drop]
@[simp] theorem noOwnL_append (a b : List T) : T.noOwnL (a ++ b) = (T.noOwnL a && T.noOwnL b) := by
  induction a with
  | nil => simp
  | cons t a ih => simp [ih, Bool.and_assoc]

abbrev I (n : Int) : T := .sc (.int .i64 n)
abbrev B (b : Bool) : T := .sc (.bool b)
/-- A slice of integers. -/
def ints (k : K) (xs : List Int) : T := .mem k (some 1) (xs.map I)
end Go.Mch
