/- An abstract machine over trees: the values, the frames, the operations and the weakest precondition of the compact code. Nothing here speaks of a heap. -/
import GoSem.Core.Code
import GoSem.Core.View
namespace Go.Mch

/-- What a piece of memory is to the function that runs: its own alone; made by it and written no more; there before. -/
inductive K where
  | own | fresh | old
  deriving DecidableEq, Repr, Inhabited

/-- A value as a tree. `mem k none ts`: a pointer to cells; `mem k (some sz) ts`: a slice whose elements have sz cells. -/
inductive T where
  | sc (v : Value)
  | gone
  | nul
  | mem (k : K) (sz : Option Nat) (ts : List T)
  | fn (f : Nat) (caps : List T)
  | agg (ts : List T)
  | tup (ts : List T)
  deriving Inhabited

mutual
def T.noOwn : T → Bool
  | .sc _ => true
  | .gone => true
  | .nul => true
  | .mem k _ ts => k != .own && T.noOwnL ts
  | .fn _ caps => T.noOwnL caps
  | .agg ts => T.noOwnL ts
  | .tup ts => T.noOwnL ts
def T.noOwnL : List T → Bool
  | [] => true
  | t :: ts => t.noOwn && T.noOwnL ts
end

mutual
/-- No memory that was there before. -/
def T.noOld : T → Bool
  | .sc _ => true
  | .gone => true
  | .nul => true
  | .mem k _ ts => k != .old && T.noOldL ts
  | .fn _ caps => T.noOldL caps
  | .agg ts => T.noOldL ts
  | .tup ts => T.noOldL ts
def T.noOldL : List T → Bool
  | [] => true
  | t :: ts => t.noOld && T.noOldL ts
end

mutual
/-- All memory turned to kind k. -/
def T.ery (k : K) : T → T
  | .sc v => .sc v
  | .gone => .gone
  | .nul => .nul
  | .mem _ s ts => .mem k s (T.eryL k ts)
  | .fn f caps => .fn f (T.eryL k caps)
  | .agg ts => .agg (T.eryL k ts)
  | .tup ts => .tup (T.eryL k ts)
def T.eryL (k : K) : List T → List T
  | [] => []
  | t :: ts => t.ery k :: T.eryL k ts
end

mutual
/-- Own memory turned to kind k, the rest as it is. -/
def T.frz (k : K) : T → T
  | .sc v => .sc v
  | .gone => .gone
  | .nul => .nul
  | .mem k' s ts => .mem (if k' = .own then k else k') s (T.frzL k ts)
  | .fn f caps => .fn f caps
  | .agg ts => .agg (T.frzL k ts)
  | .tup ts => .tup (T.frzL k ts)
def T.frzL (k : K) : List T → List T
  | [] => []
  | t :: ts => t.frz k :: T.frzL k ts
end

mutual
/-- Own memory stays own, the rest was there before. -/
def T.lend : T → T
  | .sc v => .sc v
  | .gone => .gone
  | .nul => .nul
  | .mem k s ts => .mem (if k = .own then .own else .old) s (T.lendL ts)
  | .fn f caps => .fn f (T.eryL .old caps)
  | .agg ts => .agg (T.lendL ts)
  | .tup ts => .tup (T.lendL ts)
def T.lendL : List T → List T
  | [] => []
  | t :: ts => t.lend :: T.lendL ts
end

/-- The parts of a tree into which a path may lead. -/
def T.kids : T → List T
  | .mem .own _ ts => ts
  | .agg ts => ts
  | .tup ts => ts
  | _ => []

def T.at : T → List Nat → Option T
  | t, [] => some t
  | t, i :: p => (t.kids[i]?).bind fun u => u.at p

def T.withKids (t : T) (ts : List T) : T :=
  match t with
  | .mem k s _ => .mem k s ts
  | .agg _ => .agg ts
  | .tup _ => .tup ts
  | t => t

def T.setAt : T → List Nat → T → T
  | _, [], x => x
  | t, i :: p, x => t.withKids (t.kids.set i ((t.kids.getD i .gone).setAt p x))

/-- What a slot holds: a tree (its owner, if it is own memory), or another name for memory that the tree of slot r holds at path p. -/
inductive V where
  | val (t : T)
  | sref (r : Nat) (p : List Nat) (sz off len : Nat)
  | pref (r : Nat) (p : List Nat) (off : Nat)
  | vagg (vs : List V)
  | vtup (vs : List V)
  deriving Inhabited

abbrev Env := Nat → Option V

mutual
/-- Does it name memory of slot r at path p or below? -/
def V.hits (r : Nat) (p : List Nat) : V → Bool
  | .val _ => false
  | .sref r' q _ _ _ => r == r' && p.isPrefixOf q
  | .pref r' q _ => r == r' && p.isPrefixOf q
  | .vagg vs => V.hitsL r p vs
  | .vtup vs => V.hitsL r p vs
def V.hitsL (r : Nat) (p : List Nat) : List V → Bool
  | [] => false
  | v :: vs => v.hits r p || V.hitsL r p vs
end

mutual
/-- Are all the slots that it names among these? -/
def V.inside (ks : List Nat) : V → Bool
  | .val _ => true
  | .sref r _ _ _ _ => ks.contains r
  | .pref r _ _ => ks.contains r
  | .vagg vs => V.insideL ks vs
  | .vtup vs => V.insideL ks vs
def V.insideL (ks : List Nat) : List V → Bool
  | [] => true
  | v :: vs => v.inside ks && V.insideL ks vs
end

/-- A frame written out. -/
def mk (l : List (Nat × V)) : Env := fun s => (l.find? fun x => x.1 == s).map (·.2)

def Env.kill (e : Env) (r : Nat) (p : List Nat) : Env := fun s =>
  match e s with
  | some v => if v.hits r p then none else some v
  | none => none

/-- Slot d away, and all other names of what it held. -/
def Env.del (e : Env) (d : Nat) : Env := fun s => if s = d then none else e.kill d [] s

def Env.put (e : Env) (d : Nat) (v : V) : Env := fun s => if s = d then (if v.hits d [] then none else some v) else e.kill d [] s

/-- Only these slots are kept. -/
def Env.keep (e : Env) (ks : List Nat) : Env := fun s =>
  if ks.contains s then (match e s with | some v => if v.inside ks then some v else none | none => none) else none

def softV : Option V → Option V
  | some (.val t) => if t.noOwn then some (.val t) else none
  | _ => none

/-- Slot d keeps what owns nothing; nobody else names it. -/
def Env.soft (e : Env) (d : Nat) : Env := fun s => if s = d then softV (e d) else e.kill d [] s

def Env.softs (e : Env) : List Nat → Env
  | [] => e
  | d :: ds => (e.soft d).softs ds

mutual
def T.peek (r : Nat) (p : List Nat) : T → V
  | .mem .own (some sz) ts => .sref r p sz 0 (ts.length / sz)
  | .mem .own none _ => .pref r p 0
  | .agg ts => .vagg (T.peekL r p 0 ts)
  | .tup ts => .vtup (T.peekL r p 0 ts)
  | t => .val t
def T.peekL (r : Nat) (p : List Nat) (i : Nat) : List T → List V
  | [] => []
  | t :: ts => t.peek r (p ++ [i]) :: T.peekL r p (i + 1) ts
end

def Env.peek (e : Env) (s : Nat) : Option V :=
  match e s with
  | some (.val t) => some (t.peek s [])
  | x => x

/-- The tree of slot r at path p. -/
def Env.tree (e : Env) (r : Nat) (p : List Nat) : Option T :=
  match e r with
  | some (.val t) => t.at p
  | _ => none

/-- The tree of slot r turned at path p; what else names memory there is away. -/
def Env.setTree (e : Env) (r : Nat) (p : List Nat) (x : T) : Env := fun s =>
  if s = r then (match e r with | some (.val t) => some (.val (t.setAt p x)) | _ => none) else e.kill r p s

def Env.clear (e : Env) (r : Nat) (p : List Nat) : Env :=
  match p with
  | [] => e.del r
  | i :: p => e.setTree r (i :: p) .gone

def win (ts : List T) (off n : Nat) : List T := (ts.drop off).take n

mutual
/-- The tree that a value reads as, all its memory being there before. -/
def Env.res (e : Env) : V → Option T
  | .val t => if t.noOwn then some (t.ery .old) else none
  | .sref r p sz off len =>
    match e.tree r p with
    | some (.mem .own _ ts) => if (off + len) * sz ≤ ts.length then some (.mem .old (some sz) (T.eryL .old (win ts (off * sz) (len * sz)))) else none
    | _ => none
  | .pref r p off =>
    match e.tree r p with
    | some (.mem .own _ ts) => if off ≤ ts.length then some (.mem .old none (T.eryL .old (ts.drop off))) else none
    | _ => none
  | .vagg vs => (e.resL vs).map .agg
  | .vtup vs => (e.resL vs).map .tup
def Env.resL (e : Env) : List V → Option (List T)
  | [] => some []
  | v :: vs => (e.res v).bind fun t => (e.resL vs).map fun ts => t :: ts
end

mutual
def V.lent : V → Bool
  | .val _ => false
  | .sref .. => true
  | .pref .. => true
  | .vagg vs => V.lentL vs
  | .vtup vs => V.lentL vs
def V.lentL : List V → Bool
  | [] => false
  | v :: vs => v.lent || V.lentL vs
end

mutual
/-- The tree that a value owns, taken out of the frame. -/
def Env.take (e : Env) : V → Option (T × Env)
  | .val t => if t.noOwn then some (t, e) else none
  | .sref r p sz off len =>
    match e.tree r p with
    | some (.mem .own (some sz') ts) => if sz' = sz ∧ (off + len) * sz ≤ ts.length ∧ 0 < sz then some (.mem .own (some sz) (win ts (off * sz) (len * sz)), e.clear r p) else none
    | _ => none
  | .pref r p off =>
    match e.tree r p with
    | some (.mem .own none ts) => if off = 0 then some (.mem .own none ts, e.clear r p) else none
    | _ => none
  | .vagg vs => (e.takeL vs).map fun x => (.agg x.1, x.2)
  | .vtup vs => (e.takeL vs).map fun x => (.tup x.1, x.2)
def Env.takeL (e : Env) : List V → Option (List T × Env)
  | [] => some ([], e)
  | v :: vs => (e.take v).bind fun x => (x.2.takeL vs).map fun y => (x.1 :: y.1, y.2)
end

/-- The cells that a tree has as a value of a variable. -/
def T.cells : T → List T
  | .agg ts => ts
  | t => [t]

/-- A tree that lies in one cell. -/
def T.isCell : T → Bool
  | .sc _ => true
  | .mem .. => true
  | .fn .. => true
  | _ => false

inductive Opd where
  | t (n : Nat)
  | c (v : Value)
  | f (id : Nat)
  deriving Inhabited

def Env.opd (e : Env) : Opd → Option V
  | .t n => e.peek n
  | .c v => some (.val (.sc v))
  | .f id => some (.val (.fn id []))

inductive Mode where
  | r | w | m
  deriving DecidableEq, Repr, Inhabited

/-- An operation of the compact code. -/
inductive Q where
  | mv (x : Opd)
  | asg (x : Opd)
  | pick (c a b : Opd)
  | bin (op : BinOp) (x y : Opd)
  | beq (neg : Bool) (x y : Opd)
  | isnil (neg : Bool) (x : Opd)
  | un (op : UnOp) (x : Opd)
  | conv (k : IntKind) (x : Opd)
  | len (x : Opd)
  | slen (x : Opd)
  | idx (sz : Nat) (x i : Opd)
  | at (x i : Opd)
  | fld (off : Nat) (x : Opd)
  | fldv (off : Nat) (n : Option Nat) (x : Opd)
  | ld (n : Option Nat) (a : Opd)
  | st (n : Option Nat) (a x : Opd)
  | nilck (x : Opd)
  | alloc (zs : List Value)
  | box (x : Opd)
  | build (zs : List Value) (parts : List (Nat × Nat × Opd))
  | mks (z : Value) (n : Opd)
  | bsl (parts : List Opd)
  | app (mv : Bool) (sz : Nat) (x y : Opd)
  | sl (sz : Nat) (x : Opd) (lo hi : Option Opd)
  | ext (x : Opd) (i : Nat)
  | fnc (f : Nat) (caps : List Opd)
  | call (f : Opd) (args : List (Opd × Mode))
  | freeze (s : Nat)
  /-- A move of what names whole slots. -/
  | mvw (x : Opd)
  /-- A store of a scalar. -/
  | sts (a x : Opd)
  /-- A call that is handed memory of the frame's own: what each argument owns is taken out of the frame; behind the call it is put back where the argument is marked; the slots ks keep their names of what was put back. -/
  | callm (f : Opd) (args : List (Opd × Bool)) (ks : List Nat)
  /-- The struct of slot s put into a box; slot s keeps names of the box's cells. -/
  | boxk (s : Nat)
  /-- Slot s takes what it names. -/
  | settle (s : Nat)
  deriving Inhabited

structure O where
  d : Option Nat
  g : Option (Nat × Bool)
  q : Q
  deriving Inhabited

inductive RV where
  | t (s : Nat)
  | cell (s : Nat) (n : Option Nat)
  deriving Inhabited

inductive C where
  | skip
  | region (draw : Option (List Nat)) (ops : List O) (keep : List Nat)
  | seq (a b : C)
  | cond (c : Opd) (a b : C)
  | block (id : Nat) (b : C)
  | loop (b : C)
  | exit (id : Nat)
  | ret
  deriving Inhabited

structure F where
  np : Nat
  rs : List RV
  body : C
  /-- Parameters that are never assigned to. -/
  fix : List Nat := []
  deriving Inhabited

/-- Arguments that own memory lie in parameters that are never assigned to. -/
def F.lets (fn : F) (args : List T) : Bool := (List.range args.length).all fun i => (args.getD i .gone).noOwn || fn.fix.contains i

def bindP {α : Type} (o : Option α) (f : α → Prop) : Prop := ∃ a, o = some a ∧ f a

/-- What '+', '-', '*' leave: of signed kinds only what fits. -/
def arith (k : IntKind) (n : Int) : Option Value :=
  if k = .i64 then (if -9223372036854775808 ≤ n ∧ n ≤ 9223372036854775807 then some (.int .i64 n) else none) else some (.int k (k.wrap n))

def binSc (op : BinOp) (k : IntKind) (a b : Int) : Option Value :=
  match op with
  | .add => arith k (a + b)
  | .sub => arith k (a - b)
  | .mul => arith k (a * b)
  | .quo => if b = 0 then none else arith k (a.tdiv b)
  | .rem => if b = 0 then none else some (.int k (a.tmod b))
  | .eql => some (.bool (a == b))
  | .neq => some (.bool (a != b))
  | .lss => some (.bool (a < b))
  | .leq => some (.bool (a ≤ b))
  | .gtr => some (.bool (a > b))
  | .geq => some (.bool (a ≥ b))
  | _ => none

/-- Is this slice nil? -/
def V.isNil : V → Option Bool
  | .val (.sc (.slice none 0 0)) => some true
  | .val (.sc (.slice (some _) 0 0)) => some false
  | .val (.mem _ (some _) _) => some false
  | .sref .. => some false
  | _ => none

def binV (op : BinOp) (x y : V) : Option V :=
  match x, y with
  | .val (.sc (.int k a)), .val (.sc (.int k' b)) => if k = k' then (binSc op k a b).map fun v => .val (.sc v) else none
  | _, _ => none

def unV (op : UnOp) : V → Option V
  | .val (.sc (.bool b)) => if op = .not then some (.val (.sc (.bool !b))) else none
  | .val (.sc (.int k n)) => if op = .neg then (arith k (0 - n)).map fun v => .val (.sc v) else none
  | _ => none

def lenV : V → Option Nat
  | .val (.sc (.slice none 0 0)) => some 0
  | .val (.sc (.slice (some _) 0 0)) => some 0
  | .val (.mem _ (some sz) ts) => some (ts.length / sz)
  | .sref _ _ _ _ len => some len
  | _ => none

def slenV : V → Option Nat
  | .val (.sc (.string s)) => some s.size
  | _ => none

def asI : V → Option Int
  | .val (.sc (.int _ n)) => some n
  | _ => none

def asB : V → Option Bool
  | .val (.sc (.bool b)) => some b
  | _ => none

def Env.optI (e : Env) : Option Opd → Option (Option Int)
  | none => some none
  | some i => ((e.opd i).bind asI).map some

/-- The address of element i. -/
def idxV (sz : Nat) (x : V) (i : Int) : Option V :=
  match x with
  | .val (.mem k (some sz') ts) => if sz' = sz ∧ 0 ≤ i ∧ i < ((ts.length / sz : Nat) : Int) then some (.val (.mem k none (win ts (i.toNat * sz) sz))) else none
  | .sref r p sz' off len => if sz' = sz ∧ 0 ≤ i ∧ i < (len : Int) then some (.pref r p ((off + i.toNat) * sz)) else none
  | _ => none

def Env.fld (e : Env) (off : Nat) : V → Option V
  | .val (.mem k none ts) => if off ≤ ts.length then some (.val (.mem k none (ts.drop off))) else none
  | .pref r p o =>
    match e.tree r p with
    | some (.mem .own _ ts) => if o + off ≤ ts.length then some (.pref r p (o + off)) else none
    | _ => none
  | _ => none

/-- What lies at an address: a value of one cell (none), a struct of n cells. -/
def Env.ld (e : Env) (n : Option Nat) (a : V) : Option V :=
  match a with
  | .val (.mem _ none ts) =>
    match n with
    | none => (ts[0]?).map .val
    | some n => if n ≤ ts.length then some (.vagg ((ts.take n).map .val)) else none
  | .pref r p off =>
    match e.tree r p with
    | some (.mem .own _ ts) =>
      match n with
      | none => (ts[off]?).map fun t => t.peek r (p ++ [off])
      | some n => if off + n ≤ ts.length then some (.vagg (T.peekL r p off (win ts off n))) else none
    | _ => none
  | _ => none

/-- Cells put into own memory, one after the other from off on. -/
def Env.puts (e : Env) (r : Nat) (p : List Nat) (off : Nat) : List T → Env
  | [] => e
  | t :: ts => (e.setTree r (p ++ [off]) t).puts r p (off + 1) ts

def fldvV (off : Nat) (n : Option Nat) : V → Option V
  | .vagg vs =>
    match n with
    | none => vs[off]?
    | some n => if off + n ≤ vs.length then some (.vagg ((vs.drop off).take n)) else none
  | _ => none

def extV (i : Nat) : V → Option V
  | .vtup vs => vs[i]?
  | _ => none

def slV (sz : Nat) (x : V) (lo hi : Option Int) : Option V :=
  match x with
  | .val (.mem k (some sz') ts) =>
    let l := lo.getD 0
    let h := hi.getD ((ts.length / sz : Nat) : Int)
    if sz' = sz ∧ 0 ≤ l ∧ l ≤ h ∧ h ≤ ((ts.length / sz : Nat) : Int) then some (.val (.mem k (some sz) (win ts (l.toNat * sz) ((h.toNat - l.toNat) * sz)))) else none
  | .sref r p sz' off len =>
    let l := lo.getD 0
    let h := hi.getD (len : Int)
    if sz' = sz ∧ 0 ≤ l ∧ l ≤ h ∧ h ≤ (len : Int) then some (.sref r p sz (off + l.toNat) (h.toNat - l.toNat)) else none
  | _ => none

/-- The values of parts of a struct over its zero value. -/
def fillV (vs : List V) : List (Nat × Nat × V) → Option (List V)
  | [] => some vs
  | (i, n, x) :: r =>
    match x with
    | .vagg us => if us.length = n ∧ i + n ≤ vs.length then fillV (vs.take i ++ us ++ vs.drop (i + n)) r else none
    | .vtup _ => none
    | .val (.agg _) => none
    | .val .gone => none
    | .val .nul => none
    | .val (.tup _) => none
    | x => if n = 1 ∧ i + n ≤ vs.length then fillV (vs.take i ++ [x] ++ vs.drop (i + n)) r else none

def Env.opds (e : Env) : List Opd → Option (List V)
  | [] => some []
  | x :: xs => (e.opd x).bind fun v => (e.opds xs).map fun vs => v :: vs

def Env.parts (e : Env) : List (Nat × Nat × Opd) → Option (List (Nat × Nat × V))
  | [] => some []
  | (i, n, x) :: xs => (e.opd x).bind fun v => (e.parts xs).map fun vs => (i, n, v) :: vs

/-- The cells that append copies (mv: own elements go over, their row is given up). -/
def Env.src (e : Env) (mv : Bool) (sz : Nat) (y : V) : Option (List T × Env) :=
  match y with
  | .val (.sc (.slice none 0 0)) => some ([], e)
  | .val (.mem k (some sz') ts) => if k ≠ .own ∧ sz' = sz ∧ T.noOwnL ts ∧ ts.length % sz = 0 then some (ts, e) else none
  | .sref r p sz' off len =>
    match e.tree r p with
    | some (.mem .own (some _) ts) =>
      if sz' = sz ∧ (off + len) * sz ≤ ts.length then
        (if mv then (if p = [] then some (win ts (off * sz) (len * sz), e.del r) else none)
         else if T.noOwnL (win ts (off * sz) (len * sz)) then some (win ts (off * sz) (len * sz), e) else none)
      else none
    | _ => none
  | _ => none

/-- The row to which append adds, taken out of the frame: its cells. -/
def Env.base (e : Env) (sz : Nat) (x : V) : Option (Option (List T) × Env) :=
  match x with
  | .val (.sc (.slice none 0 0)) => some (none, e)
  | .sref .. =>
    match e.take x with
    | some (.mem .own (some sz') ts, e') => if sz' = sz then some (some ts, e') else none
    | _ => none
  | _ => none

/-- An upper bound of what an append may make, in cells. -/
def roomy : Nat := 4294967296

/-- The trees that are handed to a callee. -/
def Env.args (e : Env) : List (Opd × Mode) → Option (List T)
  | [] => some []
  | (x, .r) :: xs => (e.opd x).bind fun v => (e.res v).bind fun t => (e.args xs).map fun ts => t :: ts
  | (x, _) :: xs => (e.opd x).bind fun v =>
    (match v with
     | .sref r p sz off len =>
       match e.tree r p with
       | some (.mem .own (some sz') ts) => if sz' = sz ∧ off = 0 ∧ len * sz = ts.length ∧ 0 < sz then some (T.mem .own (some sz) (T.lendL ts)) else none
       | _ => none
     | .pref r p off =>
       match e.tree r p with
       | some (.mem .own none ts) => if off = 0 then some (T.mem .own none (T.lendL ts)) else none
       | _ => none
     | _ => none).bind fun t => (e.args xs).map fun ts => t :: ts

/-- Is memory of the frame's own lent to the callee to read? -/
def Env.lends (e : Env) : List (Opd × Mode) → Bool
  | [] => false
  | (x, .r) :: xs => (match e.opd x with | some v => v.lent | none => true) || e.lends xs
  | _ :: xs => e.lends xs

/-- The frame behind a call: what was handed on to be written reads anew, what was given away is away. -/
def Env.back (e : Env) : List (Opd × Mode) → List T → Option Env
  | [], [] => some e
  | (_, .r) :: xs, _ :: ts => e.back xs ts
  | (x, .w) :: xs, t :: ts =>
    (e.opd x).bind fun v => (match v with | .sref r p _ _ _ => some (r, p) | .pref r p _ => some (r, p) | _ => none).bind fun rp =>
      (match e.tree rp.1 rp.2, t with
       | some (.mem .own s us), .mem .own s' us' => if s = s' ∧ us.length = us'.length then some () else none
       | _, _ => none).bind fun _ => (e.setTree rp.1 rp.2 t).back xs ts
  | (x, .m) :: xs, _ :: ts =>
    (e.opd x).bind fun v => (match v with | .sref r p _ _ _ => some (r, p) | .pref r p _ => some (r, p) | _ => none).bind fun rp => (e.clear rp.1 rp.2).back xs ts
  | _, _ => none

/-- A tree put back where it was taken. -/
def Env.back1 (e : Env) (r : Nat) (p : List Nat) (t : T) : Option Env :=
  match p with
  | [] => match e r with | none => some (e.put r (.val t)) | some _ => none
  | i :: p => match e.tree r (i :: p) with | some .gone => some (e.setTree r (i :: p) t) | _ => none

mutual
/-- What a value named, put back. -/
def Env.give (e : Env) : V → T → Option Env
  | .val _, _ => some e
  | .sref r p _ _ _, t => e.back1 r p t
  | .pref r p _, t => e.back1 r p t
  | .vagg vs, .agg ts => e.giveL vs ts
  | _, _ => none
def Env.giveL (e : Env) : List V → List T → Option Env
  | [], _ => some e
  | v :: vs, t :: ts => (e.give v t).bind fun e' => e'.giveL vs ts
  | _ :: _, [] => none
end

def Env.gives (e : Env) : List V → List Bool → List T → Option Env
  | v :: vs, g :: gs, t :: ts => if g then (e.give v t).bind fun e' => e'.gives vs gs ts else e.gives vs gs ts
  | [], [], [] => some e
  | _, _, _ => none

mutual
/-- Does it name whole pieces of memory only? -/
def Env.whole (e : Env) : V → Bool
  | .val _ => true
  | .sref r p sz off len => off == 0 && (match e.tree r p with | some (.mem _ _ ts) => len * sz == ts.length | _ => false)
  | .pref r p off => off == 0 && (match e.tree r p with | some (.mem _ none _) => true | _ => false)
  | .vagg vs => e.wholeL vs
  | .vtup _ => false
def Env.wholeL (e : Env) : List V → Bool
  | [] => true
  | v :: vs => e.whole v && e.wholeL vs
end

def Env.wholes (e : Env) : List V → List Bool → Bool
  | v :: vs, g :: gs => (!g || e.whole v) && e.wholes vs gs
  | _, _ => true

def Env.isHole (e : Env) (r : Nat) (p : List Nat) : Bool :=
  match p with
  | [] => true
  | i :: p => match e.tree r (i :: p) with | some .gone => true | _ => false

mutual
/-- Is what it named away? -/
def Env.hole (e : Env) : V → Bool
  | .val _ => true
  | .sref r p _ _ _ => e.isHole r p
  | .pref r p _ => e.isHole r p
  | .vagg vs => e.holeL vs
  | .vtup _ => false
def Env.holeL (e : Env) : List V → Bool
  | [] => true
  | v :: vs => e.hole v && e.holeL vs
end

def Env.holes (e : Env) : List V → List Bool → Bool
  | v :: vs, g :: gs => (!g || e.hole v) && e.holes vs gs
  | _, _ => true

mutual
/-- Is this name one of the value's? -/
def V.hasLeaf (r : Nat) (p : List Nat) (sz off len : Nat) : V → Bool
  | .sref r' p' sz' off' len' => r == r' && p == p' && sz == sz' && off == off' && len == len'
  | .vagg vs => V.hasLeafL r p sz off len vs
  | _ => false
def V.hasLeafL (r : Nat) (p : List Nat) (sz off len : Nat) : List V → Bool
  | [] => false
  | v :: vs => v.hasLeaf r p sz off len || V.hasLeafL r p sz off len vs
end

def leafOf : List V → List Bool → Nat → List Nat → Nat → Nat → Nat → Bool
  | v :: vs, g :: gs, r, p, sz, off, len => (g && v.hasLeaf r p sz off len) || leafOf vs gs r p sz off len
  | _, _, _, _, _, _, _ => false

mutual
/-- Does it name only what was put back or not taken, which is there as long as before? -/
def Env.again (e1 e : Env) (vs : List V) (gs : List Bool) : V → Bool
  | .sref r p sz off len => (leafOf vs gs r p sz off len || (e1.tree r p).isSome) && (match e.tree r p with | some (.mem .own (some sz') ts) => sz' == sz && decide ((off + len) * sz ≤ ts.length) | _ => false)
  | .vagg us => Env.againL e1 e vs gs us
  | _ => false
def Env.againL (e1 e : Env) (vs : List V) (gs : List Bool) : List V → Bool
  | [] => true
  | x :: xs => Env.again e1 e vs gs x && Env.againL e1 e vs gs xs
end

def Env.revive (e0 e1 e : Env) (vs : List V) (gs : List Bool) : List Nat → Option Env
  | [] => some e
  | s :: ks =>
    match e0 s, e s with
    | some x, none => if Env.again e1 e vs gs x then Env.revive e0 e1 (e.put s x) vs gs ks else none
    | _, _ => none

def Env.settle (e : Env) (s : Nat) : Option Env :=
  (e s).bind fun v => (e.take v).map fun y => y.2.put s (.val y.1)

def Env.freeze (e : Env) (k : K) (s : Nat) : Option Env :=
  match e s with
  | some (.val t) => some (fun x => if x = s then some (.val (t.frz k)) else e.kill s [] x)
  | _ => none

/-- The captured variables of a closure: each a pointer; own ones are frozen. -/
def Env.caps (k : K) : Env → List Opd → Option (List T × Env)
  | e, [] => some ([], e)
  | e, x :: xs =>
    (e.opd x).bind fun v =>
      match v with
      | .val (.mem k' none ts) => if k' ≠ .own ∧ T.noOwnL ts then ((Env.caps k e xs).map fun y => (T.mem k' none ts :: y.1, y.2)) else none
      | .pref r [] 0 =>
        (e.freeze k r).bind fun e' =>
          match e' r with
          | some (.val (.mem k' none us)) => (Env.caps k e' xs).map fun y => (.mem k' none us :: y.1, y.2)
          | _ => none
      | _ => none

mutual
/-- Does it name whole slots only? -/
def V.rootly : V → Bool
  | .val t => t.noOwn
  | .sref _ p _ _ _ => p.isEmpty
  | .pref _ p _ => p.isEmpty
  | .vagg vs => V.rootlyL vs
  | .vtup vs => V.rootlyL vs
def V.rootlyL : List V → Bool
  | [] => true
  | v :: vs => v.rootly && V.rootlyL vs
end

def Env.setD (e : Env) (d : Option Nat) (v : V) : Env :=
  match d with
  | some d => e.put d v
  | none => e

abbrev Rl := Nat → List T → List T → T → Prop

def undefV : V := .val .nul

/-- One operation. G: what callees are known to do; m: what own memory becomes when it is frozen. -/
def stepQ (G : Rl) (m : K) (d : Option Nat) (q : Q) (K : Env → Prop) (e : Env) : Prop :=
  match q with
  | .mv x => bindP (e.opd x) fun v => K (e.setD d v)
  | .mvw x => bindP (e.opd x) fun v => v.rootly = true ∧ K (e.setD d v)
  | .sts a x =>
    bindP (e.opd a) fun a => bindP (e.opd x) fun v =>
      match a, v with
      | .pref r p off, .val (.sc z) =>
        match e.tree r p with
        | some (.mem .own _ ts) => off < ts.length ∧ K (e.setTree r (p ++ [off]) (.sc z))
        | _ => False
      | _, _ => False
  | .asg x =>
    bindP (e.opd x) fun v =>
      match v with
      | .val t => K (e.setD d (.val t))
      | v => bindP (e.take v) fun y => K (y.2.setD d (.val y.1))
  | .pick c a b => bindP ((e.opd c).bind asB) fun t => bindP (e.opd (if t then a else b)) fun v => K (e.setD d v)
  | .bin op x y => bindP (e.opd x) fun a => bindP (e.opd y) fun b => bindP (binV op a b) fun v => K (e.setD d v)
  | .beq neg x y => bindP ((e.opd x).bind asB) fun a => bindP ((e.opd y).bind asB) fun b => K (e.setD d (.val (.sc (.bool ((a == b) != neg)))))
  | .isnil neg x => bindP ((e.opd x).bind V.isNil) fun b => K (e.setD d (.val (.sc (.bool (b != neg)))))
  | .un op x => bindP (e.opd x) fun a => bindP (unV op a) fun v => K (e.setD d v)
  | .conv k x => bindP ((e.opd x).bind asI) fun n => K (e.setD d (.val (.sc (.int k (k.wrap n)))))
  | .len x => bindP ((e.opd x).bind lenV) fun n => K (e.setD d (.val (.sc (.int .i64 n))))
  | .slen x => bindP ((e.opd x).bind slenV) fun n => K (e.setD d (.val (.sc (.int .i64 n))))
  | .idx sz x i => bindP (e.opd x) fun a => bindP ((e.opd i).bind asI) fun n => bindP (idxV sz a n) fun v => K (e.setD d v)
  | .at x i => bindP (e.opd x) fun a => bindP ((e.opd i).bind asI) fun n =>
      match a with
      | .val (.sc (.string s)) => bindP (if 0 ≤ n then s[n.toNat]? else none) fun b => K (e.setD d (.val (.sc (.int .u8 b.toNat))))
      | _ => False
  | .fld off x => bindP (e.opd x) fun a => bindP (e.fld off a) fun v => K (e.setD d v)
  | .fldv off n x => bindP (e.opd x) fun a => bindP (fldvV off n a) fun v => K (e.setD d v)
  | .ld n a => bindP (e.opd a) fun a => bindP (e.ld n a) fun v => K (e.setD d v)
  | .st n a x =>
    bindP (e.opd a) fun a => bindP (e.opd x) fun v => bindP (e.take v) fun y =>
      match a with
      | .pref r p off =>
        match y.2.tree r p with
        | some (.mem .own _ ts) => (y.1.cells.length = n.getD 1 ∧ off + y.1.cells.length ≤ ts.length ∧ y.1.cells.all T.isCell = true) ∧ K (y.2.puts r p off y.1.cells)
        | _ => False
      | _ => False
  | .nilck x =>
    bindP (e.opd x) fun a =>
      match a with
      | .pref r p o => K (e.setD d (.pref r p o))
      | .val (.mem k none ts) => K (e.setD d (.val (.mem k none ts)))
      | _ => False
  | .alloc zs => K (e.setD d (.val (.mem .own none (zs.map .sc))))
  | .box x => bindP (e.opd x) fun v => bindP (e.take v) fun y => y.1.cells.all T.isCell = true ∧ K (y.2.setD d (.val (.mem .own none y.1.cells)))
  | .build zs parts => bindP (e.parts parts) fun ps => bindP (fillV (zs.map fun z => .val (.sc z)) ps) fun vs => K (e.setD d (.vagg vs))
  | .mks z n => bindP ((e.opd n).bind asI) fun n => (0 ≤ n ∧ n ≤ (roomy : Int)) ∧ K (e.setD d (.val (.mem .own (some 1) (List.replicate n.toNat (.sc z)))))
  | .bsl parts => bindP (e.opds parts) fun vs => bindP (e.takeL vs) fun y => y.1.all T.isCell = true ∧ K (y.2.setD d (.val (.mem .own (some 1) y.1)))
  | .app mv sz x y =>
    bindP (e.opd x) fun a => bindP (e.opd y) fun b => bindP (e.base sz a) fun z => bindP (z.2.src mv sz b) fun u =>
      ((z.1.getD []).length + u.1.length ≤ roomy ∧ u.1.all T.isCell = true) ∧
        match z.1 with
        | none => (u.1 = [] → K (u.2.setD d (.val (.sc (.slice none 0 0))))) ∧ (u.1 ≠ [] → K (u.2.setD d (.val (.mem .own (some sz) u.1))))
        | some ts => K (u.2.setD d (.val (.mem .own (some sz) (ts ++ u.1))))
  | .sl sz x lo hi =>
    bindP (e.opd x) fun a =>
      bindP (e.optI lo) fun l =>
        bindP (e.optI hi) fun h =>
          bindP (slV sz a l h) fun v => K (e.setD d v)
  | .ext x i => bindP (e.opd x) fun a => bindP (extV i a) fun v => K (e.setD d v)
  | .fnc f caps => bindP (Env.caps m e caps) fun y => K (y.2.setD d (.val (.fn f y.1)))
  | .call f args =>
    bindP (e.opd f) fun fv =>
      match fv with
      | .val (.fn id caps) =>
        bindP (e.args args) fun ts =>
          ∃ ts' r, G id (ts ++ T.eryL .old caps) (ts' ++ T.eryL .old caps) r ∧ ts'.length = ts.length ∧
            (e.lends args = true → r.noOld = true ∧ args.all (fun x => x.2 == .r) = true) ∧
            bindP (e.back args ts') fun e' => K (e'.setD d (.val r))
      | _ => False
  | .freeze s => bindP (e.freeze m s) fun e' => K e'
  | .callm f args ks =>
    bindP (e.opd f) fun fv =>
      match fv with
      | .val (.fn id caps) =>
        bindP (e.opds (args.map (·.1))) fun vs =>
          e.wholes vs (args.map (·.2)) = true ∧
          bindP (e.takeL vs) fun y => y.2.holes vs (args.map (·.2)) = true ∧
            ∃ ts' r, G id (T.lendL y.1 ++ T.eryL .old caps) (ts' ++ T.eryL .old caps) r ∧ ts'.length = y.1.length ∧
              bindP (y.2.gives vs (args.map (·.2)) ts') fun e2 =>
                bindP (e.revive y.2 e2 vs (args.map (·.2)) ks) fun e3 => K (e3.setD d (.val r))
      | _ => False
  | .boxk s =>
    bindP (e s) fun v =>
      match v, d with
      | .val (.agg ts), some d => (s ≠ d ∧ ts.all T.isCell = true) ∧ K (((e.del s).put d (.val (.mem .own none ts))).put s (.vagg (T.peekL d [] 0 ts)))
      | _, _ => False
  | .settle s => bindP (e.settle s) fun e' => K e'

def stepO (G : Rl) (m : K) (o : O) (K : Env → Prop) (e : Env) : Prop :=
  match o.g with
  | none => stepQ G m o.d o.q K e
  | some (s, b) =>
    match e s with
    | some (.val (.sc (.bool b'))) => if b' = b then stepQ G m o.d o.q K e else K (e.setD o.d undefV)
    | some (.val .nul) => K (e.setD o.d undefV)
    | _ => False

def wpL (G : Rl) (m : K) : List O → (Env → Prop) → Env → Prop
  | [], K, e => K e
  | o :: l, K, e => stepO G m o (wpL G m l K) e

inductive X where
  | nrm
  | ext (id : Nat)
  | ret
  deriving DecidableEq

def X.after (next : Env → Prop) (R : X → Env → Prop) : X → Env → Prop
  | .nrm, e => next e
  | x, e => R x e

def X.out (id : Nat) (R : X → Env → Prop) : X → Env → Prop
  | .ext i, e => if i = id then R .nrm e else R (.ext i) e
  | x, e => R x e

def kReg (R : X → Env → Prop) (ks : List Nat) : Env → Prop := fun e => R .nrm (e.keep ks)

def wp (G : Rl) (m : K) : C → (X → Env → Prop) → Env → Prop
  | .skip, R, e => R .nrm e
  | .region dr ops ks, R, e => wpL G m ops (kReg R ks) (match dr with | some ds => e.softs ds | none => e)
  | .seq a b, R, e => wp G m a (X.after (wp G m b R) R) e
  | .cond c a b, R, e => bindP ((e.opd c).bind asB) fun t => if t then wp G m a R e else wp G m b R e
  | .block id b, R, e => wp G m b (X.out id R) e
  | .loop b, R, e => ∀ I : Env → Prop, (∀ e, wp G m b (X.after I R) e → I e) → I e
  | .exit id, R, e => R (.ext id) e
  | .ret, R, e => R .ret e

/-- The value of a result. -/
def Env.rv (e : Env) : RV → Option V
  | .t s => e.peek s
  | .cell s n => (e.peek s).bind fun a => e.ld n a

def Env.rvs (e : Env) : List RV → Option (List V)
  | [] => some []
  | x :: xs => (e.rv x).bind fun v => (e.rvs xs).map fun vs => v :: vs

/-- What a function hands back. -/
def Env.result (e : Env) (rs : List RV) : Option (T × Env) :=
  match rs with
  | [r] => (e.rv r).bind fun v => e.take v
  | rs => (e.rvs rs).bind fun vs => (e.takeL vs).map fun x => (.tup x.1, x.2)

def slotT (e : Env) (s : Nat) : T :=
  match e s with
  | some (.val t) => t
  | _ => .gone

def backArgs (e : Env) : Nat → List T → List T
  | _, [] => []
  | s, t :: ts => (if t.noOwn then t else slotT e s) :: backArgs e (s + 1) ts

/-- The frame in which a function begins. -/
def init (args : List T) : Env := fun s => (args[s]?).map .val

/-- What stands behind a function's body. -/
def post (rs : List RV) (args args' : List T) (r : T) : X → Env → Prop
  | .ext _, _ => False
  | _, e => bindP (e.result rs) fun x => x.1 = r ∧ args' = backArgs x.2 0 args

def kindOf (args : List T) : K := if T.noOwnL args then .fresh else .old

/-- A program: functions with a body, and what is known of others. -/
structure Pg where
  fn : Nat → Option F
  prim : Rl := fun _ _ _ _ => False

/-- The calls that the program makes good: the least relation that is closed under its bodies. -/
def Call (pg : Pg) : Rl := fun f args args' r =>
  ∀ G : Rl, (∀ f args args' r, pg.prim f args args' r → G f args args' r) →
    (∀ f args args' r fn, pg.fn f = some fn → fn.np = args.length → fn.lets args = true → wp G (kindOf args) fn.body (post fn.rs args args' r) (init args) → G f args args' r) → G f args args' r

end Go.Mch
