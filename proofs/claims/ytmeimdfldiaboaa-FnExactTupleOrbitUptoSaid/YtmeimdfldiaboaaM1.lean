/- Our texts YbA YbU YbM YbB YbC YbD YbE YbF YbG, end to end. -/
import GoSem.Core.Code
import GoSem.Core.View
import Derived.WalkKit
/- An abstract machine over trees: the values, the frames, the operations and the weakest precondition of the compact code. Nothing here speaks of a heap. -/
namespace Go.Mch

instance : LawfulBEq ByteArray where
  eq_of_beq {a b} h := by
    cases a; cases b
    exact congrArg ByteArray.mk (eq_of_beq (α := Array UInt8) h)
  rfl {a} := by
    cases a with
    | mk x => exact (beq_self_eq_true x : (x == x) = true)

/-- What a piece of memory is to the function that runs: its own alone; made by it and written no more; there before. -/
inductive K where
  | own | fresh | old
  deriving DecidableEq, Repr, Inhabited

/-- A value as a tree. `mem k none ts`: a pointer to cells; `mem k (some sz) ts`: a slice whose elements have sz cells. -/
inductive T where
  | sc (v : Value)
  | gone
  | nul
  | mem (k : K) (sz : Option Nat) (ts : List T)
  | fn (f : Nat) (caps : List T)
  | agg (ts : List T)
  | tup (ts : List T)
  /-- A map whose keys are these, each with the value true. -/
  | set (ks : List ByteArray)
  deriving Inhabited

mutual
def T.noOwn : T → Bool
  | .sc _ => true
  | .gone => true
  | .nul => true
  | .mem k _ ts => k != .own && T.noOwnL ts
  | .fn _ caps => T.noOwnL caps
  | .agg ts => T.noOwnL ts
  | .tup ts => T.noOwnL ts
  | .set _ => false
def T.noOwnL : List T → Bool
  | [] => true
  | t :: ts => t.noOwn && T.noOwnL ts
end

mutual
/-- No memory that was there before. -/
def T.noOld : T → Bool
  | .sc _ => true
  | .gone => true
  | .nul => true
  | .mem k _ ts => k != .old && T.noOldL ts
  | .fn _ caps => T.noOldL caps
  | .agg ts => T.noOldL ts
  | .tup ts => T.noOldL ts
  | .set _ => true
def T.noOldL : List T → Bool
  | [] => true
  | t :: ts => t.noOld && T.noOldL ts
end

mutual
/-- All memory turned to kind k. -/
def T.ery (k : K) : T → T
  | .sc v => .sc v
  | .gone => .gone
  | .nul => .nul
  | .mem _ s ts => .mem k s (T.eryL k ts)
  | .fn f caps => .fn f (T.eryL k caps)
  | .agg ts => .agg (T.eryL k ts)
  | .tup ts => .tup (T.eryL k ts)
  | .set _ => .gone
def T.eryL (k : K) : List T → List T
  | [] => []
  | t :: ts => t.ery k :: T.eryL k ts
end

mutual
/-- Own memory turned to kind k, the rest as it is. -/
def T.frz (k : K) : T → T
  | .sc v => .sc v
  | .gone => .gone
  | .nul => .nul
  | .mem k' s ts => .mem (if k' = .own then k else k') s (T.frzL k ts)
  | .fn f caps => .fn f caps
  | .agg ts => .agg (T.frzL k ts)
  | .tup ts => .tup (T.frzL k ts)
  | .set _ => .gone
def T.frzL (k : K) : List T → List T
  | [] => []
  | t :: ts => t.frz k :: T.frzL k ts
end

mutual
/-- Own memory stays own, the rest was there before. -/
def T.lend : T → T
  | .sc v => .sc v
  | .gone => .gone
  | .nul => .nul
  | .mem k s ts => .mem (if k = .own then .own else .old) s (T.lendL ts)
  | .fn f caps => .fn f (T.eryL .old caps)
  | .agg ts => .agg (T.lendL ts)
  | .tup ts => .tup (T.lendL ts)
  | .set ks => .set ks
def T.lendL : List T → List T
  | [] => []
  | t :: ts => t.lend :: T.lendL ts
end

/-- The parts of a tree into which a path may lead. -/
def T.kids : T → List T
  | .mem .own _ ts => ts
  | .agg ts => ts
  | .tup ts => ts
  | _ => []

def T.at : T → List Nat → Option T
  | t, [] => some t
  | t, i :: p => (t.kids[i]?).bind fun u => u.at p

def T.withKids (t : T) (ts : List T) : T :=
  match t with
  | .mem k s _ => .mem k s ts
  | .agg _ => .agg ts
  | .tup _ => .tup ts
  | t => t

def T.setAt : T → List Nat → T → T
  | _, [], x => x
  | t, i :: p, x => t.withKids (t.kids.set i ((t.kids.getD i .gone).setAt p x))

/-- What a slot holds: a tree (its owner, if it is own memory), or another name for memory that the tree of slot r holds at path p. -/
inductive V where
  | val (t : T)
  | sref (r : Nat) (p : List Nat) (sz off len : Nat)
  | pref (r : Nat) (p : List Nat) (off : Nat)
  | vagg (vs : List V)
  | vtup (vs : List V)
  /-- The same value as slot r's. -/
  | same (r : Nat)
  /-- A closure of function f that captures the box of slot r. -/
  | vfn (f r : Nat)
  deriving Inhabited

abbrev Env := Nat → Option V

mutual
/-- Does it name memory of slot r at path p or below? -/
def V.hits (r : Nat) (p : List Nat) : V → Bool
  | .val _ => false
  | .sref r' q _ _ _ => r == r' && p.isPrefixOf q
  | .pref r' q _ => r == r' && p.isPrefixOf q
  | .vagg vs => V.hitsL r p vs
  | .vtup vs => V.hitsL r p vs
  | .same r' => r == r' && p.isEmpty
  | .vfn _ r' => r == r' && p.isEmpty
def V.hitsL (r : Nat) (p : List Nat) : List V → Bool
  | [] => false
  | v :: vs => v.hits r p || V.hitsL r p vs
end

mutual
/-- Are all the slots that it names among these? -/
def V.inside (ks : List Nat) : V → Bool
  | .val _ => true
  | .sref r _ _ _ _ => ks.contains r
  | .pref r _ _ => ks.contains r
  | .vagg vs => V.insideL ks vs
  | .vtup vs => V.insideL ks vs
  | .same r => ks.contains r
  | .vfn _ r => ks.contains r
def V.insideL (ks : List Nat) : List V → Bool
  | [] => true
  | v :: vs => v.inside ks && V.insideL ks vs
end

/-- A frame written out. -/
def mk (l : List (Nat × V)) : Env := fun s => (l.find? fun x => x.1 == s).map (·.2)

def Env.kill (e : Env) (r : Nat) (p : List Nat) : Env := fun s =>
  match e s with
  | some v => if v.hits r p then none else some v
  | none => none

/-- Slot d away, and all other names of what it held. -/
def Env.del (e : Env) (d : Nat) : Env := fun s => if s = d then none else e.kill d [] s

def Env.put (e : Env) (d : Nat) (v : V) : Env := fun s => if s = d then (if v.hits d [] then none else some v) else e.kill d [] s

/-- Only these slots are kept. -/
def Env.keep (e : Env) (ks : List Nat) : Env := fun s =>
  if ks.contains s then (match e s with | some v => if v.inside ks then some v else none | none => none) else none

def softV : Option V → Option V
  | some (.val t) => if t.noOwn then some (.val t) else none
  | _ => none

/-- Slot d keeps what owns nothing; nobody else names it. -/
def Env.soft (e : Env) (d : Nat) : Env := fun s => if s = d then softV (e d) else e.kill d [] s

def Env.softs (e : Env) : List Nat → Env
  | [] => e
  | d :: ds => (e.soft d).softs ds

mutual
def T.peek (r : Nat) (p : List Nat) : T → V
  | .mem .own (some sz) ts => .sref r p sz 0 (ts.length / sz)
  | .mem .own none _ => .pref r p 0
  | .agg ts => .vagg (T.peekL r p 0 ts)
  | .tup ts => .vtup (T.peekL r p 0 ts)
  | .set _ => if p.isEmpty then .same r else .val .gone
  | t => .val t
def T.peekL (r : Nat) (p : List Nat) (i : Nat) : List T → List V
  | [] => []
  | t :: ts => t.peek r (p ++ [i]) :: T.peekL r p (i + 1) ts
end

def Env.peek (e : Env) (s : Nat) : Option V :=
  match e s with
  | some (.val t) => some (t.peek s [])
  | x => x

/-- The tree of slot r at path p. -/
def Env.tree (e : Env) (r : Nat) (p : List Nat) : Option T :=
  match e r with
  | some (.val t) => t.at p
  | _ => none

/-- The tree of slot r turned at path p; what else names memory there is away. -/
def Env.setTree (e : Env) (r : Nat) (p : List Nat) (x : T) : Env := fun s =>
  if s = r then (match e r with | some (.val t) => some (.val (t.setAt p x)) | _ => none) else e.kill r p s

def Env.clear (e : Env) (r : Nat) (p : List Nat) : Env :=
  match p with
  | [] => e.del r
  | i :: p => e.setTree r (i :: p) .gone

def win (ts : List T) (off n : Nat) : List T := (ts.drop off).take n

mutual
/-- The tree that a value reads as, all its memory being there before. -/
def Env.res (e : Env) : V → Option T
  | .val t => if t.noOwn then some (t.ery .old) else none
  | .sref r p sz off len =>
    match e.tree r p with
    | some (.mem .own _ ts) => if (off + len) * sz ≤ ts.length then some (.mem .old (some sz) (T.eryL .old (win ts (off * sz) (len * sz)))) else none
    | _ => none
  | .pref r p off =>
    match e.tree r p with
    | some (.mem .own _ ts) => if off ≤ ts.length then some (.mem .old none (T.eryL .old (ts.drop off))) else none
    | _ => none
  | .vagg vs => (e.resL vs).map .agg
  | .vtup vs => (e.resL vs).map .tup
  | .same _ => none
  | .vfn f r =>
    match e.tree r [] with
    | some (.mem .own none ts) => some (.fn f [.mem .old none (T.eryL .old ts)])
    | _ => none
def Env.resL (e : Env) : List V → Option (List T)
  | [] => some []
  | v :: vs => (e.res v).bind fun t => (e.resL vs).map fun ts => t :: ts
end

mutual
def V.lent : V → Bool
  | .val _ => false
  | .sref .. => true
  | .pref .. => true
  | .vagg vs => V.lentL vs
  | .vtup vs => V.lentL vs
  | .same _ => true
  | .vfn _ _ => true
def V.lentL : List V → Bool
  | [] => false
  | v :: vs => v.lent || V.lentL vs
end

mutual
/-- The tree that a value owns, taken out of the frame. -/
def Env.take (e : Env) : V → Option (T × Env)
  | .val t => if t.noOwn then some (t, e) else none
  | .sref r p sz off len =>
    match e.tree r p with
    | some (.mem .own (some sz') ts) => if sz' = sz ∧ (off + len) * sz ≤ ts.length ∧ 0 < sz then some (.mem .own (some sz) (win ts (off * sz) (len * sz)), e.clear r p) else none
    | _ => none
  | .pref r p off =>
    match e.tree r p with
    | some (.mem .own none ts) => if off = 0 then some (.mem .own none ts, e.clear r p) else none
    | _ => none
  | .vagg vs => (e.takeL vs).map fun x => (.agg x.1, x.2)
  | .vtup vs => (e.takeL vs).map fun x => (.tup x.1, x.2)
  | .same r =>
    match e.tree r [] with
    | some (.set ks) => some (.set ks, e.del r)
    | _ => none
  | .vfn _ _ => none
def Env.takeL (e : Env) : List V → Option (List T × Env)
  | [] => some ([], e)
  | v :: vs => (e.take v).bind fun x => (x.2.takeL vs).map fun y => (x.1 :: y.1, y.2)
end

/-- The cells that a tree has as a value of a variable. -/
def T.cells : T → List T
  | .agg ts => ts
  | t => [t]

/-- A tree that lies in one cell. -/
def T.isCell : T → Bool
  | .sc _ => true
  | .mem .. => true
  | .fn .. => true
  | _ => false

inductive Opd where
  | t (n : Nat)
  | c (v : Value)
  | f (id : Nat)
  deriving Inhabited

def Env.opd (e : Env) : Opd → Option V
  | .t n => e.peek n
  | .c v => some (.val (.sc v))
  | .f id => some (.val (.fn id []))

inductive Mode where
  | r | w | m
  deriving DecidableEq, Repr, Inhabited

/-- An operation of the compact code. -/
inductive Q where
  | mv (x : Opd)
  | asg (x : Opd)
  | pick (c a b : Opd)
  | bin (op : BinOp) (x y : Opd)
  | beq (neg : Bool) (x y : Opd)
  | isnil (neg : Bool) (x : Opd)
  | un (op : UnOp) (x : Opd)
  | conv (k : IntKind) (x : Opd)
  | len (x : Opd)
  | slen (x : Opd)
  | idx (sz : Nat) (x i : Opd)
  | at (x i : Opd)
  | fld (off : Nat) (x : Opd)
  | fldv (off : Nat) (n : Option Nat) (x : Opd)
  | ld (n : Option Nat) (a : Opd)
  | st (n : Option Nat) (a x : Opd)
  | nilck (x : Opd)
  | alloc (zs : List Value)
  | box (x : Opd)
  | build (zs : List Value) (parts : List (Nat × Nat × Opd))
  | mks (z : Value) (n : Opd)
  | bsl (parts : List Opd)
  | app (mv : Bool) (sz : Nat) (x y : Opd)
  | sl (sz : Nat) (x : Opd) (lo hi : Option Opd)
  | ext (x : Opd) (i : Nat)
  | fnc (f : Nat) (caps : List Opd)
  /-- A closure that captures one box of the frame's own, which stays so. -/
  | fncl (f : Nat) (x : Opd)
  | call (f : Opd) (args : List (Opd × Mode))
  | freeze (s : Nat)
  /-- A move of what names whole slots. -/
  | mvw (x : Opd)
  /-- A store of a scalar. -/
  | sts (a x : Opd)
  /-- A store of one row of a list into the cell of another, which slot y takes: the first half of an exchange. -/
  | stsw (a x : Opd) (y : Nat)
  /-- A call that is handed memory of the frame's own: what each argument owns is taken out of the frame; behind the call it is put back where the argument is marked; the slots ks keep their names of what was put back. -/
  | callm (f : Opd) (args : List (Opd × Bool)) (ks : List Nat)
  /-- A slice literal of the row that slot n owns (which x names); slot n keeps a name of it. -/
  | bslk (x : Opd) (n : Nat)
  /-- A literal of one row appended; slot n, which names the row, keeps a name of it. -/
  | appk (x y : Opd) (n : Nat)
  /-- The struct of slot s put into a box; slot s keeps names of the box's cells. -/
  | boxk (s : Nat)
  /-- Slot s takes what it names. -/
  | settle (s : Nat)
  /-- The greater or the smaller one of two numbers. -/
  | mm (mx : Bool) (x y : Opd)
  /-- How many elements nil has room for. -/
  | cap0 (x : Opd)
  /-- A string of the bytes of a slice. -/
  | bstr (x : Opd)
  /-- A slice literal whose elements have sz cells each; fr: what they own is frozen; fo: the slice too. -/
  | bsls (sz : Nat) (fr fo : Bool) (parts : List Opd)
  /-- A slice literal of parts that own nothing; sz cells each. -/
  | bslv (sz : Nat) (parts : List Opd)
  /-- A slice literal of what slot n owns. -/
  | bsl1 (n : Nat)
  /-- So many zeros appended to nil. -/
  | apz (z : Value) (x n : Opd)
  /-- Element i of an array of structs with sz cells. -/
  | arr (sz len : Nat) (x i : Opd)
  /-- A new map of strings. -/
  | mkset
  /-- Does a map have a key? -/
  | look (x k : Opd)
  /-- A key put into a map. -/
  | upd (x k : Opd)
  deriving Inhabited

structure O where
  d : Option Nat
  g : Option (Nat × Bool)
  q : Q
  deriving Inhabited

inductive RV where
  | t (s : Nat)
  | cell (s : Nat) (n : Option Nat)
  deriving Inhabited

inductive C where
  | skip
  | region (draw : Option (List Nat)) (ops : List O) (keep : List Nat)
  | seq (a b : C)
  | cond (c : Opd) (a b : C)
  | block (id : Nat) (b : C)
  | loop (b : C)
  | exit (id : Nat)
  | ret
  /-- Code that is never run. -/
  | stuck
  deriving Inhabited

structure F where
  np : Nat
  rs : List RV
  body : C
  /-- Parameters that are never assigned to. -/
  fix : List Nat := []
  deriving Inhabited

/-- Arguments that own memory lie in parameters that are never assigned to. -/
def F.lets (fn : F) (args : List T) : Bool := (List.range args.length).all fun i => (args.getD i .gone).noOwn || fn.fix.contains i

def bindP {α : Type} (o : Option α) (f : α → Prop) : Prop := ∃ a, o = some a ∧ f a

/-- What '+', '-', '*' leave: of signed kinds only what fits. -/
def arith (k : IntKind) (n : Int) : Option Value :=
  if k = .i64 then (if -9223372036854775808 ≤ n ∧ n ≤ 9223372036854775807 then some (.int .i64 n) else none) else some (.int k (k.wrap n))

/-- What a shift leaves. -/
def shSc (op : BinOp) (k : IntKind) (a b : Int) : Option Value :=
  if b < 0 then none else
  match op with
  | .shl => some (.int k (k.wrap (a * 2 ^ (min b.toNat k.bits))))
  | .shr => some (.int k (a.fdiv (2 ^ (min b.toNat k.bits))))
  | _ => none

def binSc (op : BinOp) (k : IntKind) (a b : Int) : Option Value :=
  match op with
  | .add => arith k (a + b)
  | .sub => arith k (a - b)
  | .mul => arith k (a * b)
  | .quo => if b = 0 then none else arith k (a.tdiv b)
  | .rem => if b = 0 then none else some (.int k (a.tmod b))
  | .eql => some (.bool (a == b))
  | .neq => some (.bool (a != b))
  | .lss => some (.bool (a < b))
  | .leq => some (.bool (a ≤ b))
  | .gtr => some (.bool (a > b))
  | .geq => some (.bool (a ≥ b))
  | .and => some (.int k (k.wrap ((BitVec.ofInt k.bits a &&& BitVec.ofInt k.bits b).toNat)))
  | .xor => some (.int k (k.wrap ((BitVec.ofInt k.bits a ^^^ BitVec.ofInt k.bits b).toNat)))
  | .shl => shSc .shl k a b
  | .shr => shSc .shr k a b
  | _ => none

/-- Is this slice nil? -/
def V.isNil : V → Option Bool
  | .val (.sc (.slice none 0 0)) => some true
  | .val (.sc (.slice (some _) 0 0)) => some false
  | .val (.mem _ (some _) _) => some false
  | .sref .. => some false
  | _ => none

def binV (op : BinOp) (x y : V) : Option V :=
  match x, y with
  | .val (.sc (.int k a)), .val (.sc (.int k' b)) => if k = k' then (binSc op k a b).map fun v => .val (.sc v) else (shSc op k a b).map fun v => .val (.sc v)
  | _, _ => none

def unV (op : UnOp) : V → Option V
  | .val (.sc (.bool b)) => if op = .not then some (.val (.sc (.bool !b))) else none
  | .val (.sc (.int k n)) => if op = .neg then (arith k (0 - n)).map fun v => .val (.sc v) else none
  | _ => none

def lenV : V → Option Nat
  | .val (.sc (.slice none 0 0)) => some 0
  | .val (.sc (.slice (some _) 0 0)) => some 0
  | .val (.mem _ (some sz) ts) => some (ts.length / sz)
  | .sref _ _ _ _ len => some len
  | _ => none

def slenV : V → Option Nat
  | .val (.sc (.string s)) => some s.size
  | _ => none

def asI : V → Option Int
  | .val (.sc (.int _ n)) => some n
  | _ => none

def asB : V → Option Bool
  | .val (.sc (.bool b)) => some b
  | _ => none

def mmI (mx : Bool) (a b : Int) : Int := if mx then (if b > a then b else a) else if b < a then b else a

def mmV (mx : Bool) : V → V → Option V
  | .val (.sc (.int k a)), .val (.sc (.int k' b)) => if k = k' then some (.val (.sc (.int k (mmI mx a b)))) else none
  | _, _ => none

def cap0V : V → Option V
  | .val (.sc (.slice none 0 0)) => some (.val (.sc (.int .i64 0)))
  | _ => none

def bytesL : List T → Option (List UInt8)
  | [] => some []
  | .sc (.int .u8 n) :: ts => if 0 ≤ n ∧ n < 256 then (bytesL ts).map fun l => UInt8.ofNat n.toNat :: l else none
  | _ :: _ => none

/-- The string of a slice's bytes. -/
def Env.bstr (e : Env) : V → Option V
  | .val (.sc (.slice none 0 0)) => some (.val (.sc (.string ⟨#[]⟩)))
  | .val (.sc (.slice (some _) 0 0)) => some (.val (.sc (.string ⟨#[]⟩)))
  | .val (.mem _ (some 1) ts) => (bytesL ts).map fun l => .val (.sc (.string ⟨l.toArray⟩))
  | .sref r p 1 off len =>
    match e.tree r p with
    | some (.mem .own (some 1) ts) => if off + len ≤ ts.length then (bytesL (win ts off len)).map fun l => .val (.sc (.string ⟨l.toArray⟩)) else none
    | _ => none
  | _ => none

/-- Element i of an array. -/
def arrV (sz len : Nat) (x : V) (i : Int) : Option V :=
  match x with
  | .vagg vs => if 0 ≤ i ∧ i < (len : Int) ∧ vs.length = len * sz then some (.vagg ((vs.drop (i.toNat * sz)).take sz)) else none
  | _ => none

def asStr : V → Option ByteArray
  | .val (.sc (.string s)) => some s
  | _ => none

/-- The keys of the map that a value names, and its slot. -/
def Env.setOf (e : Env) : V → Option (Nat × List ByteArray)
  | .same r =>
    match e r with
    | some (.val (.set ks)) => some (r, ks)
    | _ => none
  | _ => none

def Env.optI (e : Env) : Option Opd → Option (Option Int)
  | none => some none
  | some i => ((e.opd i).bind asI).map some

/-- The address of element i. -/
def idxV (sz : Nat) (x : V) (i : Int) : Option V :=
  match x with
  | .val (.mem k (some sz') ts) => if sz' = sz ∧ 0 ≤ i ∧ i < ((ts.length / sz : Nat) : Int) then some (.val (.mem k none (win ts (i.toNat * sz) sz))) else none
  | .sref r p sz' off len => if sz' = sz ∧ 0 ≤ i ∧ i < (len : Int) then some (.pref r p ((off + i.toNat) * sz)) else none
  | _ => none

def Env.fld (e : Env) (off : Nat) : V → Option V
  | .val (.mem k none ts) => if off ≤ ts.length then some (.val (.mem k none (ts.drop off))) else none
  | .pref r p o =>
    match e.tree r p with
    | some (.mem .own _ ts) => if o + off ≤ ts.length then some (.pref r p (o + off)) else none
    | _ => none
  | _ => none

/-- What lies at an address: a value of one cell (none), a struct of n cells. -/
def Env.ld (e : Env) (n : Option Nat) (a : V) : Option V :=
  match a with
  | .val (.mem _ none ts) =>
    match n with
    | none => (ts[0]?).map .val
    | some n => if n ≤ ts.length then some (.vagg ((ts.take n).map .val)) else none
  | .pref r p off =>
    match e.tree r p with
    | some (.mem .own _ ts) =>
      match n with
      | none => (ts[off]?).map fun t => t.peek r (p ++ [off])
      | some n => if off + n ≤ ts.length then some (.vagg (T.peekL r p off (win ts off n))) else none
    | _ => none
  | _ => none

/-- Cells put into own memory, one after the other from off on. -/
def Env.puts (e : Env) (r : Nat) (p : List Nat) (off : Nat) : List T → Env
  | [] => e
  | t :: ts => (e.setTree r (p ++ [off]) t).puts r p (off + 1) ts

def fldvV (off : Nat) (n : Option Nat) : V → Option V
  | .vagg vs =>
    match n with
    | none => vs[off]?
    | some n => if off + n ≤ vs.length then some (.vagg ((vs.drop off).take n)) else none
  | _ => none

def extV (i : Nat) : V → Option V
  | .vtup vs => vs[i]?
  | _ => none

def slV (sz : Nat) (x : V) (lo hi : Option Int) : Option V :=
  match x with
  | .val (.mem k (some sz') ts) =>
    let l := lo.getD 0
    let h := hi.getD ((ts.length / sz : Nat) : Int)
    if sz' = sz ∧ 0 ≤ l ∧ l ≤ h ∧ h ≤ ((ts.length / sz : Nat) : Int) then some (.val (.mem k (some sz) (win ts (l.toNat * sz) ((h.toNat - l.toNat) * sz)))) else none
  | .sref r p sz' off len =>
    let l := lo.getD 0
    let h := hi.getD (len : Int)
    if sz' = sz ∧ 0 ≤ l ∧ l ≤ h ∧ h ≤ (len : Int) then some (.sref r p sz (off + l.toNat) (h.toNat - l.toNat)) else none
  | .val (.sc (.slice none 0 0)) => if lo.getD 0 = 0 ∧ hi.getD 0 = 0 then some (.val (.sc (.slice none 0 0))) else none
  | _ => none

/-- The values of parts of a struct over its zero value. -/
def fillV (vs : List V) : List (Nat × Nat × V) → Option (List V)
  | [] => some vs
  | (i, n, x) :: r =>
    match x with
    | .vagg us => if us.length = n ∧ i + n ≤ vs.length then fillV (vs.take i ++ us ++ vs.drop (i + n)) r else none
    | .vtup _ => none
    | .val (.agg _) => none
    | .val .gone => none
    | .val .nul => none
    | .val (.tup _) => none
    | .val (.set _) => none
    | .same _ => none
    | .vfn _ _ => none
    | x => if n = 1 ∧ i + n ≤ vs.length then fillV (vs.take i ++ [x] ++ vs.drop (i + n)) r else none

def Env.opds (e : Env) : List Opd → Option (List V)
  | [] => some []
  | x :: xs => (e.opd x).bind fun v => (e.opds xs).map fun vs => v :: vs

def Env.parts (e : Env) : List (Nat × Nat × Opd) → Option (List (Nat × Nat × V))
  | [] => some []
  | (i, n, x) :: xs => (e.opd x).bind fun v => (e.parts xs).map fun vs => (i, n, v) :: vs

/-- The cells that append copies (mv: own elements go over, their row is given up). -/
def Env.src (e : Env) (mv : Bool) (sz : Nat) (y : V) : Option (List T × Env) :=
  match y with
  | .val (.sc (.slice none 0 0)) => some ([], e)
  | .val (.mem k (some sz') ts) => if k ≠ .own ∧ sz' = sz ∧ T.noOwnL ts ∧ ts.length % sz = 0 then some (ts, e) else none
  | .sref r p sz' off len =>
    match e.tree r p with
    | some (.mem .own (some _) ts) =>
      if sz' = sz ∧ (off + len) * sz ≤ ts.length then
        (if mv then (if p = [] then some (win ts (off * sz) (len * sz), e.del r) else none)
         else if T.noOwnL (win ts (off * sz) (len * sz)) then some (win ts (off * sz) (len * sz), e) else none)
      else none
    | _ => none
  | _ => none

/-- The row to which append adds, taken out of the frame: its cells. -/
def Env.base (e : Env) (sz : Nat) (x : V) : Option (Option (List T) × Env) :=
  match x with
  | .val (.sc (.slice none 0 0)) => some (none, e)
  | .sref .. =>
    match e.take x with
    | some (.mem .own (some sz') ts, e') => if sz' = sz then some (some ts, e') else none
    | _ => none
  | _ => none

/-- An upper bound of what an append may make, in cells. -/
def roomy : Nat := 4294967296

/-- The trees that are handed to a callee. -/
def Env.args (e : Env) : List (Opd × Mode) → Option (List T)
  | [] => some []
  | (x, .r) :: xs => (e.opd x).bind fun v => (e.res v).bind fun t => (e.args xs).map fun ts => t :: ts
  | (x, _) :: xs => (e.opd x).bind fun v =>
    (match v with
     | .sref r p sz off len =>
       match e.tree r p with
       | some (.mem .own (some sz') ts) => if sz' = sz ∧ off = 0 ∧ len * sz = ts.length ∧ 0 < sz then some (T.mem .own (some sz) (T.lendL ts)) else none
       | _ => none
     | .pref r p off =>
       match e.tree r p with
       | some (.mem .own none ts) => if off = 0 then some (T.mem .own none (T.lendL ts)) else none
       | _ => none
     | _ => none).bind fun t => (e.args xs).map fun ts => t :: ts

/-- Is memory of the frame's own lent to the callee to read? -/
def Env.lends (e : Env) : List (Opd × Mode) → Bool
  | [] => false
  | (x, .r) :: xs => (match e.opd x with | some v => v.lent | none => true) || e.lends xs
  | _ :: xs => e.lends xs

/-- The frame behind a call: what was handed on to be written reads anew, what was given away is away. -/
def Env.back (e : Env) : List (Opd × Mode) → List T → Option Env
  | [], [] => some e
  | (_, .r) :: xs, _ :: ts => e.back xs ts
  | (x, .w) :: xs, t :: ts =>
    (e.opd x).bind fun v => (match v with | .sref r p _ _ _ => some (r, p) | .pref r p _ => some (r, p) | _ => none).bind fun rp =>
      (match e.tree rp.1 rp.2, t with
       | some (.mem .own s us), .mem .own s' us' => if s = s' ∧ us.length = us'.length then some () else none
       | _, _ => none).bind fun _ => (e.setTree rp.1 rp.2 t).back xs ts
  | (x, .m) :: xs, _ :: ts =>
    (e.opd x).bind fun v => (match v with | .sref r p _ _ _ => some (r, p) | .pref r p _ => some (r, p) | _ => none).bind fun rp => (e.clear rp.1 rp.2).back xs ts
  | _, _ => none

/-- A tree put back where it was taken. -/
def Env.back1 (e : Env) (r : Nat) (p : List Nat) (t : T) : Option Env :=
  match p with
  | [] => match e r with | none => some (e.put r (.val t)) | some _ => none
  | i :: p => match e.tree r (i :: p) with | some .gone => some (e.setTree r (i :: p) t) | _ => none

mutual
/-- What a value named, put back. -/
def Env.give (e : Env) : V → T → Option Env
  | .val _, _ => some e
  | .sref r p _ _ _, t => e.back1 r p t
  | .pref r p _, t => e.back1 r p t
  | .vagg vs, .agg ts => e.giveL vs ts
  | _, _ => none
def Env.giveL (e : Env) : List V → List T → Option Env
  | [], _ => some e
  | v :: vs, t :: ts => (e.give v t).bind fun e' => e'.giveL vs ts
  | _ :: _, [] => none
end

def Env.gives (e : Env) : List V → List Bool → List T → Option Env
  | v :: vs, g :: gs, t :: ts => if g then (e.give v t).bind fun e' => e'.gives vs gs ts else e.gives vs gs ts
  | [], [], [] => some e
  | _, _, _ => none

mutual
/-- Does it name whole pieces of memory only? -/
def Env.whole (e : Env) : V → Bool
  | .val _ => true
  | .sref r p sz off len => off == 0 && (match e.tree r p with | some (.mem _ _ ts) => len * sz == ts.length | _ => false)
  | .pref r p off => off == 0 && (match e.tree r p with | some (.mem _ none _) => true | _ => false)
  | .vagg vs => e.wholeL vs
  | .vtup _ => false
  | .same _ => false
  | .vfn _ _ => false
def Env.wholeL (e : Env) : List V → Bool
  | [] => true
  | v :: vs => e.whole v && e.wholeL vs
end

def Env.wholes (e : Env) : List V → List Bool → Bool
  | v :: vs, g :: gs => (!g || e.whole v) && e.wholes vs gs
  | _, _ => true

def Env.isHole (e : Env) (r : Nat) (p : List Nat) : Bool :=
  match p with
  | [] => true
  | i :: p => match e.tree r (i :: p) with | some .gone => true | _ => false

mutual
/-- Is what it named away? -/
def Env.hole (e : Env) : V → Bool
  | .val _ => true
  | .sref r p _ _ _ => e.isHole r p
  | .pref r p _ => e.isHole r p
  | .vagg vs => e.holeL vs
  | .vtup _ => false
  | .same _ => false
  | .vfn _ _ => false
def Env.holeL (e : Env) : List V → Bool
  | [] => true
  | v :: vs => e.hole v && e.holeL vs
end

def Env.holes (e : Env) : List V → List Bool → Bool
  | v :: vs, g :: gs => (!g || e.hole v) && e.holes vs gs
  | _, _ => true

mutual
/-- Is this name one of the value's? -/
def V.hasLeaf (r : Nat) (p : List Nat) (sz off len : Nat) : V → Bool
  | .sref r' p' sz' off' len' => r == r' && p == p' && sz == sz' && off == off' && len == len'
  | .vagg vs => V.hasLeafL r p sz off len vs
  | _ => false
def V.hasLeafL (r : Nat) (p : List Nat) (sz off len : Nat) : List V → Bool
  | [] => false
  | v :: vs => v.hasLeaf r p sz off len || V.hasLeafL r p sz off len vs
end

def leafOf : List V → List Bool → Nat → List Nat → Nat → Nat → Nat → Bool
  | v :: vs, g :: gs, r, p, sz, off, len => (g && v.hasLeaf r p sz off len) || leafOf vs gs r p sz off len
  | _, _, _, _, _, _, _ => false

mutual
/-- Does it name only what was put back or not taken, which is there as long as before? -/
def Env.again (e1 e : Env) (vs : List V) (gs : List Bool) : V → Bool
  | .sref r p sz off len => (leafOf vs gs r p sz off len || (e1.tree r p).isSome) && (match e.tree r p with | some (.mem .own (some sz') ts) => sz' == sz && decide ((off + len) * sz ≤ ts.length) | _ => false)
  | .vagg us => Env.againL e1 e vs gs us
  | _ => false
def Env.againL (e1 e : Env) (vs : List V) (gs : List Bool) : List V → Bool
  | [] => true
  | x :: xs => Env.again e1 e vs gs x && Env.againL e1 e vs gs xs
end

def Env.revive (e0 e1 e : Env) (vs : List V) (gs : List Bool) : List Nat → Option Env
  | [] => some e
  | s :: ks =>
    match e0 s, e s with
    | some x, none => if Env.again e1 e vs gs x then Env.revive e0 e1 (e.put s x) vs gs ks else none
    | _, some _ => Env.revive e0 e1 e vs gs ks
    | none, none => none

def Env.settle (e : Env) (s : Nat) : Option Env :=
  (e s).bind fun v => (e.take v).map fun y => y.2.put s (.val y.1)

/-- The frame behind the first half of an exchange. -/
def Env.swp (e : Env) (y : Nat) : V → V → V → Option Env
  | .pref r [] i, .sref r1 [j] 1 0 lx, .sref r2 [i'] 1 0 ly =>
    if r1 = r ∧ r2 = r ∧ i' = i ∧ r ≠ y then
      match e.tree r [] with
      | some (.mem .own (some 1) ts) =>
        match ts[i]?, ts[j]? with
        | some (.mem .own (some 1) ui), some (.mem .own (some 1) uj) =>
          if lx = uj.length ∧ ly = ui.length then some (if i = j then e else ((e.setTree r [i] (.mem .own (some 1) uj)).setTree r [j] .gone).put y (.val (.mem .own (some 1) ui))) else none
        | _, _ => none
      | _ => none
    else none
  | _, _, _ => none

def Env.freeze (e : Env) (k : K) (s : Nat) : Option Env :=
  match e s with
  | some (.val t) => some (fun x => if x = s then some (.val (t.frz k)) else e.kill s [] x)
  | _ => none

/-- The captured variables of a closure: each a pointer; own ones are frozen. -/
def Env.caps (k : K) : Env → List Opd → Option (List T × Env)
  | e, [] => some ([], e)
  | e, x :: xs =>
    (e.opd x).bind fun v =>
      match v with
      | .val (.mem k' none ts) => if k' ≠ .own ∧ T.noOwnL ts then ((Env.caps k e xs).map fun y => (T.mem k' none ts :: y.1, y.2)) else none
      | .pref r [] 0 =>
        (e.freeze k r).bind fun e' =>
          match e' r with
          | some (.val (.mem k' none us)) => (Env.caps k e' xs).map fun y => (.mem k' none us :: y.1, y.2)
          | _ => none
      | _ => none

/-- The slot whose box a pointer names. -/
def Env.vcap (e : Env) : V → Option Nat
  | .pref r [] 0 =>
    match e.tree r [] with
    | some (.mem .own none _) => some r
    | _ => none
  | _ => none

mutual
/-- Does it name whole slots only? -/
def V.rootly : V → Bool
  | .val t => t.noOwn
  | .sref _ p _ _ _ => p.isEmpty
  | .pref _ p _ => p.isEmpty
  | .vagg vs => V.rootlyL vs
  | .vtup vs => V.rootlyL vs
  | .same _ => false
  | .vfn _ _ => false
def V.rootlyL : List V → Bool
  | [] => true
  | v :: vs => v.rootly && V.rootlyL vs
end

def Env.setD (e : Env) (d : Option Nat) (v : V) : Env :=
  match d with
  | some d => e.put d v
  | none => e

abbrev Rl := Nat → List T → List T → T → Prop

def undefV : V := .val .nul

mutual
/-- The tree of a value that owns nothing. -/
def V.still : V → Option T
  | .val t => if t.noOwn then some t else none
  | .vagg vs => (V.stillL vs).map .agg
  | _ => none
def V.stillL : List V → Option (List T)
  | [] => some []
  | v :: vs => (V.still v).bind fun t => (V.stillL vs).map fun ts => t :: ts
end

/-- The cells of values that own nothing, sz each. -/
def V.cells (sz : Nat) : List V → Option (List T)
  | [] => some []
  | v :: vs => (V.still v).bind fun t => if t.cells.length = sz ∧ t.cells.all T.isCell = true then (V.cells sz vs).map fun ts => t.cells ++ ts else none

/-- One operation. G: what callees are known to do; m: what own memory becomes when it is frozen. -/
def stepQ (G : Rl) (m : K) (d : Option Nat) (q : Q) (K : Env → Prop) (e : Env) : Prop :=
  match q with
  | .mv x => bindP (e.opd x) fun v => K (e.setD d v)
  | .mvw x => bindP (e.opd x) fun v => v.rootly = true ∧ K (e.setD d v)
  | .sts a x =>
    bindP (e.opd a) fun a => bindP (e.opd x) fun v =>
      match a, v with
      | .pref r p off, .val (.sc z) =>
        match e.tree r p with
        | some (.mem .own _ ts) => off < ts.length ∧ K (e.setTree r (p ++ [off]) (.sc z))
        | _ => False
      | _, _ => False
  | .stsw a x y => bindP (e.opd a) fun av => bindP (e.opd x) fun xv => bindP (e y) fun yv => e.kill y [] = e ∧ bindP (e.swp y av xv yv) fun e' => K e'
  | .asg x =>
    bindP (e.opd x) fun v =>
      match v with
      | .val t => K (e.setD d (.val t))
      | v => bindP (e.take v) fun y => K (y.2.setD d (.val y.1))
  | .pick c a b => bindP ((e.opd c).bind asB) fun t => bindP (e.opd (if t then a else b)) fun v => K (e.setD d v)
  | .bin op x y => bindP (e.opd x) fun a => bindP (e.opd y) fun b => bindP (binV op a b) fun v => K (e.setD d v)
  | .beq neg x y => bindP ((e.opd x).bind asB) fun a => bindP ((e.opd y).bind asB) fun b => K (e.setD d (.val (.sc (.bool ((a == b) != neg)))))
  | .isnil neg x => bindP ((e.opd x).bind V.isNil) fun b => K (e.setD d (.val (.sc (.bool (b != neg)))))
  | .un op x => bindP (e.opd x) fun a => bindP (unV op a) fun v => K (e.setD d v)
  | .conv k x => bindP ((e.opd x).bind asI) fun n => K (e.setD d (.val (.sc (.int k (k.wrap n)))))
  | .len x => bindP ((e.opd x).bind lenV) fun n => K (e.setD d (.val (.sc (.int .i64 n))))
  | .slen x => bindP ((e.opd x).bind slenV) fun n => K (e.setD d (.val (.sc (.int .i64 n))))
  | .idx sz x i => bindP (e.opd x) fun a => bindP ((e.opd i).bind asI) fun n => bindP (idxV sz a n) fun v => K (e.setD d v)
  | .at x i => bindP (e.opd x) fun a => bindP ((e.opd i).bind asI) fun n =>
      match a with
      | .val (.sc (.string s)) => bindP (if 0 ≤ n then s[n.toNat]? else none) fun b => K (e.setD d (.val (.sc (.int .u8 b.toNat))))
      | _ => False
  | .fld off x => bindP (e.opd x) fun a => bindP (e.fld off a) fun v => K (e.setD d v)
  | .fldv off n x => bindP (e.opd x) fun a => bindP (fldvV off n a) fun v => K (e.setD d v)
  | .ld n a => bindP (e.opd a) fun a => bindP (e.ld n a) fun v => K (e.setD d v)
  | .st n a x =>
    bindP (e.opd a) fun a => bindP (e.opd x) fun v => bindP (e.take v) fun y =>
      match a with
      | .pref r p off =>
        match y.2.tree r p with
        | some (.mem .own _ ts) => (y.1.cells.length = n.getD 1 ∧ off + y.1.cells.length ≤ ts.length ∧ y.1.cells.all T.isCell = true) ∧ K (y.2.puts r p off y.1.cells)
        | _ => False
      | _ => False
  | .nilck x =>
    bindP (e.opd x) fun a =>
      match a with
      | .pref r p o => K (e.setD d (.pref r p o))
      | .val (.mem k none ts) => K (e.setD d (.val (.mem k none ts)))
      | _ => False
  | .alloc zs => K (e.setD d (.val (.mem .own none (zs.map .sc))))
  | .box x => bindP (e.opd x) fun v => bindP (e.take v) fun y => y.1.cells.all T.isCell = true ∧ K (y.2.setD d (.val (.mem .own none y.1.cells)))
  | .build zs parts => bindP (e.parts parts) fun ps => bindP (fillV (zs.map fun z => .val (.sc z)) ps) fun vs => K (e.setD d (.vagg vs))
  | .mks z n => bindP ((e.opd n).bind asI) fun n => (0 ≤ n ∧ n ≤ (roomy : Int)) ∧ K (e.setD d (.val (.mem .own (some 1) (List.replicate n.toNat (.sc z)))))
  | .bsl parts => bindP (e.opds parts) fun vs => bindP (e.takeL vs) fun y => y.1.all T.isCell = true ∧ K (y.2.setD d (.val (.mem .own (some 1) y.1)))
  | .app mv sz x y =>
    bindP (e.opd x) fun a => bindP (e.opd y) fun b => bindP (e.base sz a) fun z => bindP (z.2.src mv sz b) fun u =>
      ((z.1.getD []).length + u.1.length ≤ roomy ∧ u.1.all T.isCell = true) ∧
        match z.1 with
        | none => (u.1 = [] → K (u.2.setD d (.val (.sc (.slice none 0 0))))) ∧ (u.1 ≠ [] → K (u.2.setD d (.val (.mem .own (some sz) u.1))))
        | some ts => K (u.2.setD d (.val (.mem .own (some sz) (ts ++ u.1))))
  | .sl sz x lo hi =>
    bindP (e.opd x) fun a =>
      bindP (e.optI lo) fun l =>
        bindP (e.optI hi) fun h =>
          bindP (slV sz a l h) fun v => K (e.setD d v)
  | .ext x i => bindP (e.opd x) fun a => bindP (extV i a) fun v => K (e.setD d v)
  | .fnc f caps => bindP (Env.caps m e caps) fun y => K (y.2.setD d (.val (.fn f y.1)))
  | .fncl f x => bindP (e.opd x) fun v => bindP (e.vcap v) fun r => K (e.setD d (.vfn f r))
  | .call f args =>
    bindP (e.opd f) fun fv =>
      match fv with
      | .val (.fn id caps) =>
        bindP (e.args args) fun ts =>
          ∃ ts' r, G id (ts ++ T.eryL .old caps) (ts' ++ T.eryL .old caps) r ∧ ts'.length = ts.length ∧
            (e.lends args = true → r.noOld = true ∧ args.all (fun x => x.2 == .r) = true) ∧
            bindP (e.back args ts') fun e' => K (e'.setD d (.val r))
      | _ => False
  | .freeze s => bindP (e.freeze m s) fun e' => K e'
  | .callm f args ks =>
    bindP (e.opd f) fun fv =>
      match fv with
      | .val (.fn id caps) =>
        bindP (e.opds (args.map (·.1))) fun vs =>
          e.wholes vs (args.map (·.2)) = true ∧
          bindP (e.takeL vs) fun y => y.2.holes vs (args.map (·.2)) = true ∧
            ∃ ts' r, G id (T.lendL y.1 ++ T.eryL .old caps) (ts' ++ T.eryL .old caps) r ∧ ts'.length = y.1.length ∧
              bindP (y.2.gives vs (args.map (·.2)) ts') fun e2 =>
                bindP (e.revive y.2 e2 vs (args.map (·.2)) ks) fun e3 => K (e3.setD d (.val r))
      | _ => False
  | .bslk x n => bindP (e.opd x) fun v => bindP (e n) fun u =>
    match v, u, d with
    | .sref r [] 1 0 l, .val (.mem .own (some 1) rs), some d => (r = n ∧ l = rs.length ∧ n ≠ d) ∧ K (((e.del n).put d (.val (.mem .own (some 1) [.mem .own (some 1) rs]))).put n (.sref d [0] 1 0 rs.length))
    | _, _, _ => False
  | .appk x y n => bindP (e.opd x) fun p => bindP (e.opd y) fun q => bindP (e.base 1 p) fun z => bindP (z.2.src true 1 q) fun u => bindP (e n) fun v =>
    match q, v, u.1, d with
    | .sref yy [] 1 0 1, .sref yy' [0] 1 0 l, [.mem .own (some 1) rs], some d => (yy' = yy ∧ l = rs.length ∧ n ≠ d ∧ (z.1.getD []).length + 1 ≤ roomy) ∧ K ((u.2.put d (.val (.mem .own (some 1) (z.1.getD [] ++ [.mem .own (some 1) rs])))).put n (.sref d [(z.1.getD []).length] 1 0 rs.length))
    | _, _, _, _ => False
  | .boxk s =>
    bindP (e s) fun v =>
      match v, d with
      | .val (.agg ts), some d => (s ≠ d ∧ ts.all T.isCell = true) ∧ K (((e.del s).put d (.val (.mem .own none ts))).put s (.vagg (T.peekL d [] 0 ts)))
      | _, _ => False
  | .settle s => bindP (e.settle s) fun e' => K e'
  | .mm mx x y => bindP (e.opd x) fun a => bindP (e.opd y) fun b => bindP (mmV mx a b) fun v => K (e.setD d v)
  | .cap0 x => bindP (e.opd x) fun a => bindP (cap0V a) fun v => K (e.setD d v)
  | .bstr x => bindP (e.opd x) fun a => bindP (e.bstr a) fun v => K (e.setD d v)
  | .bsls sz fr fo parts =>
    bindP (e.opds parts) fun vs => bindP (e.takeL vs) fun y =>
      y.1.all (fun t => t.cells.length == sz && t.cells.all T.isCell) = true ∧
        K (y.2.setD d (.val (.mem (if fo then m else .own) (some sz) (if fr || fo then T.frzL m (y.1.flatMap T.cells) else y.1.flatMap T.cells))))
  | .bslv sz parts => bindP (e.opds parts) fun vs => bindP (V.cells sz vs) fun ts => K (e.setD d (.val (.mem .own (some sz) ts)))
  | .bsl1 n =>
    bindP (e n) fun v =>
      match v with
      | .val (.mem .own (some k) ts) => (e.kill n [] = e ∧ 0 < k ∧ ts.length / k * k = ts.length) ∧ K ((e.del n).setD d (.val (.mem .own (some 1) [.mem .own (some k) ts])))
      | _ => False
  | .apz z x n =>
    bindP (e.opd x) fun v => bindP ((e.opd n).bind asI) fun n =>
      match v with
      | .val (.sc (.slice none 0 0)) => (0 < n ∧ n ≤ (roomy : Int)) ∧ K (e.setD d (.val (.mem .own (some 1) (List.replicate n.toNat (.sc z)))))
      | _ => False
  | .arr sz len x i => bindP (e.opd x) fun a => bindP ((e.opd i).bind asI) fun n => bindP (arrV sz len a n) fun v => K (e.setD d v)
  | .mkset => K (e.setD d (.val (.set [])))
  | .look x k => bindP (e.opd x) fun a => bindP ((e.opd k).bind asStr) fun s => bindP (e.setOf a) fun z => K (e.setD d (.val (.sc (.bool (decide (s ∈ z.2))))))
  | .upd x k => bindP (e.opd x) fun a => bindP ((e.opd k).bind asStr) fun s => bindP (e.setOf a) fun z => K (e.setTree z.1 [] (.set (if s ∈ z.2 then z.2 else z.2 ++ [s])))

def stepO (G : Rl) (m : K) (o : O) (K : Env → Prop) (e : Env) : Prop :=
  match o.g with
  | none => stepQ G m o.d o.q K e
  | some (s, b) =>
    match e s with
    | some (.val (.sc (.bool b'))) => if b' = b then stepQ G m o.d o.q K e else K (e.setD o.d undefV)
    | some (.val .nul) => K (e.setD o.d undefV)
    | _ => False

def wpL (G : Rl) (m : K) : List O → (Env → Prop) → Env → Prop
  | [], K, e => K e
  | o :: l, K, e => stepO G m o (wpL G m l K) e

inductive X where
  | nrm
  | ext (id : Nat)
  | ret
  deriving DecidableEq

def X.after (next : Env → Prop) (R : X → Env → Prop) : X → Env → Prop
  | .nrm, e => next e
  | x, e => R x e

def X.out (id : Nat) (R : X → Env → Prop) : X → Env → Prop
  | .ext i, e => if i = id then R .nrm e else R (.ext i) e
  | x, e => R x e

def kReg (R : X → Env → Prop) (ks : List Nat) : Env → Prop := fun e => R .nrm (e.keep ks)

def wp (G : Rl) (m : K) : C → (X → Env → Prop) → Env → Prop
  | .skip, R, e => R .nrm e
  | .region dr ops ks, R, e => wpL G m ops (kReg R ks) (match dr with | some ds => e.softs ds | none => e)
  | .seq a b, R, e => wp G m a (X.after (wp G m b R) R) e
  | .cond c a b, R, e => bindP ((e.opd c).bind asB) fun t => if t then wp G m a R e else wp G m b R e
  | .block id b, R, e => wp G m b (X.out id R) e
  | .loop b, R, e => ∀ I : Env → Prop, (∀ e, wp G m b (X.after I R) e → I e) → I e
  | .exit id, R, e => R (.ext id) e
  | .ret, R, e => R .ret e
  | .stuck, _, _ => False

/-- The value of a result. -/
def Env.rv (e : Env) : RV → Option V
  | .t s => e.peek s
  | .cell s n => (e.peek s).bind fun a => e.ld n a

def Env.rvs (e : Env) : List RV → Option (List V)
  | [] => some []
  | x :: xs => (e.rv x).bind fun v => (e.rvs xs).map fun vs => v :: vs

/-- What a function hands back. -/
def Env.result (e : Env) (rs : List RV) : Option (T × Env) :=
  match rs with
  | [r] => (e.rv r).bind fun v => e.take v
  | rs => (e.rvs rs).bind fun vs => (e.takeL vs).map fun x => (.tup x.1, x.2)

def slotT (e : Env) (s : Nat) : T :=
  match e s with
  | some (.val t) => t
  | _ => .gone

def backArgs (e : Env) : Nat → List T → List T
  | _, [] => []
  | s, t :: ts => (if t.noOwn then t else slotT e s) :: backArgs e (s + 1) ts

/-- The frame in which a function begins. -/
def init (args : List T) : Env := fun s => (args[s]?).map .val

/-- What stands behind a function's body. -/
def post (rs : List RV) (args args' : List T) (r : T) : X → Env → Prop
  | .ext _, _ => False
  | _, e => bindP (e.result rs) fun x => x.1 = r ∧ args' = backArgs x.2 0 args

def kindOf (args : List T) : K := if T.noOwnL args then .fresh else .old

/-- A program: functions with a body, and what is known of others. -/
structure Pg where
  fn : Nat → Option F
  prim : Rl := fun _ _ _ _ => False

/-- The calls that the program makes good: the least relation that is closed under its bodies. -/
def Call (pg : Pg) : Rl := fun f args args' r =>
  ∀ G : Rl, (∀ f args args' r, pg.prim f args args' r → G f args args' r) →
    (∀ f args args' r fn, pg.fn f = some fn → fn.np = args.length → fn.lets args = true → wp G (kindOf args) fn.body (post fn.rs args args' r) (init args) → G f args args' r) → G f args args' r

end Go.Mch
/- Rules by which the machine's steps are reckoned on frames that are written out. -/
namespace Go.Mch

/-- What follows, hidden from the reckoning until it is due. -/
class Kn (α : Type) where
  f : α → Prop
def bindI {α : Type} (o : Option α) [c : Kn α] : Prop := bindP o c.f
@[simp ↓] theorem bindP_hide {α : Type} (o : Option α) (f : α → Prop) : bindP o f = @bindI α o ⟨f⟩ := rfl
@[simp ↓, simp] theorem bindI_some {α : Type} (a : α) (c : Kn α) : @bindI α (some a) c = c.f a := by simp only [bindI, bindP, Option.some.injEq, exists_eq_left']
@[simp] theorem bindI_none {α : Type} (c : Kn α) : @bindI α none c = False := by simp only [bindI, bindP]; simp
@[simp] theorem bindI_ite_none {α : Type} (p : Prop) [Decidable p] (x : Option α) (c : Kn α) : @bindI α (if p then x else none) c = (p ∧ @bindI α x c) := by
  by_cases h : p
  · simp only [h, if_true, true_and]
  · simp only [h, if_false, bindI_none, false_and]
@[simp] theorem bindI_map {α β : Type} (x : Option α) (g : α → β) (c : Kn β) : @bindI β (x.map g) c = @bindI α x ⟨fun a => c.f (g a)⟩ := by
  cases x with
  | none => simp only [Option.map_none, bindI_none]
  | some a => simp only [Option.map_some, bindI_some]
@[simp] theorem bindI_bind {α β : Type} (x : Option α) (g : α → Option β) (c : Kn β) : @bindI β (x.bind g) c = @bindI α x ⟨fun a => @bindI β (g a) c⟩ := by
  cases x with
  | none => simp only [Option.bind_none, bindI_none]
  | some a => simp only [Option.bind_some, bindI_some]

/-- A step that is to leave a trace. -/
theorem nrfl {α : Type} {a b : α} (h : a = b) : a = b := h.trans rfl

/-- A frame written out: the first row of a slot counts. -/
def fr : List (Nat × Option V) → Env
  | [], _ => none
  | (k, v) :: l, s => if k = s then v else fr l s

@[simp] theorem fr_nil (s : Nat) : fr [] s = none := rfl
@[simp] theorem fr_cons (k : Nat) (v : Option V) (l : List (Nat × Option V)) (s : Nat) : fr ((k, v) :: l) s = if k = s then v else fr l s := rfl

def killV (r : Nat) (p : List Nat) (v : Option V) : Option V := match v with | some u => if u.hits r p then none else some u | none => none
@[simp] theorem killV_none (r : Nat) (p : List Nat) : killV r p none = none := rfl
@[simp] theorem killV_val (r : Nat) (p : List Nat) (t : T) : killV r p (some (.val t)) = some (.val t) := rfl
@[simp] theorem killV_sref (r : Nat) (p : List Nat) (r' : Nat) (q : List Nat) (a b c : Nat) : killV r p (some (.sref r' q a b c)) = bif (r == r' && p.isPrefixOf q) then none else some (.sref r' q a b c) := by cases h : (r == r' && p.isPrefixOf q) <;> simp only [killV, V.hits, h] <;> rfl
@[simp] theorem killV_pref (r : Nat) (p : List Nat) (r' : Nat) (q : List Nat) (a : Nat) : killV r p (some (.pref r' q a)) = bif (r == r' && p.isPrefixOf q) then none else some (.pref r' q a) := by cases h : (r == r' && p.isPrefixOf q) <;> simp only [killV, V.hits, h] <;> rfl
@[simp] theorem killV_vagg (r : Nat) (p : List Nat) (vs : List V) : killV r p (some (.vagg vs)) = bif V.hitsL r p vs then none else some (.vagg vs) := by cases h : V.hitsL r p vs <;> simp only [killV, V.hits, h] <;> rfl
@[simp] theorem killV_vtup (r : Nat) (p : List Nat) (vs : List V) : killV r p (some (.vtup vs)) = bif V.hitsL r p vs then none else some (.vtup vs) := by cases h : V.hitsL r p vs <;> simp only [killV, V.hits, h] <;> rfl
theorem killV_some (r : Nat) (p : List Nat) (u : V) : killV r p (some u) = if u.hits r p then none else some u := rfl

@[simp] theorem hits_val (r : Nat) (p : List Nat) (t : T) : (V.val t).hits r p = false := rfl
@[simp] theorem hits_sref (r : Nat) (p : List Nat) (r' : Nat) (q : List Nat) (a b c : Nat) : (V.sref r' q a b c).hits r p = (r == r' && p.isPrefixOf q) := rfl
@[simp] theorem hits_pref (r : Nat) (p : List Nat) (r' : Nat) (q : List Nat) (a : Nat) : (V.pref r' q a).hits r p = (r == r' && p.isPrefixOf q) := rfl
@[simp] theorem hits_vagg (r : Nat) (p : List Nat) (vs : List V) : (V.vagg vs).hits r p = V.hitsL r p vs := rfl
@[simp] theorem hits_vtup (r : Nat) (p : List Nat) (vs : List V) : (V.vtup vs).hits r p = V.hitsL r p vs := rfl
@[simp] theorem hitsL_nil (r : Nat) (p : List Nat) : V.hitsL r p [] = false := rfl
@[simp] theorem hitsL_cons (r : Nat) (p : List Nat) (v : V) (vs : List V) : V.hitsL r p (v :: vs) = (v.hits r p || V.hitsL r p vs) := rfl

def killL (r : Nat) (p : List Nat) : List (Nat × Option V) → List (Nat × Option V)
  | [] => []
  | (k, v) :: l => (k, killV r p v) :: killL r p l
@[simp] theorem killL_nil (r : Nat) (p : List Nat) : killL r p [] = [] := rfl
@[simp] theorem killL_cons (r : Nat) (p : List Nat) (k : Nat) (v : Option V) (l : List (Nat × Option V)) : killL r p ((k, v) :: l) = (k, killV r p v) :: killL r p l := rfl

theorem fr_killL (r : Nat) (p : List Nat) (l : List (Nat × Option V)) (s : Nat) : fr (killL r p l) s = killV r p (fr l s) := by
  induction l with
  | nil => rfl
  | cons x l ih => obtain ⟨k, v⟩ := x; by_cases h : k = s <;> simp [h, ih]

/-- Does a row name slot d? -/
def hitR (d : Nat) : List (Nat × Option V) → Bool
  | [] => false
  | (_, some v) :: l => v.hits d [] || hitR d l
  | (_, none) :: l => hitR d l
@[simp] theorem hitR_nil (d : Nat) : hitR d [] = false := nrfl rfl
@[congr] theorem cond_congr1 {α : Type} {b b' : Bool} {x y : α} (h : b = b') : cond b x y = cond b' x y := by rw [h]
@[simp] theorem hitR_none (d k : Nat) (l : List (Nat × Option V)) : hitR d ((k, none) :: l) = hitR d l := rfl
@[simp] theorem hitR_val (d k : Nat) (t : T) (l : List (Nat × Option V)) : hitR d ((k, some (.val t)) :: l) = hitR d l := rfl
@[simp] theorem hitR_sref (d k r : Nat) (q : List Nat) (a b c : Nat) (l : List (Nat × Option V)) : hitR d ((k, some (.sref r q a b c)) :: l) = (d == r || hitR d l) := by simp [hitR]
@[simp] theorem hitR_pref (d k r : Nat) (q : List Nat) (a : Nat) (l : List (Nat × Option V)) : hitR d ((k, some (.pref r q a)) :: l) = (d == r || hitR d l) := by simp [hitR]
@[simp] theorem hitR_vagg (d k : Nat) (vs : List V) (l : List (Nat × Option V)) : hitR d ((k, some (.vagg vs)) :: l) = (V.hitsL d [] vs || hitR d l) := rfl
@[simp] theorem hitR_vtup (d k : Nat) (vs : List V) (l : List (Nat × Option V)) : hitR d ((k, some (.vtup vs)) :: l) = (V.hitsL d [] vs || hitR d l) := rfl

theorem hitR_kill {d : Nat} : ∀ {l : List (Nat × Option V)}, hitR d l = false → killL d [] l = l
  | [], _ => rfl
  | (k, none) :: l, h => by simp only [killL, killV]; rw [hitR_kill (l := l) h]
  | (k, some v) :: l, h => by
    simp only [hitR, Bool.or_eq_false_iff] at h
    simp only [killL, killV, h.1, Bool.false_eq_true, if_false]; rw [hitR_kill h.2]

/-- The rows behind a put. -/
def rest (d : Nat) (l : List (Nat × Option V)) : List (Nat × Option V) := if hitR d l then killL d [] l else l

@[simp] theorem kill_fr (l : List (Nat × Option V)) (r : Nat) (p : List Nat) : (fr l).kill r p = fr (killL r p l) := by
  funext s; rw [fr_killL]; rfl
theorem put_fr0 (l : List (Nat × Option V)) (d : Nat) (v : V) : (fr l).put d v = fr ((d, if v.hits d [] then none else some v) :: killL d [] l) := by
  funext s; simp only [Env.put, fr_cons, fr_killL, Env.kill]
  by_cases h : s = d
  · simp [h]
  · simp [h, Ne.symm h]; rfl
@[simp] theorem put_fr (l : List (Nat × Option V)) (d : Nat) (v : V) : (fr l).put d v = fr ((d, killV d [] (some v)) :: bif hitR d l then killL d [] l else l) := by
  rw [put_fr0, killV_some]
  cases h : hitR d l with
  | true => rfl
  | false => rw [hitR_kill h]; rfl
@[simp] theorem del_fr (l : List (Nat × Option V)) (d : Nat) : (fr l).del d = fr ((d, none) :: bif hitR d l then killL d [] l else l) := by
  have h0 : (fr l).del d = fr ((d, none) :: killL d [] l) := by
    funext s; simp only [Env.del, fr_cons, fr_killL, Env.kill]
    by_cases h : s = d
    · simp [h]
    · simp [h, Ne.symm h]; rfl
  rw [h0]
  cases h : hitR d l with
  | true => rfl
  | false => rw [hitR_kill h]; rfl
@[simp] theorem setD_some (e : Env) (d : Nat) (v : V) : e.setD (some d) v = e.put d v := rfl
@[simp] theorem setD_none (e : Env) (v : V) : e.setD none v = e := rfl
def updV (p : List Nat) (x : T) (v : Option V) : Option V := match v with | some (.val t) => some (.val (t.setAt p x)) | _ => none
@[simp] theorem updV_val (p : List Nat) (x t : T) : updV p x (some (.val t)) = some (.val (t.setAt p x)) := rfl
@[simp] theorem setTree_fr (l : List (Nat × Option V)) (r : Nat) (p : List Nat) (x : T) : (fr l).setTree r p x = fr ((r, updV p x (fr l r)) :: killL r p l) := by
  funext s; simp only [Env.setTree, fr_cons, fr_killL, Env.kill]
  by_cases h : s = r
  · subst h; simp only [updV, if_true] <;> rfl
  · simp [h, Ne.symm h]; rfl
def keepV (ks : List Nat) (v : Option V) : Option V := match v with | some u => if u.inside ks then some u else none | none => none
@[simp] theorem keepV_none (ks : List Nat) : keepV ks none = none := rfl
@[simp] theorem keepV_val (ks : List Nat) (t : T) : keepV ks (some (.val t)) = some (.val t) := rfl
@[simp] theorem keepV_sref (ks : List Nat) (r : Nat) (q : List Nat) (a b c : Nat) : keepV ks (some (.sref r q a b c)) = bif ks.contains r then some (.sref r q a b c) else none := by cases h : ks.contains r <;> simp only [keepV, V.inside, h] <;> rfl
@[simp] theorem keepV_pref (ks : List Nat) (r : Nat) (q : List Nat) (a : Nat) : keepV ks (some (.pref r q a)) = bif ks.contains r then some (.pref r q a) else none := by cases h : ks.contains r <;> simp only [keepV, V.inside, h] <;> rfl
@[simp] theorem keepV_vagg (ks : List Nat) (vs : List V) : keepV ks (some (.vagg vs)) = bif V.insideL ks vs then some (.vagg vs) else none := by cases h : V.insideL ks vs <;> simp only [keepV, V.inside, h] <;> rfl
@[simp] theorem keepV_vtup (ks : List Nat) (vs : List V) : keepV ks (some (.vtup vs)) = bif V.insideL ks vs then some (.vtup vs) else none := by cases h : V.insideL ks vs <;> simp only [keepV, V.inside, h] <;> rfl
@[simp] theorem inside_val (ks : List Nat) (t : T) : (V.val t).inside ks = true := rfl
@[simp] theorem inside_sref (ks : List Nat) (r : Nat) (q : List Nat) (a b c : Nat) : (V.sref r q a b c).inside ks = ks.contains r := rfl
@[simp] theorem inside_pref (ks : List Nat) (r : Nat) (q : List Nat) (a : Nat) : (V.pref r q a).inside ks = ks.contains r := rfl
@[simp] theorem inside_vagg (ks : List Nat) (vs : List V) : (V.vagg vs).inside ks = V.insideL ks vs := rfl
@[simp] theorem insideL_nil (ks : List Nat) : V.insideL ks [] = true := rfl
@[simp] theorem insideL_cons (ks : List Nat) (v : V) (vs : List V) : V.insideL ks (v :: vs) = (v.inside ks && V.insideL ks vs) := rfl
def pickL (ks : List Nat) (l : List (Nat × Option V)) : List Nat → List (Nat × Option V)
  | [] => []
  | k :: r => (k, keepV ks (fr l k)) :: pickL ks l r
@[simp] theorem pickL_nil (ks : List Nat) (l : List (Nat × Option V)) : pickL ks l [] = [] := rfl
@[simp] theorem pickL_cons (ks : List Nat) (l : List (Nat × Option V)) (k : Nat) (r : List Nat) : pickL ks l (k :: r) = (k, keepV ks (fr l k)) :: pickL ks l r := rfl
theorem fr_pickL (ks : List Nat) (l : List (Nat × Option V)) (r : List Nat) (s : Nat) : fr (pickL ks l r) s = if s ∈ r then keepV ks (fr l s) else none := by
  induction r with
  | nil => rfl
  | cons k r ih =>
    by_cases h : k = s
    · simp [h]
    · simp [h, ih, Ne.symm h]
@[simp] theorem keep_fr (l : List (Nat × Option V)) (ks : List Nat) : (fr l).keep ks = fr (pickL ks l ks) := by
  funext s; rw [fr_pickL]; simp only [Env.keep, keepV, List.contains_iff_mem] <;> rfl

def frI (i : Nat) : List T → List (Nat × Option V)
  | [] => []
  | t :: ts => (i, some (.val t)) :: frI (i + 1) ts
@[simp] theorem frI_nil (i : Nat) : frI i [] = [] := rfl
@[simp] theorem frI_cons (i : Nat) (t : T) (ts : List T) : frI i (t :: ts) = (i, some (.val t)) :: frI (i + 1) ts := rfl
theorem fr_frI (ts : List T) : ∀ i s, fr (frI i ts) s = if s < i then none else (ts[s - i]?).map .val := by
  induction ts with
  | nil => intro i s; simp [frI]
  | cons t ts ih =>
    intro i s
    simp only [frI, fr_cons, ih]
    by_cases h : i = s
    · subst h; simp
    · by_cases h2 : s < i
      · have : s < i + 1 := by omega
        simp [h, h2, this]
      · have h3 : ¬ s < i + 1 := by omega
        have h4 : s - i = (s - (i + 1)) + 1 := by omega
        simp [h, h2, h3, h4]
@[simp] theorem init_fr (ts : List T) : init ts = fr (frI 0 ts) := by
  funext s; rw [fr_frI]; simp [init]

@[simp] theorem softV_none : softV none = none := rfl
@[simp] theorem softV_val (t : T) : softV (some (.val t)) = bif t.noOwn then some (.val t) else none := by cases h : t.noOwn <;> simp only [softV, h] <;> rfl
@[simp] theorem softV_sref (r : Nat) (q : List Nat) (a b c : Nat) : softV (some (.sref r q a b c)) = none := rfl
@[simp] theorem softV_pref (r : Nat) (q : List Nat) (a : Nat) : softV (some (.pref r q a)) = none := rfl
@[simp] theorem softV_vagg (vs : List V) : softV (some (.vagg vs)) = none := rfl
@[simp] theorem softV_vtup (vs : List V) : softV (some (.vtup vs)) = none := rfl
@[simp] theorem soft_fr (l : List (Nat × Option V)) (d : Nat) : (fr l).soft d = fr ((d, softV (fr l d)) :: killL d [] l) := by
  funext s
  simp only [Env.soft, fr_cons, kill_fr]
  by_cases h : s = d
  · subst h; simp
  · rw [if_neg h, if_neg (Ne.symm h)]
def softR : List Nat → Nat → Option V → Option V
  | [], _, v => v
  | d :: ds, k, v => softR ds k (if k = d then softV v else killV d [] v)
@[simp] theorem softR_nil (k : Nat) (v : Option V) : softR [] k v = v := rfl
@[simp] theorem softR_cons (d : Nat) (ds : List Nat) (k : Nat) (v : Option V) : softR (d :: ds) k v = softR ds k (if k = d then softV v else killV d [] v) := rfl
def softL (ds : List Nat) : List (Nat × Option V) → List (Nat × Option V)
  | [] => []
  | (k, v) :: l => (k, softR ds k v) :: softL ds l
@[simp] theorem softL_nil (ds : List Nat) : softL ds [] = [] := rfl
@[simp] theorem softL_cons (ds : List Nat) (k : Nat) (v : Option V) (l : List (Nat × Option V)) : softL ds ((k, v) :: l) = (k, softR ds k v) :: softL ds l := rfl
theorem fr_soft1 (d : Nat) (l : List (Nat × Option V)) (s : Nat) : fr (softL [d] l) s = if s = d then softV (fr l d) else killV d [] (fr l s) := by
  induction l with
  | nil => simp
  | cons x l ih =>
    obtain ⟨k, v⟩ := x
    simp only [softL_cons, fr_cons, softR_cons, softR_nil, ih]
    by_cases h : k = s
    · subst h
      simp only [if_true]
      by_cases h2 : k = d
      · subst h2; simp
      · simp [h2]
    · simp only [if_neg h]
      by_cases h2 : s = d
      · subst h2; simp [h]
      · simp [h2]
theorem softL_softL (d : Nat) (ds : List Nat) (l : List (Nat × Option V)) : softL ds (softL [d] l) = softL (d :: ds) l := by
  induction l with
  | nil => rfl
  | cons x l ih => obtain ⟨k, v⟩ := x; simp only [softL_cons, ih, softR_cons, softR_nil]
@[simp] theorem softs_fr (ds : List Nat) (l : List (Nat × Option V)) : (fr l).softs ds = fr (softL ds l) := by
  induction ds generalizing l with
  | nil =>
    have : softL [] l = l := by
      induction l with
      | nil => rfl
      | cons x l ih => obtain ⟨k, v⟩ := x; simp only [softL_cons, softR_nil, ih]
    rw [this]; rfl
  | cons d ds ih =>
    have h1 : (fr l).soft d = fr (softL [d] l) := by
      funext s
      rw [soft_fr, fr_soft1, fr_cons, fr_killL]
      by_cases h : s = d
      · subst h; simp
      · simp [h, Ne.symm h]
    show ((fr l).soft d).softs ds = _
    rw [h1, ih, softL_softL]

/-! ### Trees -/

@[simp] theorem at_nil (t : T) : t.at [] = some t := by cases t <;> rfl
@[simp] theorem at_own (s : Option Nat) (ts : List T) (i : Nat) (p : List Nat) : (T.mem .own s ts).at (i :: p) = (ts[i]?).bind fun u => u.at p := rfl
@[simp] theorem at_agg (ts : List T) (i : Nat) (p : List Nat) : (T.agg ts).at (i :: p) = (ts[i]?).bind fun u => u.at p := rfl
@[simp] theorem at_tup (ts : List T) (i : Nat) (p : List Nat) : (T.tup ts).at (i :: p) = (ts[i]?).bind fun u => u.at p := rfl
@[simp] theorem setAt_nil (t x : T) : t.setAt [] x = x := by cases t <;> rfl
@[simp] theorem setAt_own (s : Option Nat) (ts : List T) (i : Nat) (p : List Nat) (x : T) : (T.mem .own s ts).setAt (i :: p) x = .mem .own s (ts.set i ((ts.getD i .gone).setAt p x)) := rfl
@[simp] theorem setAt_agg (ts : List T) (i : Nat) (p : List Nat) (x : T) : (T.agg ts).setAt (i :: p) x = .agg (ts.set i ((ts.getD i .gone).setAt p x)) := rfl
@[simp] theorem setAt_tup (ts : List T) (i : Nat) (p : List Nat) (x : T) : (T.tup ts).setAt (i :: p) x = .tup (ts.set i ((ts.getD i .gone).setAt p x)) := rfl
@[simp] theorem peek_sc (r : Nat) (p : List Nat) (v : Value) : (T.sc v).peek r p = .val (.sc v) := rfl
@[simp] theorem peek_gone (r : Nat) (p : List Nat) : T.gone.peek r p = .val .gone := rfl
@[simp] theorem peek_nul (r : Nat) (p : List Nat) : T.nul.peek r p = .val .nul := rfl
@[simp] theorem peek_fn (r : Nat) (p : List Nat) (f : Nat) (cs : List T) : (T.fn f cs).peek r p = .val (.fn f cs) := rfl
@[simp] theorem peek_own (r : Nat) (p : List Nat) (sz : Nat) (ts : List T) : (T.mem .own (some sz) ts).peek r p = .sref r p sz 0 (ts.length / sz) := rfl
@[simp] theorem peek_cell (r : Nat) (p : List Nat) (ts : List T) : (T.mem .own none ts).peek r p = .pref r p 0 := rfl
@[simp] theorem peek_old (r : Nat) (p : List Nat) (s : Option Nat) (ts : List T) : (T.mem .old s ts).peek r p = .val (.mem .old s ts) := rfl
@[simp] theorem peek_fresh (r : Nat) (p : List Nat) (s : Option Nat) (ts : List T) : (T.mem .fresh s ts).peek r p = .val (.mem .fresh s ts) := rfl
@[simp] theorem peek_agg (r : Nat) (p : List Nat) (ts : List T) : (T.agg ts).peek r p = .vagg (T.peekL r p 0 ts) := rfl
@[simp] theorem peek_tup (r : Nat) (p : List Nat) (ts : List T) : (T.tup ts).peek r p = .vtup (T.peekL r p 0 ts) := rfl
@[simp] theorem peekL_nil (r : Nat) (p : List Nat) (i : Nat) : T.peekL r p i [] = [] := rfl
@[simp] theorem peekL_cons (r : Nat) (p : List Nat) (i : Nat) (t : T) (ts : List T) : T.peekL r p i (t :: ts) = t.peek r (p ++ [i]) :: T.peekL r p (i + 1) ts := rfl

def pkV (n : Nat) : Option V → Option V
  | some (.val t) => some (t.peek n [])
  | x => x
@[simp] theorem pkV_none (n : Nat) : pkV n none = none := rfl
@[simp] theorem pkV_val (n : Nat) (t : T) : pkV n (some (.val t)) = some (t.peek n []) := rfl
@[simp] theorem pkV_sref (n r : Nat) (q : List Nat) (a b c : Nat) : pkV n (some (.sref r q a b c)) = some (.sref r q a b c) := rfl
@[simp] theorem pkV_pref (n r : Nat) (q : List Nat) (a : Nat) : pkV n (some (.pref r q a)) = some (.pref r q a) := rfl
@[simp] theorem pkV_vagg (n : Nat) (vs : List V) : pkV n (some (.vagg vs)) = some (.vagg vs) := rfl
@[simp] theorem pkV_vtup (n : Nat) (vs : List V) : pkV n (some (.vtup vs)) = some (.vtup vs) := rfl
theorem peek_eq (e : Env) (n : Nat) : e.peek n = pkV n (e n) := by
  unfold Env.peek pkV
  cases e n with
  | none => rfl
  | some v => cases v <;> rfl
@[simp] theorem peek_fr (l : List (Nat × Option V)) (n : Nat) : (fr l).peek n = pkV n (fr l n) := peek_eq _ _
@[simp] theorem opd_t (e : Env) (n : Nat) : e.opd (.t n) = e.peek n := nrfl rfl
@[simp] theorem opd_c (e : Env) (v : Value) : e.opd (.c v) = some (.val (.sc v)) := nrfl rfl
@[simp] theorem opd_f (e : Env) (id : Nat) : e.opd (.f id) = some (.val (.fn id [])) := nrfl rfl
def trV (p : List Nat) : Option V → Option T
  | some (.val t) => t.at p
  | _ => none
@[simp] theorem trV_none (p : List Nat) : trV p none = none := rfl
@[simp] theorem trV_val (p : List Nat) (t : T) : trV p (some (.val t)) = t.at p := rfl
@[simp] theorem tree_fr (l : List (Nat × Option V)) (r : Nat) (p : List Nat) : (fr l).tree r p = trV p (fr l r) := by
  unfold Env.tree trV
  cases fr l r with
  | none => rfl
  | some v => cases v <;> rfl
@[simp] theorem clear_nil (e : Env) (r : Nat) : e.clear r [] = e.del r := rfl
@[simp] theorem clear_cons (e : Env) (r i : Nat) (p : List Nat) : e.clear r (i :: p) = e.setTree r (i :: p) .gone := rfl
@[simp] theorem puts_nil (e : Env) (r : Nat) (p : List Nat) (off : Nat) : e.puts r p off [] = e := rfl
@[simp] theorem puts_cons (e : Env) (r : Nat) (p : List Nat) (off : Nat) (t : T) (ts : List T) : e.puts r p off (t :: ts) = (e.setTree r (p ++ [off]) t).puts r p (off + 1) ts := rfl

/-! ### Operations -/

@[simp] theorem binV_same (op : BinOp) (k : IntKind) (a b : Int) : binV op (.val (.sc (.int k a))) (.val (.sc (.int k b))) = (binSc op k a b).map fun v => .val (.sc v) := by simp [binV]
@[simp] theorem shSc_shl (k : IntKind) (a b : Int) : shSc .shl k a b = if b < 0 then none else some (.int k (k.wrap (a * 2 ^ (min b.toNat k.bits)))) := nrfl rfl
@[simp] theorem shSc_shr (k : IntKind) (a b : Int) : shSc .shr k a b = if b < 0 then none else some (.int k (a.fdiv (2 ^ (min b.toNat k.bits)))) := nrfl rfl
@[simp] theorem binSc_shl (k : IntKind) (a b : Int) : binSc .shl k a b = shSc .shl k a b := nrfl rfl
@[simp] theorem binSc_shr (k : IntKind) (a b : Int) : binSc .shr k a b = shSc .shr k a b := nrfl rfl
@[simp] theorem binSc_and (k : IntKind) (a b : Int) : binSc .and k a b = some (.int k (k.wrap ((BitVec.ofInt k.bits a &&& BitVec.ofInt k.bits b).toNat))) := nrfl rfl
@[simp] theorem binSc_xor (k : IntKind) (a b : Int) : binSc .xor k a b = some (.int k (k.wrap ((BitVec.ofInt k.bits a ^^^ BitVec.ofInt k.bits b).toNat))) := nrfl rfl
@[simp] theorem binV_shl (k k' : IntKind) (a b : Int) : binV .shl (.val (.sc (.int k a))) (.val (.sc (.int k' b))) = (shSc .shl k a b).map fun v => .val (.sc v) := by
  unfold binV
  simp only
  split <;> rfl
@[simp] theorem binV_shr (k k' : IntKind) (a b : Int) : binV .shr (.val (.sc (.int k a))) (.val (.sc (.int k' b))) = (shSc .shr k a b).map fun v => .val (.sc v) := by
  unfold binV
  simp only
  split <;> rfl
@[simp] theorem binSc_add (k : IntKind) (a b : Int) : binSc .add k a b = arith k (a + b) := nrfl rfl
@[simp] theorem binSc_sub (k : IntKind) (a b : Int) : binSc .sub k a b = arith k (a - b) := nrfl rfl
@[simp] theorem binSc_mul (k : IntKind) (a b : Int) : binSc .mul k a b = arith k (a * b) := nrfl rfl
@[simp] theorem binSc_quo (k : IntKind) (a b : Int) : binSc .quo k a b = if b = 0 then none else arith k (a.tdiv b) := nrfl rfl
@[simp] theorem binSc_rem (k : IntKind) (a b : Int) : binSc .rem k a b = if b = 0 then none else some (.int k (a.tmod b)) := nrfl rfl
@[simp] theorem binSc_eql (k : IntKind) (a b : Int) : binSc .eql k a b = some (.bool (decide (a = b))) := by simp only [binSc]; congr 2
@[simp] theorem binSc_neq (k : IntKind) (a b : Int) : binSc .neq k a b = some (.bool (!decide (a = b))) := by simp only [binSc]; congr 2
@[simp] theorem binSc_lss (k : IntKind) (a b : Int) : binSc .lss k a b = some (.bool (a < b)) := nrfl rfl
@[simp] theorem binSc_leq (k : IntKind) (a b : Int) : binSc .leq k a b = some (.bool (a ≤ b)) := nrfl rfl
@[simp] theorem binSc_gtr (k : IntKind) (a b : Int) : binSc .gtr k a b = some (.bool (a > b)) := nrfl rfl
@[simp] theorem binSc_geq (k : IntKind) (a b : Int) : binSc .geq k a b = some (.bool (a ≥ b)) := nrfl rfl
@[simp] theorem arith_i64 (n : Int) : arith .i64 n = if -9223372036854775808 ≤ n ∧ n ≤ 9223372036854775807 then some (.int .i64 n) else none := by rw [arith, if_pos rfl]
@[simp] theorem unV_not (b : Bool) : unV .not (.val (.sc (.bool b))) = some (.val (.sc (.bool !b))) := nrfl rfl
@[simp] theorem unV_neg (k : IntKind) (n : Int) : unV .neg (.val (.sc (.int k n))) = (arith k (0 - n)).map fun v => .val (.sc v) := nrfl rfl
@[simp] theorem lenV_nil : lenV (.val (.sc (.slice none 0 0))) = some 0 := nrfl rfl
@[simp] theorem lenV_odd (a : Addr) : lenV (.val (.sc (.slice (some a) 0 0))) = some 0 := nrfl rfl
@[simp] theorem lenV_mem (k : K) (sz : Nat) (ts : List T) : lenV (.val (.mem k (some sz) ts)) = some (ts.length / sz) := nrfl rfl
@[simp] theorem lenV_sref (r : Nat) (p : List Nat) (a b c : Nat) : lenV (.sref r p a b c) = some c := nrfl rfl
@[simp] theorem slenV_str (s : ByteArray) : slenV (.val (.sc (.string s))) = some s.size := nrfl rfl
@[simp] theorem asI_int (k : IntKind) (n : Int) : asI (.val (.sc (.int k n))) = some n := nrfl rfl
@[simp] theorem asB_bool (b : Bool) : asB (.val (.sc (.bool b))) = some b := nrfl rfl
@[simp] theorem isNil_nil : V.isNil (.val (.sc (.slice none 0 0))) = some true := nrfl rfl
@[simp] theorem isNil_odd (a : Addr) : V.isNil (.val (.sc (.slice (some a) 0 0))) = some false := nrfl rfl
@[simp] theorem isNil_mem (k : K) (sz : Nat) (ts : List T) : V.isNil (.val (.mem k (some sz) ts)) = some false := nrfl rfl
@[simp] theorem isNil_sref (r : Nat) (p : List Nat) (a b c : Nat) : V.isNil (.sref r p a b c) = some false := nrfl rfl
@[simp] theorem optI_none (e : Env) : e.optI none = some none := nrfl rfl
@[simp] theorem optI_some (e : Env) (x : Opd) : e.optI (some x) = ((e.opd x).bind asI).map some := nrfl rfl
@[simp] theorem idxV_mem (sz sz' : Nat) (k : K) (ts : List T) (i : Int) : idxV sz (.val (.mem k (some sz') ts)) i = if sz' = sz ∧ 0 ≤ i ∧ i < ((ts.length / sz : Nat) : Int) then some (.val (.mem k none (win ts (i.toNat * sz) sz))) else none := nrfl rfl
@[simp] theorem idxV_sref (sz r : Nat) (p : List Nat) (a b c : Nat) (i : Int) : idxV sz (.sref r p a b c) i = if a = sz ∧ 0 ≤ i ∧ i < (c : Int) then some (.pref r p ((b + i.toNat) * sz)) else none := nrfl rfl
@[simp] theorem fld_mem (e : Env) (off : Nat) (k : K) (ts : List T) : e.fld off (.val (.mem k none ts)) = if off ≤ ts.length then some (.val (.mem k none (ts.drop off))) else none := nrfl rfl
def fldT (off r : Nat) (p : List Nat) (o : Nat) : Option T → Option V
  | some (.mem .own _ ts) => if o + off ≤ ts.length then some (.pref r p (o + off)) else none
  | _ => none
@[simp] theorem fld_pref (e : Env) (off r : Nat) (p : List Nat) (o : Nat) : e.fld off (.pref r p o) = fldT off r p o (e.tree r p) := nrfl rfl
@[simp] theorem fldT_own (off r : Nat) (p : List Nat) (o : Nat) (s : Option Nat) (ts : List T) : fldT off r p o (some (.mem .own s ts)) = if o + off ≤ ts.length then some (.pref r p (o + off)) else none := nrfl rfl
@[simp] theorem ld_mem (e : Env) (k : K) (ts : List T) : e.ld none (.val (.mem k none ts)) = (ts[0]?).map .val := nrfl rfl
@[simp] theorem ld_mem_n (e : Env) (n : Nat) (k : K) (ts : List T) : e.ld (some n) (.val (.mem k none ts)) = if n ≤ ts.length then some (.vagg ((ts.take n).map .val)) else none := nrfl rfl
def ldT (r : Nat) (p : List Nat) (off : Nat) : Option T → Option V
  | some (.mem .own _ ts) => (ts[off]?).map fun t => t.peek r (p ++ [off])
  | _ => none
def ldTn (n r : Nat) (p : List Nat) (off : Nat) : Option T → Option V
  | some (.mem .own _ ts) => if off + n ≤ ts.length then some (.vagg (T.peekL r p off (win ts off n))) else none
  | _ => none
@[simp] theorem ld_pref (e : Env) (r : Nat) (p : List Nat) (off : Nat) : e.ld none (.pref r p off) = ldT r p off (e.tree r p) := nrfl rfl
@[simp] theorem ld_pref_n (e : Env) (n r : Nat) (p : List Nat) (off : Nat) : e.ld (some n) (.pref r p off) = ldTn n r p off (e.tree r p) := nrfl rfl
@[simp] theorem ldT_own (r : Nat) (p : List Nat) (off : Nat) (s : Option Nat) (ts : List T) : ldT r p off (some (.mem .own s ts)) = (ts[off]?).map fun t => t.peek r (p ++ [off]) := nrfl rfl
@[simp] theorem ldTn_own (n r : Nat) (p : List Nat) (off : Nat) (s : Option Nat) (ts : List T) : ldTn n r p off (some (.mem .own s ts)) = if off + n ≤ ts.length then some (.vagg (T.peekL r p off (win ts off n))) else none := nrfl rfl
@[simp] theorem fldvV_n (off : Nat) (vs : List V) : fldvV off none (.vagg vs) = vs[off]? := nrfl rfl
@[simp] theorem fldvV_s (off n : Nat) (vs : List V) : fldvV off (some n) (.vagg vs) = if off + n ≤ vs.length then some (.vagg ((vs.drop off).take n)) else none := nrfl rfl
@[simp] theorem extV_tup (i : Nat) (vs : List V) : extV i (.vtup vs) = vs[i]? := nrfl rfl
@[simp] theorem slV_mem (sz sz' : Nat) (k : K) (ts : List T) (lo hi : Option Int) : slV sz (.val (.mem k (some sz') ts)) lo hi = if sz' = sz ∧ 0 ≤ lo.getD 0 ∧ lo.getD 0 ≤ hi.getD ((ts.length / sz : Nat) : Int) ∧ hi.getD ((ts.length / sz : Nat) : Int) ≤ ((ts.length / sz : Nat) : Int) then some (.val (.mem k (some sz) (win ts ((lo.getD 0).toNat * sz) (((hi.getD ((ts.length / sz : Nat) : Int)).toNat - (lo.getD 0).toNat) * sz)))) else none := nrfl rfl
@[simp] theorem slV_sref (sz r : Nat) (p : List Nat) (a b c : Nat) (lo hi : Option Int) : slV sz (.sref r p a b c) lo hi = if a = sz ∧ 0 ≤ lo.getD 0 ∧ lo.getD 0 ≤ hi.getD (c : Int) ∧ hi.getD (c : Int) ≤ (c : Int) then some (.sref r p sz (b + (lo.getD 0).toNat) ((hi.getD (c : Int)).toNat - (lo.getD 0).toNat)) else none := nrfl rfl

@[simp] theorem noOwn_sc (v : Value) : (T.sc v).noOwn = true := rfl
@[simp] theorem noOwn_gone : T.gone.noOwn = true := rfl
@[simp] theorem noOwn_nul : T.nul.noOwn = true := rfl
@[simp] theorem noOwn_own (s : Option Nat) (ts : List T) : (T.mem .own s ts).noOwn = false := rfl
@[simp] theorem noOwn_old (s : Option Nat) (ts : List T) : (T.mem .old s ts).noOwn = T.noOwnL ts := rfl
@[simp] theorem noOwn_fresh (s : Option Nat) (ts : List T) : (T.mem .fresh s ts).noOwn = T.noOwnL ts := rfl
@[simp] theorem noOwn_fn (f : Nat) (cs : List T) : (T.fn f cs).noOwn = T.noOwnL cs := rfl
@[simp] theorem noOwn_agg (ts : List T) : (T.agg ts).noOwn = T.noOwnL ts := rfl
@[simp] theorem noOwn_tup (ts : List T) : (T.tup ts).noOwn = T.noOwnL ts := rfl
@[simp] theorem noOwnL_nil : T.noOwnL [] = true := rfl
@[simp] theorem noOwnL_cons (t : T) (ts : List T) : T.noOwnL (t :: ts) = (t.noOwn && T.noOwnL ts) := rfl

@[simp] theorem take_val (e : Env) (t : T) : e.take (.val t) = if t.noOwn then some (t, e) else none := nrfl rfl
def takeS (e : Env) (r : Nat) (p : List Nat) (sz off len : Nat) : Option T → Option (T × Env)
  | some (.mem .own (some sz') ts) => if sz' = sz ∧ (off + len) * sz ≤ ts.length ∧ 0 < sz then some (.mem .own (some sz) (win ts (off * sz) (len * sz)), e.clear r p) else none
  | _ => none
@[simp] theorem take_sref (e : Env) (r : Nat) (p : List Nat) (sz off len : Nat) : e.take (.sref r p sz off len) = takeS e r p sz off len (e.tree r p) := by
  unfold Env.take takeS
  rfl
@[simp] theorem takeS_own (e : Env) (r : Nat) (p : List Nat) (sz off len sz' : Nat) (ts : List T) : takeS e r p sz off len (some (.mem .own (some sz') ts)) = if sz' = sz ∧ (off + len) * sz ≤ ts.length ∧ 0 < sz then some (.mem .own (some sz) (win ts (off * sz) (len * sz)), e.clear r p) else none := nrfl rfl
def takeP (e : Env) (r : Nat) (p : List Nat) (off : Nat) : Option T → Option (T × Env)
  | some (.mem .own none ts) => if off = 0 then some (.mem .own none ts, e.clear r p) else none
  | _ => none
@[simp] theorem take_pref (e : Env) (r : Nat) (p : List Nat) (off : Nat) : e.take (.pref r p off) = takeP e r p off (e.tree r p) := by
  unfold Env.take takeP
  rfl
@[simp] theorem takeP_own (e : Env) (r : Nat) (p : List Nat) (off : Nat) (ts : List T) : takeP e r p off (some (.mem .own none ts)) = if off = 0 then some (.mem .own none ts, e.clear r p) else none := nrfl rfl
@[simp] theorem take_vagg (e : Env) (vs : List V) : e.take (.vagg vs) = (e.takeL vs).map fun x => (.agg x.1, x.2) := nrfl rfl
@[simp] theorem take_vtup (e : Env) (vs : List V) : e.take (.vtup vs) = (e.takeL vs).map fun x => (.tup x.1, x.2) := nrfl rfl
@[simp] theorem takeL_nil (e : Env) : e.takeL [] = some ([], e) := nrfl rfl
@[simp] theorem takeL_cons (e : Env) (v : V) (vs : List V) : e.takeL (v :: vs) = (e.take v).bind fun x => (x.2.takeL vs).map fun y => (x.1 :: y.1, y.2) := nrfl rfl

@[simp] theorem cells_sc (v : Value) : (T.sc v).cells = [.sc v] := rfl
@[simp] theorem cells_mem (k : K) (s : Option Nat) (ts : List T) : (T.mem k s ts).cells = [.mem k s ts] := rfl
@[simp] theorem cells_fn (f : Nat) (cs : List T) : (T.fn f cs).cells = [.fn f cs] := rfl
@[simp] theorem cells_agg (ts : List T) : (T.agg ts).cells = ts := rfl
@[simp] theorem isCell_sc (v : Value) : (T.sc v).isCell = true := rfl
@[simp] theorem isCell_mem (k : K) (s : Option Nat) (ts : List T) : (T.mem k s ts).isCell = true := rfl
@[simp] theorem isCell_fn (f : Nat) (cs : List T) : (T.fn f cs).isCell = true := rfl

@[simp] theorem rv_t (e : Env) (s : Nat) : e.rv (.t s) = e.peek s := nrfl rfl
@[simp] theorem rv_cell (e : Env) (s : Nat) (n : Option Nat) : e.rv (.cell s n) = (e.peek s).bind fun a => e.ld n a := nrfl rfl
@[simp] theorem rvs_nil (e : Env) : e.rvs [] = some [] := nrfl rfl
@[simp] theorem rvs_cons (e : Env) (x : RV) (xs : List RV) : e.rvs (x :: xs) = (e.rv x).bind fun v => (e.rvs xs).map fun vs => v :: vs := nrfl rfl
@[simp] theorem result_nil (e : Env) : e.result [] = (e.rvs []).bind fun vs => (e.takeL vs).map fun x => (.tup x.1, x.2) := nrfl rfl
@[simp] theorem result_one (e : Env) (r : RV) : e.result [r] = (e.rv r).bind fun v => e.take v := nrfl rfl
@[simp] theorem result_two (e : Env) (r r' : RV) (rs : List RV) : e.result (r :: r' :: rs) = (e.rvs (r :: r' :: rs)).bind fun vs => (e.takeL vs).map fun x => (.tup x.1, x.2) := nrfl rfl
@[simp] theorem backArgs_nil (e : Env) (s : Nat) : backArgs e s [] = [] := rfl
@[simp] theorem backArgs_cons (e : Env) (s : Nat) (t : T) (ts : List T) : backArgs e s (t :: ts) = (if t.noOwn then t else slotT e s) :: backArgs e (s + 1) ts := rfl
def slT : Option V → T
  | some (.val t) => t
  | _ => .gone
@[simp] theorem slT_val (t : T) : slT (some (.val t)) = t := rfl
@[simp] theorem slT_none : slT none = .gone := rfl
@[simp] theorem slotT_fr (l : List (Nat × Option V)) (s : Nat) : slotT (fr l) s = slT (fr l s) := by
  unfold slotT slT
  cases fr l s with
  | none => rfl
  | some v => cases v <;> rfl
@[simp] theorem post_nrm (rs : List RV) (args args' : List T) (r : T) (e : Env) : post rs args args' r .nrm e = bindP (e.result rs) fun x => x.1 = r ∧ args' = backArgs x.2 0 args := rfl
@[simp] theorem post_ret (rs : List RV) (args args' : List T) (r : T) (e : Env) : post rs args args' r .ret e = bindP (e.result rs) fun x => x.1 = r ∧ args' = backArgs x.2 0 args := rfl

@[simp] theorem base_nil (e : Env) (sz : Nat) : e.base sz (.val (.sc (.slice none 0 0))) = some (none, e) := nrfl rfl
def baseS (sz : Nat) : Option (T × Env) → Option (Option (List T) × Env)
  | some (.mem .own (some sz') ts, e') => if sz' = sz then some (some ts, e') else none
  | _ => none
@[simp] theorem base_sref (e : Env) (sz r : Nat) (p : List Nat) (a b c : Nat) : e.base sz (.sref r p a b c) = baseS sz (e.take (.sref r p a b c)) := by
  unfold Env.base baseS
  rfl
@[simp] theorem baseS_own (sz sz' : Nat) (ts : List T) (e' : Env) : baseS sz (some (.mem .own (some sz') ts, e')) = if sz' = sz then some (some ts, e') else none := nrfl rfl
@[simp] theorem baseS_ite (sz : Nat) (c : Prop) [Decidable c] (x : Option (T × Env)) : baseS sz (if c then x else none) = if c then baseS sz x else none := by split <;> rfl
@[simp] theorem src_nil (e : Env) (mv : Bool) (sz : Nat) : e.src mv sz (.val (.sc (.slice none 0 0))) = some ([], e) := nrfl rfl
@[simp] theorem src_old (e : Env) (mv : Bool) (sz sz' : Nat) (ts : List T) : e.src mv sz (.val (.mem .old (some sz') ts)) = if sz' = sz ∧ T.noOwnL ts = true ∧ ts.length % sz = 0 then some (ts, e) else none := by simp [Env.src]
@[simp] theorem src_fresh (e : Env) (mv : Bool) (sz sz' : Nat) (ts : List T) : e.src mv sz (.val (.mem .fresh (some sz') ts)) = if sz' = sz ∧ T.noOwnL ts = true ∧ ts.length % sz = 0 then some (ts, e) else none := by simp [Env.src]
def srcS (e : Env) (mv : Bool) (sz r : Nat) (p : List Nat) (sz' off len : Nat) : Option T → Option (List T × Env)
  | some (.mem .own (some _) ts) =>
    if sz' = sz ∧ (off + len) * sz ≤ ts.length then
      (if mv then (if p = [] then some (win ts (off * sz) (len * sz), e.del r) else none)
       else if T.noOwnL (win ts (off * sz) (len * sz)) then some (win ts (off * sz) (len * sz), e) else none)
    else none
  | _ => none
@[simp] theorem src_sref (e : Env) (mv : Bool) (sz r : Nat) (p : List Nat) (sz' off len : Nat) : e.src mv sz (.sref r p sz' off len) = srcS e mv sz r p sz' off len (e.tree r p) := by
  unfold Env.src srcS
  rfl
@[simp] theorem srcS_mv (e : Env) (sz r : Nat) (sz' off len sz2 : Nat) (ts : List T) : srcS e true sz r [] sz' off len (some (.mem .own (some sz2) ts)) = if sz' = sz ∧ (off + len) * sz ≤ ts.length then some (win ts (off * sz) (len * sz), e.del r) else none := by simp [srcS]
@[simp] theorem srcS_cp (e : Env) (sz r : Nat) (p : List Nat) (sz' off len sz2 : Nat) (ts : List T) : srcS e false sz r p sz' off len (some (.mem .own (some sz2) ts)) = if sz' = sz ∧ (off + len) * sz ≤ ts.length ∧ T.noOwnL (win ts (off * sz) (len * sz)) = true then some (win ts (off * sz) (len * sz), e) else none := by
  simp only [srcS, Bool.false_eq_true, if_false]
  by_cases h : sz' = sz ∧ (off + len) * sz ≤ ts.length
  · rw [if_pos h]
    by_cases h2 : T.noOwnL (win ts (off * sz) (len * sz)) = true
    · simp [h, h2]
    · simp [h2]
  · rw [if_neg h, if_neg fun hh => h ⟨hh.1, hh.2.1⟩]

@[simp] theorem rootly_val (t : T) : (V.val t).rootly = t.noOwn := rfl
@[simp] theorem rootly_sref (r : Nat) (p : List Nat) (a b c : Nat) : (V.sref r p a b c).rootly = p.isEmpty := rfl
@[simp] theorem rootly_pref (r : Nat) (p : List Nat) (a : Nat) : (V.pref r p a).rootly = p.isEmpty := rfl

@[simp] theorem opds_nil (e : Env) : e.opds [] = some [] := nrfl rfl
@[simp] theorem opds_cons (e : Env) (x : Opd) (xs : List Opd) : e.opds (x :: xs) = (e.opd x).bind fun v => (e.opds xs).map fun vs => v :: vs := nrfl rfl
@[simp] theorem parts_nil (e : Env) : e.parts [] = some [] := nrfl rfl
@[simp] theorem parts_cons (e : Env) (i n : Nat) (x : Opd) (xs : List (Nat × Nat × Opd)) : e.parts ((i, n, x) :: xs) = (e.opd x).bind fun v => (e.parts xs).map fun vs => (i, n, v) :: vs := nrfl rfl
@[simp] theorem fillV_nil (vs : List V) : fillV vs [] = some vs := nrfl rfl
@[simp] theorem fillV_vagg (vs us : List V) (i n : Nat) (r : List (Nat × Nat × V)) : fillV vs ((i, n, .vagg us) :: r) = if us.length = n ∧ i + n ≤ vs.length then fillV (vs.take i ++ us ++ vs.drop (i + n)) r else none := nrfl rfl
@[simp] theorem fillV_sref (vs : List V) (i n s : Nat) (p : List Nat) (a b c : Nat) (r : List (Nat × Nat × V)) : fillV vs ((i, n, .sref s p a b c) :: r) = if n = 1 ∧ i + n ≤ vs.length then fillV (vs.take i ++ [.sref s p a b c] ++ vs.drop (i + n)) r else none := nrfl rfl
@[simp] theorem fillV_pref (vs : List V) (i n s : Nat) (p : List Nat) (a : Nat) (r : List (Nat × Nat × V)) : fillV vs ((i, n, .pref s p a) :: r) = if n = 1 ∧ i + n ≤ vs.length then fillV (vs.take i ++ [.pref s p a] ++ vs.drop (i + n)) r else none := nrfl rfl
@[simp] theorem fillV_sc (vs : List V) (i n : Nat) (v : Value) (r : List (Nat × Nat × V)) : fillV vs ((i, n, .val (.sc v)) :: r) = if n = 1 ∧ i + n ≤ vs.length then fillV (vs.take i ++ [.val (.sc v)] ++ vs.drop (i + n)) r else none := nrfl rfl
@[simp] theorem fillV_mem (vs : List V) (i n : Nat) (k : K) (s : Option Nat) (ts : List T) (r : List (Nat × Nat × V)) : fillV vs ((i, n, .val (.mem k s ts)) :: r) = if n = 1 ∧ i + n ≤ vs.length then fillV (vs.take i ++ [.val (.mem k s ts)] ++ vs.drop (i + n)) r else none := nrfl rfl
@[simp] theorem fillV_fn (vs : List V) (i n f : Nat) (cs : List T) (r : List (Nat × Nat × V)) : fillV vs ((i, n, .val (.fn f cs)) :: r) = if n = 1 ∧ i + n ≤ vs.length then fillV (vs.take i ++ [.val (.fn f cs)] ++ vs.drop (i + n)) r else none := nrfl rfl

/-! ### Calls -/

@[simp] theorem args_nil (e : Env) : e.args [] = some [] := nrfl rfl
@[simp] theorem args_r (e : Env) (x : Opd) (xs : List (Opd × Mode)) : e.args ((x, .r) :: xs) = (e.opd x).bind fun v => (e.res v).bind fun t => (e.args xs).map fun ts => t :: ts := nrfl rfl
def lentO : Option V → Bool
  | some v => v.lent
  | none => true
@[simp] theorem lentO_some (v : V) : lentO (some v) = v.lent := rfl
@[simp] theorem lends_nil (e : Env) : e.lends [] = false := rfl
@[simp] theorem lends_r (e : Env) (x : Opd) (xs : List (Opd × Mode)) : e.lends ((x, .r) :: xs) = (lentO (e.opd x) || e.lends xs) := by
  simp only [Env.lends, lentO] <;> cases e.opd x <;> rfl
@[simp] theorem back_nil (e : Env) : e.back [] [] = some e := nrfl rfl
@[simp] theorem back_r1 (e : Env) (x : Opd) (xs : List (Opd × Mode)) (t : T) (ts : List T) : e.back ((x, .r) :: xs) (t :: ts) = e.back xs ts := nrfl rfl
@[simp] theorem lent_val (t : T) : (V.val t).lent = false := rfl
@[simp] theorem lent_sref (r : Nat) (p : List Nat) (a b c : Nat) : (V.sref r p a b c).lent = true := rfl
@[simp] theorem lent_pref (r : Nat) (p : List Nat) (a : Nat) : (V.pref r p a).lent = true := rfl
@[simp] theorem lent_vagg (vs : List V) : (V.vagg vs).lent = V.lentL vs := rfl
@[simp] theorem lent_vtup (vs : List V) : (V.vtup vs).lent = V.lentL vs := rfl
@[simp] theorem lentL_nil : V.lentL [] = false := rfl
@[simp] theorem lentL_cons (v : V) (vs : List V) : V.lentL (v :: vs) = (v.lent || V.lentL vs) := rfl
@[simp] theorem res_val (e : Env) (t : T) : e.res (.val t) = if t.noOwn then some (t.ery .old) else none := nrfl rfl
def resS (sz off len : Nat) : Option T → Option T
  | some (.mem .own _ ts) => if (off + len) * sz ≤ ts.length then some (.mem .old (some sz) (T.eryL .old (win ts (off * sz) (len * sz)))) else none
  | _ => none
@[simp] theorem res_sref (e : Env) (r : Nat) (p : List Nat) (sz off len : Nat) : e.res (.sref r p sz off len) = resS sz off len (e.tree r p) := by
  unfold Env.res resS
  rfl
@[simp] theorem resS_own (sz off len : Nat) (s : Option Nat) (ts : List T) : resS sz off len (some (.mem .own s ts)) = if (off + len) * sz ≤ ts.length then some (.mem .old (some sz) (T.eryL .old (win ts (off * sz) (len * sz)))) else none := nrfl rfl
def resP (off : Nat) : Option T → Option T
  | some (.mem .own _ ts) => if off ≤ ts.length then some (.mem .old none (T.eryL .old (ts.drop off))) else none
  | _ => none
@[simp] theorem res_pref (e : Env) (r : Nat) (p : List Nat) (off : Nat) : e.res (.pref r p off) = resP off (e.tree r p) := by
  unfold Env.res resP
  rfl
@[simp] theorem resP_own (off : Nat) (s : Option Nat) (ts : List T) : resP off (some (.mem .own s ts)) = if off ≤ ts.length then some (.mem .old none (T.eryL .old (ts.drop off))) else none := nrfl rfl
@[simp] theorem res_vagg (e : Env) (vs : List V) : e.res (.vagg vs) = (e.resL vs).map .agg := nrfl rfl
@[simp] theorem res_vtup (e : Env) (vs : List V) : e.res (.vtup vs) = (e.resL vs).map .tup := nrfl rfl
@[simp] theorem resL_nil (e : Env) : e.resL [] = some [] := nrfl rfl
@[simp] theorem resL_cons (e : Env) (v : V) (vs : List V) : e.resL (v :: vs) = (e.res v).bind fun t => (e.resL vs).map fun ts => t :: ts := nrfl rfl
@[simp] theorem ery_sc (k : K) (v : Value) : (T.sc v).ery k = .sc v := rfl
@[simp] theorem ery_mem (k k' : K) (s : Option Nat) (ts : List T) : (T.mem k' s ts).ery k = .mem k s (T.eryL k ts) := rfl
@[simp] theorem ery_fn (k : K) (f : Nat) (cs : List T) : (T.fn f cs).ery k = .fn f (T.eryL k cs) := rfl
@[simp] theorem ery_agg (k : K) (ts : List T) : (T.agg ts).ery k = .agg (T.eryL k ts) := rfl
@[simp] theorem ery_tup (k : K) (ts : List T) : (T.tup ts).ery k = .tup (T.eryL k ts) := rfl
@[simp] theorem eryL_nil (k : K) : T.eryL k [] = [] := rfl
@[simp] theorem eryL_cons (k : K) (t : T) (ts : List T) : T.eryL k (t :: ts) = t.ery k :: T.eryL k ts := rfl
@[simp] theorem noOld_sc (v : Value) : (T.sc v).noOld = true := rfl
@[simp] theorem noOld_own (s : Option Nat) (ts : List T) : (T.mem .own s ts).noOld = T.noOldL ts := rfl
@[simp] theorem noOld_fresh (s : Option Nat) (ts : List T) : (T.mem .fresh s ts).noOld = T.noOldL ts := rfl
@[simp] theorem noOld_old (s : Option Nat) (ts : List T) : (T.mem .old s ts).noOld = false := rfl
@[simp] theorem noOld_fn (f : Nat) (cs : List T) : (T.fn f cs).noOld = T.noOldL cs := rfl
@[simp] theorem noOld_agg (ts : List T) : (T.agg ts).noOld = T.noOldL ts := rfl
@[simp] theorem noOld_tup (ts : List T) : (T.tup ts).noOld = T.noOldL ts := rfl
@[simp] theorem noOldL_nil : T.noOldL [] = true := rfl
@[simp] theorem noOldL_cons (t : T) (ts : List T) : T.noOldL (t :: ts) = (t.noOld && T.noOldL ts) := rfl
@[simp] theorem lend_sc (v : Value) : (T.sc v).lend = .sc v := rfl
@[simp] theorem lend_own (s : Option Nat) (ts : List T) : (T.mem .own s ts).lend = .mem .own s (T.lendL ts) := rfl
@[simp] theorem lend_old (s : Option Nat) (ts : List T) : (T.mem .old s ts).lend = .mem .old s (T.lendL ts) := rfl
@[simp] theorem lend_fresh (s : Option Nat) (ts : List T) : (T.mem .fresh s ts).lend = .mem .old s (T.lendL ts) := rfl
@[simp] theorem lend_agg (ts : List T) : (T.agg ts).lend = .agg (T.lendL ts) := rfl
@[simp] theorem lend_fn (f : Nat) (cs : List T) : (T.fn f cs).lend = .fn f (T.eryL .old cs) := rfl
@[simp] theorem lendL_nil : T.lendL [] = [] := rfl
@[simp] theorem lendL_cons (t : T) (ts : List T) : T.lendL (t :: ts) = t.lend :: T.lendL ts := rfl

/-! ### Code -/

/-- A loop: what is kept until a round leaves it. -/
def wpLoop (G : Rl) (m : K) (b : C) (R : X → Env → Prop) (e : Env) : Prop := wp G m (.loop b) R e

section
variable (G : Rl) (m : K) (R : X → Env → Prop) (e : Env) (k : Env → Prop)
@[simp ↓] theorem wp_skip' : wp G m .skip R e = R .nrm e := rfl
@[simp ↓] theorem wp_region_f (ops : List O) (ks : List Nat) : wp G m (.region none ops ks) R e = wpL G m ops (kReg R ks) e := rfl
@[simp ↓] theorem wp_region_t (ds : List Nat) (ops : List O) (ks : List Nat) : wp G m (.region (some ds) ops ks) R e = wpL G m ops (kReg R ks) (e.softs ds) := rfl
@[simp ↓] theorem wp_seq' (a b : C) : wp G m (.seq a b) R e = wp G m a (X.after (wp G m b R) R) e := rfl
@[simp ↓] theorem wp_cond' (c : Opd) (a b : C) : wp G m (.cond c a b) R e = bindP ((e.opd c).bind asB) fun t => if t then wp G m a R e else wp G m b R e := rfl
@[simp ↓] theorem wp_block' (id : Nat) (b : C) : wp G m (.block id b) R e = wp G m b (X.out id R) e := rfl
@[simp ↓] theorem wp_loop' (b : C) : wp G m (.loop b) R e = wpLoop G m b R e := rfl
@[simp ↓] theorem wp_exit' (id : Nat) : wp G m (.exit id) R e = R (.ext id) e := rfl
@[simp ↓] theorem wp_ret' : wp G m .ret R e = R .ret e := rfl
@[simp ↓] theorem after_nrm (next : Env → Prop) : X.after next R .nrm e = next e := rfl
@[simp ↓] theorem after_ext (next : Env → Prop) (id : Nat) : X.after next R (.ext id) e = R (.ext id) e := rfl
@[simp ↓] theorem after_ret (next : Env → Prop) : X.after next R .ret e = R .ret e := rfl
@[simp ↓] theorem out_nrm (id : Nat) : X.out id R .nrm e = R .nrm e := rfl
@[simp ↓] theorem out_ret (id : Nat) : X.out id R .ret e = R .ret e := rfl
@[simp ↓] theorem out_ext (id i : Nat) : X.out id R (.ext i) e = if i = id then R .nrm e else R (.ext i) e := rfl
@[simp] theorem kReg' (ks : List Nat) : kReg R ks e = R .nrm (e.keep ks) := rfl
@[simp ↓] theorem wpL_nil : wpL G m [] k e = k e := rfl
@[simp ↓] theorem wpL_cons (o : O) (l : List O) : wpL G m (o :: l) k e = stepO G m o (wpL G m l k) e := rfl
@[simp] theorem stepO_none (d : Option Nat) (q : Q) : stepO G m ⟨d, none, q⟩ k e = stepQ G m d q k e := rfl
def frAt (e : Env) (s : Nat) : Option V := e s
@[simp] theorem frAt_fr (l : List (Nat × Option V)) (s : Nat) : frAt (fr l) s = fr l s := nrfl rfl
class Gd where
  yes : Prop
  no : Prop
def guardV (b : Bool) (o : Option V) [c : Gd] : Prop :=
  match o with
  | some (.val (.sc (.bool b'))) => if b' = b then c.yes else c.no
  | some (.val .nul) => c.no
  | _ => False
@[simp ↓, simp] theorem guardV_tt (c : Gd) : @guardV true (some (.val (.sc (.bool true)))) c = c.yes := by simp only [guardV, if_true]
@[simp ↓, simp] theorem guardV_ff (c : Gd) : @guardV false (some (.val (.sc (.bool false)))) c = c.yes := by simp only [guardV, if_true]
@[simp ↓, simp] theorem guardV_tf (c : Gd) : @guardV true (some (.val (.sc (.bool false)))) c = c.no := by simp [guardV]
@[simp ↓, simp] theorem guardV_ft (c : Gd) : @guardV false (some (.val (.sc (.bool true)))) c = c.no := by simp [guardV]
@[simp ↓, simp] theorem guardV_nul (b : Bool) (c : Gd) : @guardV b (some (.val .nul)) c = c.no := rfl
@[simp] theorem stepO_some (d : Option Nat) (s : Nat) (b : Bool) (q : Q) : stepO G m ⟨d, some (s, b), q⟩ k e = @guardV b (frAt e s) ⟨stepQ G m d q k e, k (e.setD d undefV)⟩ := by
  unfold stepO guardV frAt
  rfl
end

/-- In what is asked of a code only the frame is reckoned. -/
@[congr] theorem wp_congr {G : Rl} {m : K} {c : C} {R : X → Env → Prop} {e e' : Env} (h : e = e') : wp G m c R e = wp G m c R e' := by rw [h]
@[congr] theorem wpL_congr {G : Rl} {m : K} {l : List O} {k : Env → Prop} {e e' : Env} (h : e = e') : wpL G m l k e = wpL G m l k e' := by rw [h]
@[congr] theorem stepO_congr {G : Rl} {m : K} {o : O} {k : Env → Prop} {e e' : Env} (h : e = e') : stepO G m o k e = stepO G m o k e' := by rw [h]
@[congr] theorem wpLoop_congr {G : Rl} {m : K} {c : C} {R : X → Env → Prop} {e e' : Env} (h : e = e') : wpLoop G m c R e = wpLoop G m c R e' := by rw [h]
@[congr] theorem after_congr {next : Env → Prop} {R : X → Env → Prop} {x : X} {e e' : Env} (h : e = e') : X.after next R x e = X.after next R x e' := by rw [h]
@[congr] theorem out_congr {id : Nat} {R : X → Env → Prop} {x : X} {e e' : Env} (h : e = e') : X.out id R x e = X.out id R x e' := by rw [h]
@[congr] theorem kReg_congr {R : X → Env → Prop} {ks : List Nat} {e e' : Env} (h : e = e') : kReg R ks e = kReg R ks e' := by rw [h]

section
variable (G : Rl) (m : K) (d : Option Nat) (k : Env → Prop) (e : Env)
@[simp] theorem q_mv (x : Opd) : stepQ G m d (.mv x) k e = bindP (e.opd x) fun v => k (e.setD d v) := rfl
@[simp] theorem q_mvw (x : Opd) : stepQ G m d (.mvw x) k e = bindP (e.opd x) fun v => v.rootly = true ∧ k (e.setD d v) := rfl
def asgV (e : Env) (d : Option Nat) (k : Env → Prop) : V → Prop
  | .val t => k (e.setD d (.val t))
  | v => bindP (e.take v) fun y => k (y.2.setD d (.val y.1))
@[simp] theorem q_asg (x : Opd) : stepQ G m d (.asg x) k e = bindP (e.opd x) (asgV e d k) := by
  unfold stepQ asgV
  rfl
@[simp ↓, simp] theorem asgV_val (t : T) : asgV e d k (.val t) = k (e.setD d (.val t)) := rfl
@[simp ↓, simp] theorem asgV_sref (r : Nat) (p : List Nat) (a b c : Nat) : asgV e d k (.sref r p a b c) = bindP (e.take (.sref r p a b c)) fun y => k (y.2.setD d (.val y.1)) := rfl
@[simp ↓, simp] theorem asgV_pref (r : Nat) (p : List Nat) (a : Nat) : asgV e d k (.pref r p a) = bindP (e.take (.pref r p a)) fun y => k (y.2.setD d (.val y.1)) := rfl
@[simp ↓, simp] theorem asgV_vagg (vs : List V) : asgV e d k (.vagg vs) = bindP (e.take (.vagg vs)) fun y => k (y.2.setD d (.val y.1)) := rfl
@[simp ↓, simp] theorem asgV_vtup (vs : List V) : asgV e d k (.vtup vs) = bindP (e.take (.vtup vs)) fun y => k (y.2.setD d (.val y.1)) := rfl
def pickO (e : Env) (a b : Opd) : Bool → Option V
  | true => e.opd a
  | false => e.opd b
@[simp] theorem pickO_true (a b : Opd) : pickO e a b true = e.opd a := nrfl rfl
@[simp] theorem pickO_false (a b : Opd) : pickO e a b false = e.opd b := nrfl rfl
@[simp] theorem q_pick (c a b : Opd) : stepQ G m d (.pick c a b) k e = bindP ((e.opd c).bind asB) fun t => bindP (pickO e a b t) fun v => k (e.setD d v) := by
  simp only [stepQ]
  congr 1
  funext t
  cases t <;> rfl
@[simp] theorem q_bin (op : BinOp) (x y : Opd) : stepQ G m d (.bin op x y) k e = bindP (e.opd x) fun a => bindP (e.opd y) fun b => bindP (binV op a b) fun v => k (e.setD d v) := rfl
@[simp] theorem q_beq (neg : Bool) (x y : Opd) : stepQ G m d (.beq neg x y) k e = bindP ((e.opd x).bind asB) fun a => bindP ((e.opd y).bind asB) fun b => k (e.setD d (.val (.sc (.bool ((a == b) != neg))))) := rfl
@[simp] theorem q_isnil (neg : Bool) (x : Opd) : stepQ G m d (.isnil neg x) k e = bindP ((e.opd x).bind V.isNil) fun b => k (e.setD d (.val (.sc (.bool (b != neg))))) := rfl
@[simp] theorem q_un (op : UnOp) (x : Opd) : stepQ G m d (.un op x) k e = bindP (e.opd x) fun a => bindP (unV op a) fun v => k (e.setD d v) := rfl
@[simp] theorem q_conv (kd : IntKind) (x : Opd) : stepQ G m d (.conv kd x) k e = bindP ((e.opd x).bind asI) fun n => k (e.setD d (.val (.sc (.int kd (kd.wrap n))))) := rfl
@[simp] theorem q_len (x : Opd) : stepQ G m d (.len x) k e = bindP ((e.opd x).bind lenV) fun n => k (e.setD d (.val (.sc (.int .i64 n)))) := rfl
@[simp] theorem q_slen (x : Opd) : stepQ G m d (.slen x) k e = bindP ((e.opd x).bind slenV) fun n => k (e.setD d (.val (.sc (.int .i64 n)))) := rfl
@[simp] theorem q_idx (sz : Nat) (x i : Opd) : stepQ G m d (.idx sz x i) k e = bindP (e.opd x) fun a => bindP ((e.opd i).bind asI) fun n => bindP (idxV sz a n) fun v => k (e.setD d v) := rfl
@[simp] theorem q_fld (off : Nat) (x : Opd) : stepQ G m d (.fld off x) k e = bindP (e.opd x) fun a => bindP (e.fld off a) fun v => k (e.setD d v) := rfl
@[simp] theorem q_fldv (off : Nat) (n : Option Nat) (x : Opd) : stepQ G m d (.fldv off n x) k e = bindP (e.opd x) fun a => bindP (fldvV off n a) fun v => k (e.setD d v) := rfl
@[simp] theorem q_ld (n : Option Nat) (a : Opd) : stepQ G m d (.ld n a) k e = bindP (e.opd a) fun a => bindP (e.ld n a) fun v => k (e.setD d v) := rfl
def stT (n : Option Nat) (k : Env → Prop) (e : Env) (r : Nat) (p : List Nat) (off : Nat) (t : T) : Option T → Prop
  | some (.mem .own _ ts) => (t.cells.length = n.getD 1 ∧ off + t.cells.length ≤ ts.length ∧ t.cells.all T.isCell = true) ∧ k (e.puts r p off t.cells)
  | _ => False
def stV (n : Option Nat) (k : Env → Prop) (e : Env) (t : T) : V → Prop
  | .pref r p off => stT n k e r p off t (e.tree r p)
  | _ => False
@[simp] theorem q_st (n : Option Nat) (a x : Opd) : stepQ G m d (.st n a x) k e = bindP (e.opd a) fun a => bindP (e.opd x) fun v => bindP (e.take v) fun y => stV n k y.2 y.1 a := by
  unfold stepQ stV stT
  rfl
@[simp ↓, simp] theorem stV_pref (n : Option Nat) (t : T) (r : Nat) (p : List Nat) (off : Nat) : stV n k e t (.pref r p off) = stT n k e r p off t (e.tree r p) := rfl
@[simp ↓, simp] theorem stT_own (n : Option Nat) (r : Nat) (p : List Nat) (off : Nat) (t : T) (s : Option Nat) (ts : List T) : stT n k e r p off t (some (.mem .own s ts)) = ((t.cells.length = n.getD 1 ∧ off + t.cells.length ≤ ts.length ∧ t.cells.all T.isCell = true) ∧ k (e.puts r p off t.cells)) := rfl
@[congr] theorem stT_congr {n : Option Nat} {k : Env → Prop} {e : Env} {r : Nat} {p : List Nat} {off : Nat} {t : T} {o o' : Option T} (h : o = o') : stT n k e r p off t o = stT n k e r p off t o' := by rw [h]
def stsT (k : Env → Prop) (e : Env) (r : Nat) (p : List Nat) (off : Nat) (z : Value) : Option T → Prop
  | some (.mem .own _ ts) => off < ts.length ∧ k (e.setTree r (p ++ [off]) (.sc z))
  | _ => False
def stsV (k : Env → Prop) (e : Env) : V → V → Prop
  | .pref r p off, .val (.sc z) => stsT k e r p off z (e.tree r p)
  | _, _ => False
@[simp] theorem q_sts (a x : Opd) : stepQ G m d (.sts a x) k e = bindP (e.opd a) fun a => bindP (e.opd x) fun v => stsV k e a v := by
  unfold stepQ stsV stsT
  rfl
@[simp ↓, simp] theorem stsV_pref (r : Nat) (p : List Nat) (off : Nat) (z : Value) : stsV k e (.pref r p off) (.val (.sc z)) = stsT k e r p off z (e.tree r p) := rfl
@[simp ↓, simp] theorem stsT_own (r : Nat) (p : List Nat) (off : Nat) (z : Value) (s : Option Nat) (ts : List T) : stsT k e r p off z (some (.mem .own s ts)) = (off < ts.length ∧ k (e.setTree r (p ++ [off]) (.sc z))) := rfl
@[congr] theorem stsT_congr {k : Env → Prop} {e : Env} {r : Nat} {p : List Nat} {off : Nat} {z : Value} {o o' : Option T} (h : o = o') : stsT k e r p off z o = stsT k e r p off z o' := by rw [h]
def swC (e : Env) (y r i j lx ly : Nat) : Option T → Option T → Option Env
  | some (.mem .own (some 1) ui), some (.mem .own (some 1) uj) =>
    if lx = uj.length ∧ ly = ui.length then some (if i = j then e else ((e.setTree r [i] (.mem .own (some 1) uj)).setTree r [j] .gone).put y (.val (.mem .own (some 1) ui))) else none
  | _, _ => none
def swT (e : Env) (y r i j lx ly : Nat) : Option T → Option Env
  | some (.mem .own (some 1) ts) => swC e y r i j lx ly ts[i]? ts[j]?
  | _ => none
@[simp ↓, simp] theorem swp_names (e : Env) (y r i r1 j lx r2 i' ly : Nat) : e.swp y (.pref r [] i) (.sref r1 [j] 1 0 lx) (.sref r2 [i'] 1 0 ly) = if r1 = r ∧ r2 = r ∧ i' = i ∧ r ≠ y then swT e y r i j lx ly (e.tree r []) else none := by
  unfold Env.swp swT swC
  rfl
@[simp ↓, simp] theorem swT_own (e : Env) (y r i j lx ly : Nat) (ts : List T) : swT e y r i j lx ly (some (.mem .own (some 1) ts)) = swC e y r i j lx ly ts[i]? ts[j]? := nrfl rfl
@[simp ↓, simp] theorem swC_own (e : Env) (y r i j lx ly : Nat) (ui uj : List T) : swC e y r i j lx ly (some (.mem .own (some 1) ui)) (some (.mem .own (some 1) uj)) = if lx = uj.length ∧ ly = ui.length then some (if i = j then e else ((e.setTree r [i] (.mem .own (some 1) uj)).setTree r [j] .gone).put y (.val (.mem .own (some 1) ui))) else none := nrfl rfl
@[simp] theorem q_stsw (a x : Opd) (y : Nat) : stepQ G m d (.stsw a x y) k e = bindP (e.opd a) fun av => bindP (e.opd x) fun xv => bindP (frAt e y) fun yv => e.kill y [] = e ∧ bindP (e.swp y av xv yv) fun e' => k e' := by
  unfold stepQ frAt
  rfl
def nilckV (d : Option Nat) (k : Env → Prop) (e : Env) : V → Prop
  | .pref r p o => k (e.setD d (.pref r p o))
  | .val (.mem kk none ts) => k (e.setD d (.val (.mem kk none ts)))
  | _ => False
@[simp] theorem q_nilck (x : Opd) : stepQ G m d (.nilck x) k e = bindP (e.opd x) (nilckV d k e) := by
  unfold stepQ nilckV
  rfl
@[simp ↓, simp] theorem nilckV_pref (r : Nat) (p : List Nat) (o : Nat) : nilckV d k e (.pref r p o) = k (e.setD d (.pref r p o)) := rfl
@[simp ↓, simp] theorem nilckV_mem (kk : K) (ts : List T) : nilckV d k e (.val (.mem kk none ts)) = k (e.setD d (.val (.mem kk none ts))) := rfl
@[simp] theorem q_alloc (zs : List Value) : stepQ G m d (.alloc zs) k e = k (e.setD d (.val (.mem .own none (zs.map .sc)))) := rfl
@[simp] theorem q_box (x : Opd) : stepQ G m d (.box x) k e = bindP (e.opd x) fun v => bindP (e.take v) fun y => y.1.cells.all T.isCell = true ∧ k (y.2.setD d (.val (.mem .own none y.1.cells))) := rfl
@[simp] theorem q_build (zs : List Value) (ps : List (Nat × Nat × Opd)) : stepQ G m d (.build zs ps) k e = bindP (e.parts ps) fun ps => bindP (fillV (zs.map fun z => .val (.sc z)) ps) fun vs => k (e.setD d (.vagg vs)) := rfl
@[simp] theorem q_mks (z : Value) (n : Opd) : stepQ G m d (.mks z n) k e = bindP ((e.opd n).bind asI) fun n => (0 ≤ n ∧ n ≤ (roomy : Int)) ∧ k (e.setD d (.val (.mem .own (some 1) (List.replicate n.toNat (.sc z))))) := rfl
@[simp] theorem q_bsl (ps : List Opd) : stepQ G m d (.bsl ps) k e = bindP (e.opds ps) fun vs => bindP (e.takeL vs) fun y => y.1.all T.isCell = true ∧ k (y.2.setD d (.val (.mem .own (some 1) y.1))) := rfl
def appT (sz : Nat) (d : Option Nat) (k : Env → Prop) (e : Env) (us : List T) : Option (List T) → Prop
  | none => (us = [] → k (e.setD d (.val (.sc (.slice none 0 0))))) ∧ (us ≠ [] → k (e.setD d (.val (.mem .own (some sz) us))))
  | some ts => k (e.setD d (.val (.mem .own (some sz) (ts ++ us))))
@[simp] theorem q_app (mv : Bool) (sz : Nat) (x y : Opd) : stepQ G m d (.app mv sz x y) k e = bindP (e.opd x) fun a => bindP (e.opd y) fun b => bindP (e.base sz a) fun z => bindP (z.2.src mv sz b) fun u =>
      ((z.1.getD []).length + u.1.length ≤ roomy ∧ u.1.all T.isCell = true) ∧ appT sz d k u.2 u.1 z.1 := by
  unfold stepQ appT
  rfl
@[simp ↓, simp] theorem appT_some (sz : Nat) (us ts : List T) : appT sz d k e us (some ts) = k (e.setD d (.val (.mem .own (some sz) (ts ++ us)))) := rfl
@[simp ↓, simp] theorem appT_none (sz : Nat) (us : List T) : appT sz d k e us none = ((us = [] → k (e.setD d (.val (.sc (.slice none 0 0))))) ∧ (us ≠ [] → k (e.setD d (.val (.mem .own (some sz) us))))) := rfl
@[simp] theorem q_sl (sz : Nat) (x : Opd) (lo hi : Option Opd) : stepQ G m d (.sl sz x lo hi) k e = bindP (e.opd x) fun a => bindP (e.optI lo) fun l => bindP (e.optI hi) fun h => bindP (slV sz a l h) fun v => k (e.setD d v) := rfl
@[simp] theorem q_ext (x : Opd) (i : Nat) : stepQ G m d (.ext x i) k e = bindP (e.opd x) fun a => bindP (extV i a) fun v => k (e.setD d v) := rfl
@[simp] theorem q_fncl (f : Nat) (x : Opd) : stepQ G m d (.fncl f x) k e = bindP (e.opd x) fun v => bindP (e.vcap v) fun r => k (e.setD d (.vfn f r)) := rfl
@[simp] theorem q_fnc (f : Nat) (cs : List Opd) : stepQ G m d (.fnc f cs) k e = bindP (Env.caps m e cs) fun y => k (y.2.setD d (.val (.fn f y.1))) := rfl
/-- A call: the callee's arguments, and what follows its result. -/
def callP (G : Rl) (d : Option Nat) (k : Env → Prop) (e : Env) (args : List (Opd × Mode)) (id : Nat) (caps : List T) (ts : List T) : Prop :=
  ∃ ts' r, G id (ts ++ T.eryL .old caps) (ts' ++ T.eryL .old caps) r ∧ ts'.length = ts.length ∧ (e.lends args = true → r.noOld = true ∧ args.all (fun x => x.2 == .r) = true) ∧ bindP (e.back args ts') fun e' => k (e'.setD d (.val r))
def callV (G : Rl) (d : Option Nat) (k : Env → Prop) (e : Env) (args : List (Opd × Mode)) : V → Prop
  | .val (.fn id caps) => bindP (e.args args) (callP G d k e args id caps)
  | _ => False
@[simp] theorem q_call (f : Opd) (args : List (Opd × Mode)) : stepQ G m d (.call f args) k e = bindP (e.opd f) (callV G d k e args) := by
  unfold stepQ callV
  rfl
@[simp ↓, simp] theorem callV_fn (args : List (Opd × Mode)) (id : Nat) (caps : List T) : callV G d k e args (.val (.fn id caps)) = bindP (e.args args) (callP G d k e args id caps) := rfl
@[congr] theorem callP_congr {G : Rl} {d : Option Nat} {k : Env → Prop} {e : Env} {args : List (Opd × Mode)} {id : Nat} {caps ts ts' : List T} (h : ts = ts') : callP G d k e args id caps ts = callP G d k e args id caps ts' := by rw [h]
/-- A call that is handed own memory. -/
def callmP (G : Rl) (d : Option Nat) (k : Env → Prop) (e : Env) (gs : List Bool) (ks : List Nat) (id : Nat) (caps : List T) (vs : List V) (y : List T × Env) : Prop :=
  y.2.holes vs gs = true ∧ ∃ ts' r, G id (T.lendL y.1 ++ T.eryL .old caps) (ts' ++ T.eryL .old caps) r ∧ ts'.length = y.1.length ∧
    bindP (y.2.gives vs gs ts') fun e2 => bindP (e.revive y.2 e2 vs gs ks) fun e3 => k (e3.setD d (.val r))
def callmW (G : Rl) (d : Option Nat) (k : Env → Prop) (e : Env) (gs : List Bool) (ks : List Nat) (id : Nat) (caps : List T) (vs : List V) : Prop :=
  e.wholes vs gs = true ∧ bindP (e.takeL vs) (callmP G d k e gs ks id caps vs)
def callmV (G : Rl) (d : Option Nat) (k : Env → Prop) (e : Env) (args : List (Opd × Bool)) (ks : List Nat) : V → Prop
  | .val (.fn id caps) => bindP (e.opds (args.map (·.1))) (callmW G d k e (args.map (·.2)) ks id caps)
  | _ => False
@[simp] theorem q_callm (f : Opd) (args : List (Opd × Bool)) (ks : List Nat) : stepQ G m d (.callm f args ks) k e = bindP (e.opd f) (callmV G d k e args ks) := by
  unfold stepQ callmV callmW callmP
  rfl
@[simp ↓, simp] theorem callmV_fn (args : List (Opd × Bool)) (ks : List Nat) (id : Nat) (caps : List T) : callmV G d k e args ks (.val (.fn id caps)) = bindP (e.opds (args.map (·.1))) (callmW G d k e (args.map (·.2)) ks id caps) := rfl
@[simp ↓, simp] theorem callmW_eq (gs : List Bool) (ks : List Nat) (id : Nat) (caps : List T) (vs : List V) : callmW G d k e gs ks id caps vs = (e.wholes vs gs = true ∧ bindP (e.takeL vs) (callmP G d k e gs ks id caps vs)) := rfl
@[congr] theorem callmP_congr {G : Rl} {d : Option Nat} {k : Env → Prop} {e : Env} {gs : List Bool} {ks : List Nat} {id : Nat} {caps : List T} {vs : List V} {y y' : List T × Env} (h : y = y') : callmP G d k e gs ks id caps vs y = callmP G d k e gs ks id caps vs y' := by rw [h]
def wholeT (sz len : Nat) : Option T → Bool
  | some (.mem _ _ ts) => len * sz == ts.length
  | _ => false
@[simp] theorem wholeT_mem (sz len : Nat) (kk : K) (s : Option Nat) (ts : List T) : wholeT sz len (some (.mem kk s ts)) = (len * sz == ts.length) := rfl
@[simp] theorem whole_val (t : T) : e.whole (.val t) = true := rfl
@[simp] theorem whole_sref (r : Nat) (p : List Nat) (sz off len : Nat) : e.whole (.sref r p sz off len) = (off == 0 && wholeT sz len (e.tree r p)) := by
  unfold Env.whole wholeT
  rfl
@[simp] theorem whole_vagg (vs : List V) : e.whole (.vagg vs) = e.wholeL vs := rfl
@[simp] theorem wholeL_nil : e.wholeL [] = true := rfl
@[simp] theorem wholeL_cons (v : V) (vs : List V) : e.wholeL (v :: vs) = (e.whole v && e.wholeL vs) := rfl
@[simp] theorem wholes_nil (gs : List Bool) : e.wholes [] gs = true := by cases gs <;> rfl
@[simp] theorem wholes_cons (v : V) (vs : List V) (g : Bool) (gs : List Bool) : e.wholes (v :: vs) (g :: gs) = ((!g || e.whole v) && e.wholes vs gs) := rfl
def holeT : Option T → Bool
  | some .gone => true
  | _ => false
@[simp] theorem holeT_gone : holeT (some .gone) = true := rfl
@[simp] theorem isHole_nil (r : Nat) : e.isHole r [] = true := rfl
@[simp] theorem isHole_cons (r i : Nat) (p : List Nat) : e.isHole r (i :: p) = holeT (e.tree r (i :: p)) := by
  unfold Env.isHole holeT
  rfl
@[simp] theorem hole_val (t : T) : e.hole (.val t) = true := rfl
@[simp] theorem hole_sref (r : Nat) (p : List Nat) (sz off len : Nat) : e.hole (.sref r p sz off len) = e.isHole r p := rfl
@[simp] theorem hole_vagg (vs : List V) : e.hole (.vagg vs) = e.holeL vs := rfl
@[simp] theorem holeL_nil : e.holeL [] = true := rfl
@[simp] theorem holeL_cons (v : V) (vs : List V) : e.holeL (v :: vs) = (e.hole v && e.holeL vs) := rfl
@[simp] theorem holes_nil (gs : List Bool) : e.holes [] gs = true := by cases gs <;> rfl
@[simp] theorem holes_cons (v : V) (vs : List V) (g : Bool) (gs : List Bool) : e.holes (v :: vs) (g :: gs) = ((!g || e.hole v) && e.holes vs gs) := rfl
def back0 (e : Env) (r : Nat) (t : T) : Option V → Option Env
  | none => some (e.put r (.val t))
  | some _ => none
@[simp] theorem back0_none (r : Nat) (t : T) : back0 e r t none = some (e.put r (.val t)) := nrfl rfl
def back2 (e : Env) (r : Nat) (p : List Nat) (t : T) : Option T → Option Env
  | some .gone => some (e.setTree r p t)
  | _ => none
@[simp] theorem back2_gone (r : Nat) (p : List Nat) (t : T) : back2 e r p t (some .gone) = some (e.setTree r p t) := nrfl rfl
@[simp] theorem back1_nil (r : Nat) (t : T) : e.back1 r [] t = back0 e r t (e r) := by
  unfold Env.back1 back0
  rfl
@[simp] theorem back1_cons (r i : Nat) (p : List Nat) (t : T) : e.back1 r (i :: p) t = back2 e r (i :: p) t (e.tree r (i :: p)) := by
  unfold Env.back1 back2
  rfl
@[simp] theorem give_val (t t' : T) : e.give (.val t) t' = some e := by cases t' <;> rfl
@[simp] theorem give_sref (r : Nat) (p : List Nat) (sz off len : Nat) (t : T) : e.give (.sref r p sz off len) t = e.back1 r p t := by cases t <;> rfl
@[simp] theorem give_vagg (vs : List V) (ts : List T) : e.give (.vagg vs) (.agg ts) = e.giveL vs ts := nrfl rfl
@[simp] theorem giveL_nil (ts : List T) : e.giveL [] ts = some e := by cases ts <;> rfl
@[simp] theorem giveL_cons (v : V) (vs : List V) (t : T) (ts : List T) : e.giveL (v :: vs) (t :: ts) = (e.give v t).bind fun e' => e'.giveL vs ts := nrfl rfl
@[simp] theorem gives_nil : e.gives [] [] [] = some e := nrfl rfl
@[simp] theorem gives_cons (v : V) (vs : List V) (g : Bool) (gs : List Bool) (t : T) (ts : List T) : e.gives (v :: vs) (g :: gs) (t :: ts) = if g then (e.give v t).bind fun e' => e'.gives vs gs ts else e.gives vs gs ts := nrfl rfl
@[simp] theorem revive_nil (e0 e1 : Env) (vs : List V) (gs : List Bool) : Env.revive e0 e1 e vs gs [] = some e := nrfl rfl
def revV (e0 e1 e : Env) (vs : List V) (gs : List Bool) (s : Nat) (ks : List Nat) : Option V → Option V → Option Env
  | some x, none => if Env.again e1 e vs gs x then Env.revive e0 e1 (e.put s x) vs gs ks else none
  | _, some _ => Env.revive e0 e1 e vs gs ks
  | none, none => none
@[simp] theorem revive_cons (e0 e1 : Env) (vs : List V) (gs : List Bool) (s : Nat) (ks : List Nat) : Env.revive e0 e1 e vs gs (s :: ks) = revV e0 e1 e vs gs s ks (e0 s) (e s) := by
  unfold revV
  rfl
@[simp] theorem revV_kept (e0 e1 : Env) (vs : List V) (gs : List Bool) (s : Nat) (ks : List Nat) (o : Option V) (x : V) : revV e0 e1 e vs gs s ks o (some x) = Env.revive e0 e1 e vs gs ks := by cases o <;> rfl
@[simp] theorem revV_some (e0 e1 : Env) (vs : List V) (gs : List Bool) (s : Nat) (ks : List Nat) (x : V) : revV e0 e1 e vs gs s ks (some x) none = if Env.again e1 e vs gs x then Env.revive e0 e1 (e.put s x) vs gs ks else none := nrfl rfl
def againT (sz off len : Nat) : Option T → Bool
  | some (.mem .own (some sz') ts) => sz' == sz && decide ((off + len) * sz ≤ ts.length)
  | _ => false
@[simp] theorem againT_own (sz off len sz' : Nat) (ts : List T) : againT sz off len (some (.mem .own (some sz') ts)) = (sz' == sz && decide ((off + len) * sz ≤ ts.length)) := rfl
@[simp] theorem again_sref (e1 : Env) (vs : List V) (gs : List Bool) (r : Nat) (p : List Nat) (sz off len : Nat) : Env.again e1 e vs gs (.sref r p sz off len) = ((leafOf vs gs r p sz off len || (e1.tree r p).isSome) && againT sz off len (e.tree r p)) := by
  unfold Env.again againT
  rfl
@[simp] theorem again_vagg (e1 : Env) (vs : List V) (gs : List Bool) (us : List V) : Env.again e1 e vs gs (.vagg us) = Env.againL e1 e vs gs us := rfl
@[simp] theorem againL_nil (e1 : Env) (vs : List V) (gs : List Bool) : Env.againL e1 e vs gs [] = true := rfl
@[simp] theorem againL_cons (e1 : Env) (vs : List V) (gs : List Bool) (v : V) (us : List V) : Env.againL e1 e vs gs (v :: us) = (Env.again e1 e vs gs v && Env.againL e1 e vs gs us) := rfl
@[simp] theorem leafOf_nil (gs : List Bool) (r : Nat) (p : List Nat) (sz off len : Nat) : leafOf [] gs r p sz off len = false := by cases gs <;> rfl
@[simp] theorem leafOf_cons (v : V) (vs : List V) (g : Bool) (gs : List Bool) (r : Nat) (p : List Nat) (sz off len : Nat) : leafOf (v :: vs) (g :: gs) r p sz off len = ((g && v.hasLeaf r p sz off len) || leafOf vs gs r p sz off len) := rfl
@[simp] theorem hasLeaf_sref (r : Nat) (p : List Nat) (sz off len r' : Nat) (p' : List Nat) (sz' off' len' : Nat) : (V.sref r' p' sz' off' len').hasLeaf r p sz off len = (r == r' && p == p' && sz == sz' && off == off' && len == len') := rfl
@[simp] theorem hasLeaf_val (r : Nat) (p : List Nat) (sz off len : Nat) (t : T) : (V.val t).hasLeaf r p sz off len = false := rfl
@[simp] theorem hasLeaf_vagg (r : Nat) (p : List Nat) (sz off len : Nat) (vs : List V) : (V.vagg vs).hasLeaf r p sz off len = V.hasLeafL r p sz off len vs := rfl
@[simp] theorem hasLeafL_nil (r : Nat) (p : List Nat) (sz off len : Nat) : V.hasLeafL r p sz off len [] = false := rfl
@[simp] theorem hasLeafL_cons (r : Nat) (p : List Nat) (sz off len : Nat) (v : V) (vs : List V) : V.hasLeafL r p sz off len (v :: vs) = (v.hasLeaf r p sz off len || V.hasLeafL r p sz off len vs) := rfl
@[simp] theorem settle_fr (l : List (Nat × Option V)) (s : Nat) : (fr l).settle s = (fr l s).bind fun v => ((fr l).take v).map fun y => y.2.put s (.val y.1) := nrfl rfl
@[simp] theorem q_freeze (s : Nat) : stepQ G m d (.freeze s) k e = bindP (e.freeze m s) fun e' => k e' := rfl
@[simp] theorem q_settle (s : Nat) : stepQ G m d (.settle s) k e = bindP (e.settle s) fun e' => k e' := rfl
def frzV (l : List (Nat × Option V)) (kk : K) (s : Nat) : Option V → Option Env
  | some (.val t) => some (fr ((s, some (.val (t.frz kk))) :: killL s [] l))
  | _ => none
@[simp] theorem frzV_val (l : List (Nat × Option V)) (kk : K) (s : Nat) (t : T) : frzV l kk s (some (.val t)) = some (fr ((s, some (.val (t.frz kk))) :: killL s [] l)) := nrfl rfl
@[simp] theorem freeze_fr (l : List (Nat × Option V)) (kk : K) (s : Nat) : (fr l).freeze kk s = frzV l kk s (fr l s) := by
  unfold Env.freeze frzV
  cases fr l s with
  | none => rfl
  | some v =>
    cases v with
    | val t =>
      simp only [Option.some.injEq]
      funext x
      by_cases h : x = s
      · subst h; simp
      · simp only [if_neg h, fr_cons, if_neg (Ne.symm h), kill_fr]
    | _ => rfl
@[simp] theorem frz_sc (kk : K) (v : Value) : (T.sc v).frz kk = .sc v := rfl
@[simp] theorem frz_own (kk : K) (s : Option Nat) (ts : List T) : (T.mem .own s ts).frz kk = .mem kk s (T.frzL kk ts) := rfl
@[simp] theorem frz_old (kk : K) (s : Option Nat) (ts : List T) : (T.mem .old s ts).frz kk = .mem .old s (T.frzL kk ts) := rfl
@[simp] theorem frz_fresh (kk : K) (s : Option Nat) (ts : List T) : (T.mem .fresh s ts).frz kk = .mem .fresh s (T.frzL kk ts) := rfl
@[simp] theorem frz_fn (kk : K) (f : Nat) (cs : List T) : (T.fn f cs).frz kk = .fn f cs := rfl
@[simp] theorem frz_agg (kk : K) (ts : List T) : (T.agg ts).frz kk = .agg (T.frzL kk ts) := rfl
@[simp] theorem frzL_nil (kk : K) : T.frzL kk [] = [] := rfl
@[simp] theorem frzL_cons (kk : K) (t : T) (ts : List T) : T.frzL kk (t :: ts) = t.frz kk :: T.frzL kk ts := rfl
@[simp] theorem caps_nil (kk : K) : Env.caps kk e [] = some ([], e) := nrfl rfl
def capF (kk : K) (xs : List Opd) (e' : Env) : Option V → Option (List T × Env)
  | some (.val (.mem k' none us)) => (Env.caps kk e' xs).map fun y => (.mem k' none us :: y.1, y.2)
  | _ => none
def capV (kk : K) (e : Env) (xs : List Opd) : V → Option (List T × Env)
  | .val (.mem k' none ts) => if k' ≠ .own ∧ T.noOwnL ts then ((Env.caps kk e xs).map fun y => (T.mem k' none ts :: y.1, y.2)) else none
  | .pref r [] 0 => (e.freeze kk r).bind fun e' => capF kk xs e' (e' r)
  | _ => none
@[simp] theorem caps_cons (kk : K) (x : Opd) (xs : List Opd) : Env.caps kk e (x :: xs) = (e.opd x).bind (capV kk e xs) := by
  rw [Env.caps]
  congr 1
@[simp] theorem capV_pref (kk : K) (xs : List Opd) (r : Nat) : capV kk e xs (.pref r [] 0) = (e.freeze kk r).bind fun e' => capF kk xs e' (e' r) := nrfl rfl
@[simp] theorem capV_old (kk : K) (xs : List Opd) (ts : List T) : capV kk e xs (.val (.mem .old none ts)) = if T.noOwnL ts = true then ((Env.caps kk e xs).map fun y => (T.mem .old none ts :: y.1, y.2)) else none := by simp [capV]
@[simp] theorem capV_fresh (kk : K) (xs : List Opd) (ts : List T) : capV kk e xs (.val (.mem .fresh none ts)) = if T.noOwnL ts = true then ((Env.caps kk e xs).map fun y => (T.mem .fresh none ts :: y.1, y.2)) else none := by simp [capV]
@[simp] theorem capF_mem (kk : K) (xs : List Opd) (e' : Env) (k' : K) (us : List T) : capF kk xs e' (some (.val (.mem k' none us))) = (Env.caps kk e' xs).map fun y => (.mem k' none us :: y.1, y.2) := nrfl rfl
def boxkV (s : Nat) (k : Env → Prop) (e : Env) : V → Option Nat → Prop
  | .val (.agg ts), some d => (s ≠ d ∧ ts.all T.isCell = true) ∧ k (((e.del s).put d (.val (.mem .own none ts))).put s (.vagg (T.peekL d [] 0 ts)))
  | _, _ => False
@[simp] theorem q_boxk (s : Nat) : stepQ G m d (.boxk s) k e = bindP (frAt e s) fun v => boxkV s k e v d := by
  unfold stepQ boxkV frAt
  rfl
def bslkV (n : Nat) (k : Env → Prop) (e : Env) : V → V → Option Nat → Prop
  | .sref r [] 1 0 l, .val (.mem .own (some 1) rs), some d => (r = n ∧ l = rs.length ∧ n ≠ d) ∧ k (((e.del n).put d (.val (.mem .own (some 1) [.mem .own (some 1) rs]))).put n (.sref d [0] 1 0 rs.length))
  | _, _, _ => False
@[simp] theorem q_bslk (x : Opd) (n : Nat) : stepQ G m d (.bslk x n) k e = bindP (e.opd x) fun v => bindP (frAt e n) fun u => bslkV n k e v u d := by
  unfold stepQ bslkV frAt
  rfl
@[simp ↓, simp] theorem bslkV_own (n r l d : Nat) (rs : List T) : bslkV n k e (.sref r [] 1 0 l) (.val (.mem .own (some 1) rs)) (some d) = ((r = n ∧ l = rs.length ∧ n ≠ d) ∧ k (((e.del n).put d (.val (.mem .own (some 1) [.mem .own (some 1) rs]))).put n (.sref d [0] 1 0 rs.length))) := rfl
def appkV (n : Nat) (k : Env → Prop) (zo : Option (List T)) (e1 : Env) : V → V → List T → Option Nat → Prop
  | .sref yy [] 1 0 1, .sref yy' [0] 1 0 l, [.mem .own (some 1) rs], some d => (yy' = yy ∧ l = rs.length ∧ n ≠ d ∧ (zo.getD []).length + 1 ≤ roomy) ∧ k ((e1.put d (.val (.mem .own (some 1) (zo.getD [] ++ [.mem .own (some 1) rs])))).put n (.sref d [(zo.getD []).length] 1 0 rs.length))
  | _, _, _, _ => False
@[simp] theorem q_appk (x y : Opd) (n : Nat) : stepQ G m d (.appk x y n) k e = bindP (e.opd x) fun p => bindP (e.opd y) fun q => bindP (e.base 1 p) fun z => bindP (z.2.src true 1 q) fun u => bindP (frAt e n) fun v => appkV n k z.1 u.2 q v u.1 d := by
  unfold stepQ appkV frAt
  rfl
@[simp ↓, simp] theorem appkV_own (n yy yy' l d : Nat) (zo : Option (List T)) (e1 : Env) (rs : List T) : appkV n k zo e1 (.sref yy [] 1 0 1) (.sref yy' [0] 1 0 l) [.mem .own (some 1) rs] (some d) = ((yy' = yy ∧ l = rs.length ∧ n ≠ d ∧ (zo.getD []).length + 1 ≤ roomy) ∧ k ((e1.put d (.val (.mem .own (some 1) (zo.getD [] ++ [.mem .own (some 1) rs])))).put n (.sref d [(zo.getD []).length] 1 0 rs.length))) := rfl
@[simp ↓, simp] theorem boxkV_agg (s d : Nat) (ts : List T) : boxkV s k e (.val (.agg ts)) (some d) = ((s ≠ d ∧ ts.all T.isCell = true) ∧ k (((e.del s).put d (.val (.mem .own none ts))).put s (.vagg (T.peekL d [] 0 ts)))) := rfl
end

@[congr] theorem asgV_congr {e : Env} {d : Option Nat} {k : Env → Prop} {v v' : V} (h : v = v') : asgV e d k v = asgV e d k v' := by rw [h]
@[congr] theorem stV_congr {n : Option Nat} {k : Env → Prop} {e e' : Env} {t t' : T} {v v' : V} (h : v = v') (h2 : t = t') (h3 : e = e') : stV n k e t v = stV n k e' t' v' := by rw [h, h2, h3]
@[congr] theorem stsV_congr {k : Env → Prop} {e : Env} {v v' x x' : V} (h : v = v') (h2 : x = x') : stsV k e v x = stsV k e v' x' := by rw [h, h2]
@[congr] theorem nilckV_congr {d : Option Nat} {k : Env → Prop} {e : Env} {v v' : V} (h : v = v') : nilckV d k e v = nilckV d k e v' := by rw [h]
@[congr] theorem callV_congr {G : Rl} {d : Option Nat} {k : Env → Prop} {e : Env} {args : List (Opd × Mode)} {v v' : V} (h : v = v') : callV G d k e args v = callV G d k e args v' := by rw [h]
@[congr] theorem callmV_congr {G : Rl} {d : Option Nat} {k : Env → Prop} {e : Env} {args : List (Opd × Bool)} {ks : List Nat} {v v' : V} (h : v = v') : callmV G d k e args ks v = callmV G d k e args ks v' := by rw [h]
@[congr] theorem callmW_congr {G : Rl} {d : Option Nat} {k : Env → Prop} {e : Env} {gs gs' : List Bool} {ks : List Nat} {id : Nat} {caps : List T} {vs vs' : List V} (h : vs = vs') (h2 : gs = gs') : callmW G d k e gs ks id caps vs = callmW G d k e gs' ks id caps vs' := by rw [h, h2]
@[congr] theorem appT_congr {sz : Nat} {d : Option Nat} {k : Env → Prop} {e e' : Env} {us us' : List T} {o o' : Option (List T)} (h : o = o') (h2 : us = us') (h3 : e = e') : appT sz d k e us o = appT sz d k e' us' o' := by rw [h, h2, h3]
@[congr] theorem bslkV_congr {n : Nat} {k : Env → Prop} {e : Env} {v v' u u' : V} {d : Option Nat} (h : v = v') (h2 : u = u') : bslkV n k e v u d = bslkV n k e v' u' d := by rw [h, h2]
@[congr] theorem appkV_congr {n : Nat} {k : Env → Prop} {zo zo' : Option (List T)} {e1 e1' : Env} {q q' v v' : V} {us us' : List T} {d : Option Nat} (h0 : zo = zo') (h1 : e1 = e1') (h : q = q') (h2 : v = v') (h3 : us = us') : appkV n k zo e1 q v us d = appkV n k zo' e1' q' v' us' d := by rw [h0, h1, h, h2, h3]
@[congr] theorem boxkV_congr {s : Nat} {k : Env → Prop} {e : Env} {v v' : V} {d : Option Nat} (h : v = v') : boxkV s k e v d = boxkV s k e v' d := by rw [h]

@[simp] theorem win_all (ts : List T) (n : Nat) (h : ts.length ≤ n) : win ts 0 n = ts := by simp [win, List.take_of_length_le h]
@[simp] theorem win_getElem? (ts : List T) (i n j : Nat) : (win ts i n)[j]? = if j < n then ts[i + j]? else none := by
  simp [win, List.getElem?_take, List.getElem?_drop]
@[simp] theorem noOwnL_append (a b : List T) : T.noOwnL (a ++ b) = (T.noOwnL a && T.noOwnL b) := by
  induction a with
  | nil => simp
  | cons t a ih => simp [ih, Bool.and_assoc]

abbrev I (n : Int) : T := .sc (.int .i64 n)
abbrev B (b : Bool) : T := .sc (.bool b)
/-- A slice of integers. -/
def ints (k : K) (xs : List Int) : T := .mem k (some 1) (xs.map I)

/-! ### Sets, arrays, literals, greatest and smallest -/

@[simp] theorem killV_same (r : Nat) (p : List Nat) (r' : Nat) : killV r p (some (.same r')) = bif (r == r' && p.isEmpty) then none else some (.same r') := by cases h : (r == r' && p.isEmpty) <;> simp only [killV, V.hits, h] <;> rfl
@[simp] theorem hits_same (r : Nat) (p : List Nat) (r' : Nat) : (V.same r').hits r p = (r == r' && p.isEmpty) := rfl
@[simp] theorem hitR_same (d k r : Nat) (l : List (Nat × Option V)) : hitR d ((k, some (.same r)) :: l) = (d == r || hitR d l) := by simp [hitR]
@[simp] theorem keepV_same (ks : List Nat) (r : Nat) : keepV ks (some (.same r)) = bif ks.contains r then some (.same r) else none := by cases h : ks.contains r <;> simp only [keepV, V.inside, h] <;> rfl
@[simp] theorem inside_same (ks : List Nat) (r : Nat) : (V.same r).inside ks = ks.contains r := rfl
@[simp] theorem softV_same (r : Nat) : softV (some (.same r)) = none := rfl
@[simp] theorem peek_set (r : Nat) (ks : List ByteArray) : (T.set ks).peek r [] = .same r := rfl
@[simp] theorem pkV_same (n r : Nat) : pkV n (some (.same r)) = some (.same r) := rfl
@[simp] theorem noOwn_set (ks : List ByteArray) : (T.set ks).noOwn = false := rfl
@[simp] theorem rootly_same (r : Nat) : (V.same r).rootly = false := rfl
@[simp] theorem lent_same (r : Nat) : (V.same r).lent = true := rfl
@[simp] theorem res_same (e : Env) (r : Nat) : e.res (.same r) = none := nrfl rfl
@[simp] theorem killV_vfn (r : Nat) (p : List Nat) (f r' : Nat) : killV r p (some (.vfn f r')) = bif (r == r' && p.isEmpty) then none else some (.vfn f r') := by cases h : (r == r' && p.isEmpty) <;> simp only [killV, V.hits, h] <;> rfl
@[simp] theorem hits_vfn (r : Nat) (p : List Nat) (f r' : Nat) : (V.vfn f r').hits r p = (r == r' && p.isEmpty) := rfl
@[simp] theorem hitR_vfn (d k f r : Nat) (l : List (Nat × Option V)) : hitR d ((k, some (.vfn f r)) :: l) = (d == r || hitR d l) := by simp [hitR]
@[simp] theorem keepV_vfn (ks : List Nat) (f r : Nat) : keepV ks (some (.vfn f r)) = bif ks.contains r then some (.vfn f r) else none := by cases h : ks.contains r <;> simp only [keepV, V.inside, h] <;> rfl
@[simp] theorem inside_vfn (ks : List Nat) (f r : Nat) : (V.vfn f r).inside ks = ks.contains r := rfl
@[simp] theorem softV_vfn (f r : Nat) : softV (some (.vfn f r)) = none := rfl
@[simp] theorem pkV_vfn (n f r : Nat) : pkV n (some (.vfn f r)) = some (.vfn f r) := rfl
@[simp] theorem rootly_vfn (f r : Nat) : (V.vfn f r).rootly = false := rfl
@[simp] theorem lent_vfn (f r : Nat) : (V.vfn f r).lent = true := rfl
@[simp] theorem take_vfn (e : Env) (f r : Nat) : e.take (.vfn f r) = none := nrfl rfl
def resF (f : Nat) : Option T → Option T
  | some (.mem .own none ts) => some (.fn f [.mem .old none (T.eryL .old ts)])
  | _ => none
@[simp] theorem res_vfn (e : Env) (f r : Nat) : e.res (.vfn f r) = resF f (e.tree r []) := by
  unfold Env.res resF
  rfl
@[simp] theorem resF_own (f : Nat) (ts : List T) : resF f (some (.mem .own none ts)) = some (.fn f [.mem .old none (T.eryL .old ts)]) := nrfl rfl
def vcapT (r : Nat) : Option T → Option Nat
  | some (.mem .own none _) => some r
  | _ => none
@[simp] theorem vcap_pref (e : Env) (r : Nat) : e.vcap (.pref r [] 0) = vcapT r (e.tree r []) := by
  unfold Env.vcap vcapT
  rfl
@[simp] theorem vcapT_own (r : Nat) (ts : List T) : vcapT r (some (.mem .own none ts)) = some r := nrfl rfl
def takeN (e : Env) (r : Nat) : Option T → Option (T × Env)
  | some (.set ks) => some (.set ks, e.del r)
  | _ => none
@[simp] theorem take_same (e : Env) (r : Nat) : e.take (.same r) = takeN e r (e.tree r []) := by
  simp only [Env.take]
  unfold takeN
  rfl
@[simp] theorem takeN_set (e : Env) (r : Nat) (ks : List ByteArray) : takeN e r (some (.set ks)) = some (.set ks, e.del r) := nrfl rfl
def setV (r : Nat) : Option V → Option (Nat × List ByteArray)
  | some (.val (.set ks)) => some (r, ks)
  | _ => none
@[simp] theorem setOf_same (l : List (Nat × Option V)) (r : Nat) : (fr l).setOf (.same r) = setV r (fr l r) := by
  simp only [Env.setOf]
  unfold setV
  rfl
@[simp] theorem setV_set (r : Nat) (ks : List ByteArray) : setV r (some (.val (.set ks))) = some (r, ks) := nrfl rfl
@[simp] theorem asStr_str (s : ByteArray) : asStr (.val (.sc (.string s))) = some s := nrfl rfl
@[simp] theorem mmV_int (mx : Bool) (k : IntKind) (a b : Int) : mmV mx (.val (.sc (.int k a))) (.val (.sc (.int k b))) = some (.val (.sc (.int k (mmI mx a b)))) := by simp [mmV]
@[simp] theorem cap0V_nil : cap0V (.val (.sc (.slice none 0 0))) = some (.val (.sc (.int .i64 0))) := nrfl rfl
@[simp] theorem bstr_nil (e : Env) : e.bstr (.val (.sc (.slice none 0 0))) = some (.val (.sc (.string ⟨#[]⟩))) := nrfl rfl
def bstrT (off len : Nat) : Option T → Option V
  | some (.mem .own (some 1) ts) => if off + len ≤ ts.length then (bytesL (win ts off len)).map fun l => .val (.sc (.string ⟨l.toArray⟩)) else none
  | _ => none
@[simp] theorem bstr_sref (e : Env) (r : Nat) (p : List Nat) (off len : Nat) : e.bstr (.sref r p 1 off len) = bstrT off len (e.tree r p) := by
  simp only [Env.bstr]
  unfold bstrT
  rfl
@[simp] theorem bstrT_own (off len : Nat) (ts : List T) : bstrT off len (some (.mem .own (some 1) ts)) = if off + len ≤ ts.length then (bytesL (win ts off len)).map fun l => .val (.sc (.string ⟨l.toArray⟩)) else none := nrfl rfl
@[simp] theorem arrV_vagg (sz len : Nat) (vs : List V) (i : Int) : arrV sz len (.vagg vs) i = if 0 ≤ i ∧ i < (len : Int) ∧ vs.length = len * sz then some (.vagg ((vs.drop (i.toNat * sz)).take sz)) else none := nrfl rfl
@[simp] theorem still_val (t : T) : V.still (.val t) = if t.noOwn then some t else none := nrfl rfl
@[simp] theorem still_vagg (vs : List V) : V.still (.vagg vs) = (V.stillL vs).map .agg := nrfl rfl
@[simp] theorem stillL_nil : V.stillL [] = some [] := nrfl rfl
@[simp] theorem stillL_cons (v : V) (vs : List V) : V.stillL (v :: vs) = (V.still v).bind fun t => (V.stillL vs).map fun ts => t :: ts := nrfl rfl
@[simp] theorem vcells_nil (sz : Nat) : V.cells sz [] = some [] := nrfl rfl
@[simp] theorem vcells_cons (sz : Nat) (v : V) (vs : List V) : V.cells sz (v :: vs) = (V.still v).bind fun t => if t.cells.length = sz ∧ t.cells.all T.isCell = true then (V.cells sz vs).map fun ts => t.cells ++ ts else none := nrfl rfl

section
variable (G : Rl) (m : K) (d : Option Nat) (k : Env → Prop) (e : Env)
@[simp] theorem q_mm (mx : Bool) (x y : Opd) : stepQ G m d (.mm mx x y) k e = bindP (e.opd x) fun a => bindP (e.opd y) fun b => bindP (mmV mx a b) fun v => k (e.setD d v) := rfl
@[simp] theorem q_cap0 (x : Opd) : stepQ G m d (.cap0 x) k e = bindP (e.opd x) fun a => bindP (cap0V a) fun v => k (e.setD d v) := rfl
@[simp] theorem q_bstr (x : Opd) : stepQ G m d (.bstr x) k e = bindP (e.opd x) fun a => bindP (e.bstr a) fun v => k (e.setD d v) := rfl
@[simp] theorem q_bslv (sz : Nat) (ps : List Opd) : stepQ G m d (.bslv sz ps) k e = bindP (e.opds ps) fun vs => bindP (V.cells sz vs) fun ts => k (e.setD d (.val (.mem .own (some sz) ts))) := rfl
def bsl1V (k : Env → Prop) (e : Env) (n : Nat) (d : Option Nat) : V → Prop
  | .val (.mem .own (some j) ts) => (e.kill n [] = e ∧ 0 < j ∧ ts.length / j * j = ts.length) ∧ k ((e.del n).setD d (.val (.mem .own (some 1) [.mem .own (some j) ts])))
  | _ => False
@[simp] theorem q_bsl1 (n : Nat) : stepQ G m d (.bsl1 n) k e = bindP (frAt e n) fun v => bsl1V k e n d v := by
  unfold stepQ frAt bsl1V
  rfl
@[simp ↓, simp] theorem bsl1V_own (n : Nat) (j : Nat) (ts : List T) : bsl1V k e n d (.val (.mem .own (some j) ts)) = ((e.kill n [] = e ∧ 0 < j ∧ ts.length / j * j = ts.length) ∧ k ((e.del n).setD d (.val (.mem .own (some 1) [.mem .own (some j) ts])))) := rfl
def apzV (k : Env → Prop) (e : Env) (z : Value) (d : Option Nat) (n : Int) : V → Prop
  | .val (.sc (.slice none 0 0)) => (0 < n ∧ n ≤ (roomy : Int)) ∧ k (e.setD d (.val (.mem .own (some 1) (List.replicate n.toNat (.sc z)))))
  | _ => False
@[simp] theorem q_apz (z : Value) (x n : Opd) : stepQ G m d (.apz z x n) k e = bindP (e.opd x) fun v => bindP ((e.opd n).bind asI) fun n => apzV k e z d n v := by
  unfold stepQ apzV
  rfl
@[simp ↓, simp] theorem apzV_nil (z : Value) (n : Int) : apzV k e z d n (.val (.sc (.slice none 0 0))) = ((0 < n ∧ n ≤ (roomy : Int)) ∧ k (e.setD d (.val (.mem .own (some 1) (List.replicate n.toNat (.sc z)))))) := rfl
@[simp] theorem q_bsls_own (sz : Nat) (ps : List Opd) : stepQ G m d (.bsls sz false false ps) k e = bindP (e.opds ps) fun vs => bindP (e.takeL vs) fun y => y.1.all (fun t => t.cells.length == sz && t.cells.all T.isCell) = true ∧ k (y.2.setD d (.val (.mem .own (some sz) (y.1.flatMap T.cells)))) := rfl
@[simp] theorem q_bsls_frz (sz : Nat) (ps : List Opd) : stepQ G m d (.bsls sz true true ps) k e = bindP (e.opds ps) fun vs => bindP (e.takeL vs) fun y => y.1.all (fun t => t.cells.length == sz && t.cells.all T.isCell) = true ∧ k (y.2.setD d (.val (.mem m (some sz) (T.frzL m (y.1.flatMap T.cells))))) := rfl
@[simp] theorem q_bsls_in (sz : Nat) (ps : List Opd) : stepQ G m d (.bsls sz true false ps) k e = bindP (e.opds ps) fun vs => bindP (e.takeL vs) fun y => y.1.all (fun t => t.cells.length == sz && t.cells.all T.isCell) = true ∧ k (y.2.setD d (.val (.mem .own (some sz) (T.frzL m (y.1.flatMap T.cells))))) := rfl
@[simp] theorem q_arr (sz len : Nat) (x i : Opd) : stepQ G m d (.arr sz len x i) k e = bindP (e.opd x) fun a => bindP ((e.opd i).bind asI) fun n => bindP (arrV sz len a n) fun v => k (e.setD d v) := rfl
@[simp] theorem q_mkset : stepQ G m d .mkset k e = k (e.setD d (.val (.set []))) := rfl
@[simp] theorem q_look (x y : Opd) : stepQ G m d (.look x y) k e = bindP (e.opd x) fun a => bindP ((e.opd y).bind asStr) fun s => bindP (e.setOf a) fun z => k (e.setD d (.val (.sc (.bool (decide (s ∈ z.2)))))) := rfl
@[simp] theorem q_upd (x y : Opd) : stepQ G m d (.upd x y) k e = bindP (e.opd x) fun a => bindP ((e.opd y).bind asStr) fun s => bindP (e.setOf a) fun z => k (e.setTree z.1 [] (.set (if s ∈ z.2 then z.2 else z.2 ++ [s]))) := rfl
@[simp] theorem wp_stuck (R : X → Env → Prop) : wp G m .stuck R e = False := rfl
end
end Go.Mch
/- The machine is monotone: what follows may be weakened, what callees are known to do may grow; the rules for loops and calls. -/
namespace Go.Mch

theorem bindP_mono {α : Type} {o : Option α} {f g : α → Prop} (h : ∀ a, f a → g a) (hf : bindP o f) : bindP o g :=
  let ⟨a, h1, h2⟩ := hf; ⟨a, h1, h a h2⟩

theorem stepQ_mono {G G' : Rl} (hG : ∀ f a a' r, G f a a' r → G' f a a' r) {m : K} {d : Option Nat} {q : Q} {k k' : Env → Prop} (hk : ∀ e, k e → k' e) {e : Env}
    (h : stepQ G m d q k e) : stepQ G' m d q k' e := by
  cases q
  case call f args =>
    refine bindP_mono (fun fv hv => ?_) h
    cases fv <;> try exact hv
    rename_i t
    cases t <;> try exact hv
    refine bindP_mono (fun ts ht => ?_) hv
    obtain ⟨ts', r, h1, h2, h3, h4⟩ := ht
    exact ⟨ts', r, hG _ _ _ _ h1, h2, h3, bindP_mono (fun _ h => hk _ h) h4⟩
  case mv x => exact bindP_mono (fun _ h => hk _ h) h
  case mvw x => exact bindP_mono (fun _ h => ⟨h.1, hk _ h.2⟩) h
  case sts x y =>
    refine bindP_mono (fun a ha => bindP_mono (fun v hv => ?_) ha) h
    split at hv
    · split at hv
      · exact ⟨hv.1, hk _ hv.2⟩
      · exact hv.elim
    · exact hv.elim
  case stsw => exact bindP_mono (fun _ h => bindP_mono (fun _ h => bindP_mono (fun _ h => ⟨h.1, bindP_mono (fun _ h => hk _ h) h.2⟩) h) h) h
  case asg x =>
    refine bindP_mono (fun v hv => ?_) h
    cases v
    case val t => exact hk _ hv
    all_goals exact bindP_mono (fun _ h => hk _ h) hv
  case pick => exact bindP_mono (fun _ h => bindP_mono (fun _ h => hk _ h) h) h
  case bin => exact bindP_mono (fun _ h => bindP_mono (fun _ h => bindP_mono (fun _ h => hk _ h) h) h) h
  case beq => exact bindP_mono (fun _ h => bindP_mono (fun _ h => hk _ h) h) h
  case isnil => exact bindP_mono (fun _ h => hk _ h) h
  case slen => exact bindP_mono (fun _ h => hk _ h) h
  case un => exact bindP_mono (fun _ h => bindP_mono (fun _ h => hk _ h) h) h
  case conv => exact bindP_mono (fun _ h => hk _ h) h
  case len => exact bindP_mono (fun _ h => hk _ h) h
  case idx => exact bindP_mono (fun _ h => bindP_mono (fun _ h => bindP_mono (fun _ h => hk _ h) h) h) h
  case fld => exact bindP_mono (fun _ h => bindP_mono (fun _ h => hk _ h) h) h
  case fldv => exact bindP_mono (fun _ h => bindP_mono (fun _ h => hk _ h) h) h
  case ld => exact bindP_mono (fun _ h => bindP_mono (fun _ h => hk _ h) h) h
  case st =>
    refine bindP_mono (fun a ha => bindP_mono (fun v hv => bindP_mono (fun y hy => ?_) hv) ha) h
    split at hy
    · split at hy
      · exact ⟨hy.1, hk _ hy.2⟩
      · exact hy.elim
    · exact hy.elim
  case nilck =>
    refine bindP_mono (fun a ha => ?_) h
    split at ha
    · exact hk _ ha
    · exact hk _ ha
    · exact ha.elim
  case alloc => exact hk _ h
  case box => exact bindP_mono (fun _ h => bindP_mono (fun _ h => ⟨h.1, hk _ h.2⟩) h) h
  case build => exact bindP_mono (fun _ h => bindP_mono (fun _ h => hk _ h) h) h
  case mks => exact bindP_mono (fun _ h => ⟨h.1, hk _ h.2⟩) h
  case bsl => exact bindP_mono (fun _ h => bindP_mono (fun _ h => ⟨h.1, hk _ h.2⟩) h) h
  case app =>
    refine bindP_mono (fun a ha => bindP_mono (fun b hb => bindP_mono (fun z hz => bindP_mono (fun u hu => ?_) hz) hb) ha) h
    refine ⟨hu.1, ?_⟩
    have h2 := hu.2
    split at h2
    · exact ⟨fun x => hk _ (h2.1 x), fun x => hk _ (h2.2 x)⟩
    · exact hk _ h2
  case sl => exact bindP_mono (fun _ h => bindP_mono (fun _ h => bindP_mono (fun _ h => bindP_mono (fun _ h => hk _ h) h) h) h) h
  case ext => exact bindP_mono (fun _ h => bindP_mono (fun _ h => hk _ h) h) h
  case fnc => exact bindP_mono (fun _ h => hk _ h) h
  case freeze => exact bindP_mono (fun _ h => hk _ h) h
  case settle => exact bindP_mono (fun _ h => hk _ h) h
  case fncl => exact bindP_mono (fun _ h => bindP_mono (fun _ h => hk _ h) h) h
  case mm => exact bindP_mono (fun _ h => bindP_mono (fun _ h => bindP_mono (fun _ h => hk _ h) h) h) h
  case cap0 => exact bindP_mono (fun _ h => bindP_mono (fun _ h => hk _ h) h) h
  case bstr => exact bindP_mono (fun _ h => bindP_mono (fun _ h => hk _ h) h) h
  case bsls => exact bindP_mono (fun _ h => bindP_mono (fun _ h => ⟨h.1, hk _ h.2⟩) h) h
  case bslv => exact bindP_mono (fun _ h => bindP_mono (fun _ h => hk _ h) h) h
  case bsl1 n =>
    refine bindP_mono (fun v hv => ?_) h
    split at hv
    · exact ⟨hv.1, hk _ hv.2⟩
    · exact hv.elim
  case apz =>
    refine bindP_mono (fun v hv => bindP_mono (fun _ hv => ?_) hv) h
    split at hv
    · exact ⟨hv.1, hk _ hv.2⟩
    · exact hv.elim
  case arr => exact bindP_mono (fun _ h => bindP_mono (fun _ h => bindP_mono (fun _ h => hk _ h) h) h) h
  case mkset => exact hk _ h
  case look => exact bindP_mono (fun _ h => bindP_mono (fun _ h => bindP_mono (fun _ h => hk _ h) h) h) h
  case upd => exact bindP_mono (fun _ h => bindP_mono (fun _ h => bindP_mono (fun _ h => hk _ h) h) h) h
  case bslk x n =>
    refine bindP_mono (fun v hv => bindP_mono (fun u hu => ?_) hv) h
    split at hu
    · exact ⟨hu.1, hk _ hu.2⟩
    · exact hu.elim
  case appk x y n =>
    refine bindP_mono (fun v hv => bindP_mono (fun v hv => bindP_mono (fun v hv => bindP_mono (fun v hv => bindP_mono (fun u hu => ?_) hv) hv) hv) hv) h
    split at hu
    · exact ⟨hu.1, hk _ hu.2⟩
    · exact hu.elim
  case boxk s =>
    refine bindP_mono (fun v hv => ?_) h
    split at hv
    · exact ⟨hv.1, hk _ hv.2⟩
    · exact hv.elim
  case callm f args ks =>
    refine bindP_mono (fun fv hv => ?_) h
    cases fv <;> try exact hv
    rename_i t
    cases t <;> try exact hv
    refine bindP_mono (fun vs hv => ⟨hv.1, bindP_mono (fun y hy => ?_) hv.2⟩) hv
    obtain ⟨h0, ts', r, h1, h2, h3⟩ := hy
    exact ⟨h0, ts', r, hG _ _ _ _ h1, h2, bindP_mono (fun _ h => bindP_mono (fun _ h => hk _ h) h) h3⟩
  refine bindP_mono (fun a ha => bindP_mono (fun n hn => ?_) ha) h
  split at hn
  · exact bindP_mono (fun _ h => hk _ h) hn
  · exact hn.elim

theorem stepO_mono {G G' : Rl} (hG : ∀ f a a' r, G f a a' r → G' f a a' r) {m : K} {o : O} {k k' : Env → Prop} (hk : ∀ e, k e → k' e) {e : Env}
    (h : stepO G m o k e) : stepO G' m o k' e := by
  unfold stepO at *
  split
  · rename_i hg; simp only [hg] at h; exact stepQ_mono hG hk h
  · rename_i s b hg
    simp only [hg] at h
    split at h
    · split at h
      · rename_i h1; rw [if_pos h1]; exact stepQ_mono hG hk h
      · rename_i h1; rw [if_neg h1]; exact hk _ h
    · exact hk _ h
    · exact h.elim

theorem wpL_mono {G G' : Rl} (hG : ∀ f a a' r, G f a a' r → G' f a a' r) {m : K} (l : List O) {k k' : Env → Prop} (hk : ∀ e, k e → k' e) :
    ∀ {e : Env}, wpL G m l k e → wpL G' m l k' e := by
  induction l with
  | nil => exact fun h => hk _ h
  | cons o l ih => exact fun h => stepO_mono hG (fun _ h => ih h) h

theorem after_mono {n n' : Env → Prop} {R R' : X → Env → Prop} (hn : ∀ e, n e → n' e) (hR : ∀ x e, R x e → R' x e) : ∀ x e, X.after n R x e → X.after n' R' x e
  | .nrm, e, h => hn e h
  | .ext _, e, h => hR _ e h
  | .ret, e, h => hR _ e h

theorem wp_mono {G G' : Rl} (hG : ∀ f a a' r, G f a a' r → G' f a a' r) {m : K} (c : C) : ∀ {R R' : X → Env → Prop}, (∀ x e, R x e → R' x e) → ∀ {e : Env}, wp G m c R e → wp G' m c R' e := by
  induction c with
  | skip => exact fun hR _ h => hR _ _ h
  | region dr ops ks => exact fun hR _ h => wpL_mono hG ops (fun _ h => hR _ _ h) h
  | seq a b iha ihb => exact fun hR _ h => iha (after_mono (fun _ h => ihb hR h) hR) h
  | cond c a b iha ihb =>
    intro R R' hR e h
    refine bindP_mono (fun t ht => ?_) h
    cases t
    · exact ihb hR ht
    · exact iha hR ht
  | block id b ih =>
    intro R R' hR e h
    refine ih (fun x e hx => ?_) h
    cases x
    · exact hR _ _ hx
    · simp only [X.out] at hx ⊢
      split
      · rename_i h1; rw [if_pos h1] at hx; exact hR _ _ hx
      · rename_i h1; rw [if_neg h1] at hx; exact hR _ _ hx
    · exact hR _ _ hx
  | loop b ih =>
    intro R R' hR e h I hI
    exact h I fun e he => hI e (ih (after_mono (fun _ h => h) hR) he)
  | exit id => exact fun hR _ h => hR _ _ h
  | ret => exact fun hR _ h => hR _ _ h
  | stuck => exact fun _ _ h => h.elim

/-- A round, and then the loop again. -/
theorem wpLoop_round {G : Rl} {m : K} {b : C} {R : X → Env → Prop} {e : Env} (h : wp G m b (X.after (wpLoop G m b R) R) e) : wpLoop G m b R e :=
  fun I hI => hI e (wp_mono (fun _ _ _ _ h => h) b (after_mono (fun _ h => h I hI) (fun _ _ h => h)) h)

/-- Rounds that are counted. -/
theorem wpLoop_count {G : Rl} {m : K} {b : C} {R : X → Env → Prop} (St : Nat → Env → Prop) (n : Nat)
    (round : ∀ k e, k < n → St k e → wp G m b (X.after (St (k + 1)) R) e) (last : ∀ e, St n e → wp G m b (X.after (fun _ => False) R) e) :
    ∀ k e, k ≤ n → St k e → wpLoop G m b R e := by
  intro k e hk
  obtain ⟨j, hj⟩ : ∃ j, k + j = n := ⟨n - k, by omega⟩
  clear hk
  induction j generalizing k e with
  | zero =>
    intro he
    have : k = n := by omega
    subst this
    exact wpLoop_round (wp_mono (fun _ _ _ _ h => h) b (after_mono (fun _ h => h.elim) (fun _ _ h => h)) (last e he))
  | succ j ih =>
    intro he
    exact wpLoop_round (wp_mono (fun _ _ _ _ h => h) b (after_mono (fun e' h => ih (k + 1) e' (by omega) h) (fun _ _ h => h)) (round k e (by omega) he))

/-- Rounds that lower a measure. -/
theorem wpLoop_lower {G : Rl} {m : K} {b : C} {R : X → Env → Prop} {α : Type} (μ : α → Nat) (St : α → Env → Prop)
    (round : ∀ x e, St x e → wp G m b (X.after (fun e' => ∃ y, μ y < μ x ∧ St y e') R) e) :
    ∀ x e, St x e → wpLoop G m b R e := by
  intro x
  generalize hn : μ x = n
  induction n using Nat.strongRecOn generalizing x with
  | _ n ih =>
    intro e he
    exact wpLoop_round (wp_mono (fun _ _ _ _ h => h) b (after_mono (fun e' ⟨y, hy, h⟩ => ih (μ y) (hn ▸ hy) y rfl e' h) (fun _ _ h => h)) (round x e he))

/-- A function whose body goes through makes its call good. -/
theorem Call.intro_own {pg : Pg} {f : Nat} {args args' : List T} {r : T} {fn : F} (hf : pg.fn f = some fn) (hn : fn.np = args.length) (hl : fn.lets args = true)
    (h : wp (Call pg) (kindOf args) fn.body (post fn.rs args args' r) (init args)) : Call pg f args args' r :=
  fun G hp hG => hG f args args' r fn hf hn hl (wp_mono (fun _ _ _ _ hc => hc G hp hG) _ (fun _ _ h => h) h)

theorem noOwnL_getD : ∀ {ts : List T}, T.noOwnL ts = true → ∀ i, (ts.getD i .gone).noOwn = true
  | [], _, _ => rfl
  | t :: ts, h, 0 => by simp only [T.noOwnL, Bool.and_eq_true] at h; exact h.1
  | t :: ts, h, i + 1 => by simp only [T.noOwnL, Bool.and_eq_true] at h; exact noOwnL_getD h.2 i

theorem F.lets_of {fn : F} {args : List T} (h : T.noOwnL args = true) : fn.lets args = true := by
  unfold F.lets
  rw [List.all_eq_true]
  intro i _
  rw [noOwnL_getD h]
  rfl

theorem Call.intro {pg : Pg} {f : Nat} {args args' : List T} {r : T} {fn : F} (hf : pg.fn f = some fn) (hn : fn.np = args.length) (hl : T.noOwnL args = true)
    (h : wp (Call pg) .fresh fn.body (post fn.rs args args' r) (init args)) : Call pg f args args' r :=
  Call.intro_own hf hn (F.lets_of hl) (by unfold kindOf; rw [if_pos hl]; exact h)

end Go.Mch
/- How a tree lies in the model's heap; what is owned; that what is not touched stays. -/
namespace Go.Mch

def scal : Value → Bool
  | .int .. => true
  | .bool _ => true
  | .string _ => true
  | .nilFunc => true
  | .nilIface => true
  | .slice none 0 0 => true
  | .slice (some _) 0 0 => true
  | .pointer none => true
  | .map none => true
  | _ => false

/-- The value of part i of a value. -/
def kid (w : World) : Value → Nat → Value
  | .pointer (some a), i => (w.cell? ⟨a.block, a.off + i, none⟩).getD undef
  | .slice (some a) _ _, i => (w.cell? ⟨a.block, a.off + i, none⟩).getD undef
  | .agg cs, i => cs.getD i undef
  | .tuple vs, i => vs.getD i undef
  | .func _ _ cs, i => cs.getD i undef
  | _, _ => undef

def blk : Value → Nat
  | .pointer (some a) => a.block
  | .slice (some a) _ _ => a.block
  | .map (some r) => r
  | _ => 0

def ofs : Value → Nat
  | .pointer (some a) => a.off
  | .slice (some a) _ _ => a.off
  | _ => 0

def capOf : Value → Nat
  | .slice _ _ c => c
  | _ => 0

/-- The shape of a value that leads to n cells. -/
def shp (w : World) (v : Value) (s : Option Nat) (n : Nat) : Prop :=
  (match s with
   | none => v = .pointer (some ⟨blk v, ofs v, none⟩)
   | some sz => ∃ len, v = .slice (some ⟨blk v, ofs v, none⟩) len (capOf v) ∧ n = len * sz ∧ 0 < sz ∧ len ≤ capOf v) ∧
  ∀ i, i < n → (w.cell? ⟨blk v, ofs v + i, none⟩).isSome = true

/-- The block of own memory has its cells, with the room for more that a slice's capacity tells. -/
def roomOf (w : World) (v : Value) (s : Option Nat) (n : Nat) : Prop :=
  ∃ arr elem, w.heap[blk v]? = some (.cells arr elem) ∧ ofs v + (match s with | none => n | some sz => capOf v * sz) ≤ arr.size

/-- A map whose keys are these strings, each with the value true. -/
def isSet (w : World) (v : Value) (ks : List ByteArray) : Prop :=
  v = .map (some (blk v)) ∧ ∃ es clock, w.heap[blk v]? = some (.map es clock) ∧ es.toList.map (·.key) = ks.map .string ∧ ∀ x ∈ es.toList, x.val = .bool true

mutual
def rep (fm : Nat → Nat) (ok : K → Nat → Prop) (w : World) (v : Value) : T → Prop
  | .sc x => v = x ∧ scal x = true
  | .gone => True
  | .nul => v = undef
  | .mem k s ts => shp w v s ts.length ∧ (k = .own ∨ ts ≠ [] → ok k (blk v)) ∧ (k = .own → roomOf w v s ts.length) ∧ (k ≠ .own → T.noOwnL ts = true) ∧ repL fm ok w (kid w v) 0 ts
  | .fn f caps => (∃ cs, v = .func (.func (fm f)) #[] cs ∧ cs.size = caps.length) ∧ T.noOwnL caps = true ∧ repL fm ok w (kid w v) 0 caps
  | .agg ts => (∃ cs, v = .agg cs ∧ cs.size = ts.length) ∧ repL fm ok w (kid w v) 0 ts
  | .tup ts => (∃ vs, v = .tuple vs ∧ vs.size = ts.length) ∧ repL fm ok w (kid w v) 0 ts
  | .set ks => isSet w v ks ∧ ok .own (blk v)
def repL (fm : Nat → Nat) (ok : K → Nat → Prop) (w : World) (g : Nat → Value) (i : Nat) : List T → Prop
  | [] => True
  | t :: ts => rep fm ok w (g i) t ∧ repL fm ok w g (i + 1) ts
end

mutual
/-- How often block b is owned by a tree. -/
def cnt (w : World) (v : Value) (b : Nat) : T → Nat
  | .mem k _ ts => if k = .own then (if blk v = b then 1 else 0) + cntL w (kid w v) b 0 ts else 0
  | .agg ts => cntL w (kid w v) b 0 ts
  | .tup ts => cntL w (kid w v) b 0 ts
  | .set _ => if blk v = b then 1 else 0
  | _ => 0
def cntL (w : World) (g : Nat → Value) (b : Nat) (i : Nat) : List T → Nat
  | [] => 0
  | t :: ts => cnt w (g i) b t + cntL w g b (i + 1) ts
end

theorem rep_mem {fm : Nat → Nat} {ok : K → Nat → Prop} {w : World} {v : Value} {k : K} {s : Option Nat} {ts : List T} : rep fm ok w v (.mem k s ts) =
    (shp w v s ts.length ∧ (k = .own ∨ ts ≠ [] → ok k (blk v)) ∧ (k = .own → roomOf w v s ts.length) ∧ (k ≠ .own → T.noOwnL ts = true) ∧ repL fm ok w (kid w v) 0 ts) := by rw [rep]
theorem cnt_own {w : World} {v : Value} {b : Nat} {s : Option Nat} {ts : List T} : cnt w v b (.mem .own s ts) = (if blk v = b then 1 else 0) + cntL w (kid w v) b 0 ts := by simp [cnt]
theorem cnt_imm {w : World} {v : Value} {b : Nat} {k : K} {s : Option Nat} {ts : List T} (h : k ≠ .own) : cnt w v b (.mem k s ts) = 0 := by simp [cnt, h]

theorem kid_eq {w w' : World} {v : Value} (h : w'.heap[blk v]? = w.heap[blk v]?) : kid w' v = kid w v := by
  funext i
  match v with
  | .pointer (some a) => simp only [kid, World.cell?_of_block (a := ⟨a.block, a.off + i, none⟩) h]
  | .slice (some a) _ _ => simp only [kid, World.cell?_of_block (a := ⟨a.block, a.off + i, none⟩) h]
  | .pointer none | .slice none _ _ | .bool _ | .int .. | .float .. | .complex .. | .string _ | .map _ | .chan _ | .func .. | .nilFunc | .iface .. | .nilIface | .agg _ | .tuple _ => rfl

theorem shp_eq {w w' : World} {v : Value} {s : Option Nat} {n : Nat} (h : w'.heap[blk v]? = w.heap[blk v]?) (hs : shp w v s n) : shp w' v s n :=
  ⟨hs.1, fun i hi => by rw [World.cell?_of_block (a := ⟨blk v, ofs v + i, none⟩) h]; exact hs.2 i hi⟩

theorem roomOf_eq {w w' : World} {v : Value} {s : Option Nat} {n : Nat} (h : w'.heap[blk v]? = w.heap[blk v]?) (hs : roomOf w v s n) : roomOf w' v s n := by
  obtain ⟨a, e, h1, h2⟩ := hs
  exact ⟨a, e, h.trans h1, h2⟩

theorem isSet_eq {w w' : World} {v : Value} {ks : List ByteArray} (h : w'.heap[blk v]? = w.heap[blk v]?) (hs : isSet w v ks) : isSet w' v ks := by
  obtain ⟨h1, es, c, h2, h3⟩ := hs
  exact ⟨h1, es, c, h.trans h2, h3⟩

theorem isSet_lt {w : World} {v : Value} {ks : List ByteArray} (hs : isSet w v ks) : blk v < w.heap.size := by
  obtain ⟨_, es, c, h2, _⟩ := hs
  exact (Array.getElem?_eq_some_iff.1 h2).1

theorem shp_lt {w : World} {v : Value} {s : Option Nat} {n : Nat} (hs : shp w v s n) (hn : 0 < n) : blk v < w.heap.size := by
  have h := hs.2 0 hn
  cases hc : w.cell? ⟨blk v, ofs v + 0, none⟩ with
  | none => rw [hc] at h; cases h
  | some u => exact World.block_lt_of_cell? w ⟨blk v, ofs v + 0, none⟩ hc

theorem roomOf_lt {w : World} {v : Value} {s : Option Nat} {n : Nat} (hs : roomOf w v s n) : blk v < w.heap.size := by
  obtain ⟨a, e, h1, _⟩ := hs
  exact (Array.getElem?_eq_some_iff.1 h1).1

mutual
theorem cnt_noOwn (w : World) (v : Value) (b : Nat) : ∀ t : T, t.noOwn = true → cnt w v b t = 0
  | .sc _, _ => rfl
  | .gone, _ => rfl
  | .nul, _ => rfl
  | .fn _ _, _ => rfl
  | .mem k s ts, h => by
    simp only [T.noOwn, Bool.and_eq_true, bne_iff_ne, ne_eq] at h
    simp [cnt, h.1]
  | .agg ts, h => by simp only [T.noOwn] at h; simp only [cnt]; exact cntL_noOwn w _ b ts 0 h
  | .tup ts, h => by simp only [T.noOwn] at h; simp only [cnt]; exact cntL_noOwn w _ b ts 0 h
theorem cntL_noOwn (w : World) (g : Nat → Value) (b : Nat) : ∀ (ts : List T) (i : Nat), T.noOwnL ts = true → cntL w g b i ts = 0
  | [], _, _ => rfl
  | t :: ts, i, h => by
    simp only [T.noOwnL, Bool.and_eq_true] at h
    simp only [cntL, cnt_noOwn w _ b t h.1, cntL_noOwn w g b ts (i + 1) h.2]
end

theorem cntL_congr {w : World} {g g' : Nat → Value} {b : Nat} : ∀ (ts : List T) (i : Nat), (∀ j, i ≤ j → j < i + ts.length → g j = g' j) → cntL w g b i ts = cntL w g' b i ts
  | [], _, _ => rfl
  | t :: ts, i, h => by
    simp only [cntL]
    rw [h i (Nat.le_refl _) (by simp), cntL_congr ts (i + 1) fun j h1 h2 => h j (by omega) (by simp only [List.length_cons]; omega)]

theorem repL_congr {fm : Nat → Nat} {ok : K → Nat → Prop} {w : World} {g g' : Nat → Value} : ∀ (ts : List T) (i : Nat), (∀ j, i ≤ j → j < i + ts.length → g j = g' j) → repL fm ok w g i ts → repL fm ok w g' i ts
  | [], _, _, _ => trivial
  | t :: ts, i, h, hr => by
    simp only [repL] at hr ⊢
    refine ⟨?_, repL_congr ts (i + 1) (fun j h1 h2 => h j (by omega) (by simp only [List.length_cons]; omega)) hr.2⟩
    rw [← h i (Nat.le_refl _) (by simp)]; exact hr.1

theorem cntL_shift {w : World} {g : Nat → Value} {b : Nat} : ∀ (ts : List T) (i k : Nat), cntL w g b (i + k) ts = cntL w (fun j => g (j + k)) b i ts
  | [], _, _ => rfl
  | t :: ts, i, k => by
    simp only [cntL]
    rw [show i + k + 1 = (i + 1) + k from by omega, cntL_shift ts (i + 1) k]

theorem repL_shift {fm : Nat → Nat} {ok : K → Nat → Prop} {w : World} {g : Nat → Value} : ∀ (ts : List T) (i k : Nat), repL fm ok w g (i + k) ts ↔ repL fm ok w (fun j => g (j + k)) i ts
  | [], _, _ => Iff.rfl
  | t :: ts, i, k => by
    simp only [repL]
    rw [show i + k + 1 = (i + 1) + k from by omega, repL_shift ts (i + 1) k]

theorem repL_append {fm : Nat → Nat} {ok : K → Nat → Prop} {w : World} {g : Nat → Value} : ∀ (ts us : List T) (i : Nat), repL fm ok w g i (ts ++ us) ↔ repL fm ok w g i ts ∧ repL fm ok w g (i + ts.length) us
  | [], us, i => by simp [repL]
  | t :: ts, us, i => by
    simp only [List.cons_append, repL, repL_append ts us (i + 1), List.length_cons, and_assoc]
    rw [show i + 1 + ts.length = i + (ts.length + 1) from by omega]

theorem cntL_append {w : World} {g : Nat → Value} {b : Nat} : ∀ (ts us : List T) (i : Nat), cntL w g b i (ts ++ us) = cntL w g b i ts + cntL w g b (i + ts.length) us
  | [], us, i => by simp [cntL]
  | t :: ts, us, i => by
    simp only [List.cons_append, cntL, cntL_append ts us (i + 1), List.length_cons]
    rw [show i + 1 + ts.length = i + (ts.length + 1) from by omega]
    omega

theorem repL_get {fm : Nat → Nat} {ok : K → Nat → Prop} {w : World} {g : Nat → Value} : ∀ (ts : List T) (i j : Nat) {t : T}, repL fm ok w g i ts → ts[j]? = some t → rep fm ok w (g (i + j)) t
  | [], _, _, _, _, h => by simp at h
  | u :: ts, i, 0, t, hr, h => by simp at h; subst h; exact hr.1
  | u :: ts, i, j + 1, t, hr, h => by
    have := repL_get ts (i + 1) j hr.2 (by simpa using h)
    rwa [show i + 1 + j = i + (j + 1) from by omega] at this

theorem cntL_get {w : World} {g : Nat → Value} {b : Nat} : ∀ (ts : List T) (i j : Nat) {t : T}, ts[j]? = some t → cnt w (g (i + j)) b t ≤ cntL w g b i ts
  | [], _, _, _, h => by simp at h
  | u :: ts, i, 0, t, h => by simp at h; subst h; simp [cntL]
  | u :: ts, i, j + 1, t, h => by
    have := cntL_get (w := w) (g := g) (b := b) ts (i + 1) j (by simpa using h)
    rw [show i + 1 + j = i + (j + 1) from by omega] at this
    simp only [cntL]
    omega

/-! ### What is not touched stays -/

mutual
theorem frame {fm : Nat → Nat} {ok : K → Nat → Prop} {w w' : World} {touch : Nat → Prop}
    (hsame : ∀ b, b < w.heap.size → ¬ touch b → w'.heap[b]? = w.heap[b]?) (himm : ∀ k b, k ≠ .own → ok k b → ¬ touch b) :
    ∀ (t : T) (v : Value), rep fm ok w v t → (∀ b, touch b → cnt w v b t = 0) → rep fm ok w' v t ∧ ∀ b, cnt w' v b t = cnt w v b t
  | .sc _, _, h, _ => ⟨h, fun _ => rfl⟩
  | .gone, _, _, _ => ⟨trivial, fun _ => rfl⟩
  | .nul, _, h, _ => ⟨h, fun _ => rfl⟩
  | .fn f caps, v, h, _ => by
    simp only [rep] at h ⊢
    obtain ⟨⟨cs, rfl, hsz⟩, h2, h3⟩ := h
    refine ⟨⟨⟨cs, rfl, hsz⟩, h2, ?_⟩, fun _ => rfl⟩
    have := (frameL hsame himm caps _ 0 h3 fun b _ => cntL_noOwn w _ b caps 0 h2).1
    exact this
  | .agg ts, v, h, hc => by
    simp only [rep, cnt] at h hc ⊢
    obtain ⟨⟨cs, rfl, hsz⟩, h3⟩ := h
    have := frameL hsame himm ts _ 0 h3 hc
    exact ⟨⟨⟨cs, rfl, hsz⟩, this.1⟩, this.2⟩
  | .tup ts, v, h, hc => by
    simp only [rep, cnt] at h hc ⊢
    obtain ⟨⟨cs, rfl, hsz⟩, h3⟩ := h
    have := frameL hsame himm ts _ 0 h3 hc
    exact ⟨⟨⟨cs, rfl, hsz⟩, this.1⟩, this.2⟩
  | .set ks, v, h, hc => by
    simp only [rep, cnt] at h hc ⊢
    have hb : w'.heap[blk v]? = w.heap[blk v]? := hsame _ (isSet_lt h.1) fun ht => by
      have := hc _ ht
      simp at this
    exact ⟨⟨isSet_eq hb h.1, h.2⟩, by simp⟩
  | .mem k s ts, v, h, hc => by
    rw [rep_mem] at h ⊢
    obtain ⟨h1, h2, h3, h4, h5⟩ := h
    by_cases hk : k = .own
    · subst hk
      simp only [cnt_own] at hc ⊢
      have hb : w'.heap[blk v]? = w.heap[blk v]? := hsame _ (roomOf_lt (h3 rfl)) fun ht => by
        have := hc _ ht
        simp at this
      have h5' := frameL hsame himm ts _ 0 h5 fun b ht => by have := hc b ht; omega
      rw [kid_eq hb]
      exact ⟨⟨shp_eq hb h1, fun _ => h2 (.inl rfl), fun _ => roomOf_eq hb (h3 rfl), h4, h5'.1⟩, fun b => by rw [h5'.2]⟩
    · refine ⟨?_, fun b => by rw [cnt_imm hk, cnt_imm hk]⟩
      cases hts : ts with
      | nil =>
        subst hts
        refine ⟨⟨h1.1, fun i hi => absurd hi (by simp)⟩, fun h => ?_, fun h => (hk h).elim, fun _ => rfl, trivial⟩
        rcases h with h | h
        · exact (hk h).elim
        · exact (h rfl).elim
      | cons t r =>
        have hne : ts ≠ [] := by rw [hts]; simp
        rw [← hts]
        have hb : w'.heap[blk v]? = w.heap[blk v]? := hsame _ (shp_lt h1 (by rw [hts]; simp)) (himm k _ hk (h2 (.inr hne)))
        rw [kid_eq hb]
        exact ⟨shp_eq hb h1, h2, fun h => (hk h).elim, h4, (frameL hsame himm ts _ 0 h5 fun b _ => cntL_noOwn w _ b ts 0 (h4 hk)).1⟩
theorem frameL {fm : Nat → Nat} {ok : K → Nat → Prop} {w w' : World} {touch : Nat → Prop}
    (hsame : ∀ b, b < w.heap.size → ¬ touch b → w'.heap[b]? = w.heap[b]?) (himm : ∀ k b, k ≠ .own → ok k b → ¬ touch b) :
    ∀ (ts : List T) (g : Nat → Value) (i : Nat), repL fm ok w g i ts → (∀ b, touch b → cntL w g b i ts = 0) → repL fm ok w' g i ts ∧ ∀ b, cntL w' g b i ts = cntL w g b i ts
  | [], _, _, _, _ => ⟨trivial, fun _ => rfl⟩
  | t :: ts, g, i, h, hc => by
    simp only [repL, cntL] at h hc ⊢
    have h1 := frame hsame himm t _ h.1 fun b ht => by have := hc b ht; omega
    have h2 := frameL hsame himm ts g (i + 1) h.2 fun b ht => by have := hc b ht; omega
    exact ⟨⟨h1.1, h2.1⟩, fun b => by rw [h1.2, h2.2]⟩
end

/-! ### What blocks are let -/

mutual
theorem rep_ok {fm : Nat → Nat} {ok ok' : K → Nat → Prop} {w : World} (himm : ∀ k b, k ≠ .own → b < w.heap.size → ok k b → ok' k b) :
    ∀ (t : T) (v : Value), (∀ b, 1 ≤ cnt w v b t → b < w.heap.size → ok .own b → ok' .own b) → rep fm ok w v t → rep fm ok' w v t
  | .sc _, _, _, h => h
  | .gone, _, _, _ => trivial
  | .nul, _, _, h => h
  | .fn f caps, v, _, h => by
    simp only [rep] at h ⊢
    exact ⟨h.1, h.2.1, repL_ok himm caps _ 0 (fun b hb => by rw [cntL_noOwn w _ b caps 0 h.2.1] at hb; omega) h.2.2⟩
  | .agg ts, v, ho, h => by
    simp only [rep, cnt] at h ho ⊢
    exact ⟨h.1, repL_ok himm ts _ 0 ho h.2⟩
  | .tup ts, v, ho, h => by
    simp only [rep, cnt] at h ho ⊢
    exact ⟨h.1, repL_ok himm ts _ 0 ho h.2⟩
  | .set ks, v, ho, h => by
    simp only [rep, cnt] at h ho ⊢
    exact ⟨h.1, ho _ (by simp) (isSet_lt h.1) h.2⟩
  | .mem k s ts, v, ho, h => by
    simp only [rep, cnt] at h ho ⊢
    obtain ⟨h1, h2, h3, h4, h5⟩ := h
    by_cases hk : k = .own
    · simp only [hk, if_true] at ho
      refine ⟨h1, fun hh => ?_, h3, h4, repL_ok himm ts _ 0 (fun b hb => ho b (by omega)) h5⟩
      rw [hk]
      exact ho _ (by simp) (roomOf_lt (h3 hk)) (hk ▸ h2 (.inl hk))
    · refine ⟨h1, fun hh => ?_, h3, h4, repL_ok himm ts _ 0 (fun b hb => by rw [cntL_noOwn w _ b ts 0 (h4 hk)] at hb; omega) h5⟩
      rcases hh with hh | hh
      · exact (hk hh).elim
      · exact himm k _ hk (shp_lt h1 (by cases ts <;> simp_all)) (h2 (.inr hh))
theorem repL_ok {fm : Nat → Nat} {ok ok' : K → Nat → Prop} {w : World} (himm : ∀ k b, k ≠ .own → b < w.heap.size → ok k b → ok' k b) :
    ∀ (ts : List T) (g : Nat → Value) (i : Nat), (∀ b, 1 ≤ cntL w g b i ts → b < w.heap.size → ok .own b → ok' .own b) → repL fm ok w g i ts → repL fm ok' w g i ts
  | [], _, _, _, _ => trivial
  | t :: ts, g, i, ho, h => by
    simp only [repL, cntL] at h ho ⊢
    exact ⟨rep_ok himm t _ (fun b hb => ho b (by omega)) h.1, repL_ok himm ts g (i + 1) (fun b hb => ho b (by omega)) h.2⟩
end

mutual
/-- What is owned is let, and there. -/
theorem rep_owned {fm : Nat → Nat} {ok : K → Nat → Prop} {w : World} : ∀ (t : T) (v : Value), rep fm ok w v t → ∀ b, 1 ≤ cnt w v b t → ok .own b ∧ b < w.heap.size
  | .sc _, _, _, b, h => by simp [cnt] at h
  | .gone, _, _, b, h => by simp [cnt] at h
  | .nul, _, _, b, h => by simp [cnt] at h
  | .fn _ _, _, _, b, h => by simp [cnt] at h
  | .agg ts, v, h, b, hb => by
    simp only [rep, cnt] at h hb
    exact repL_owned ts _ 0 h.2 b hb
  | .tup ts, v, h, b, hb => by
    simp only [rep, cnt] at h hb
    exact repL_owned ts _ 0 h.2 b hb
  | .set ks, v, h, b, hb => by
    simp only [rep, cnt] at h hb
    by_cases hbl : blk v = b
    · subst hbl; exact ⟨h.2, isSet_lt h.1⟩
    · rw [if_neg hbl] at hb; omega
  | .mem k s ts, v, h, b, hb => by
    simp only [rep, cnt] at h hb
    obtain ⟨h1, h2, h3, h4, h5⟩ := h
    by_cases hk : k = .own
    · simp only [hk, if_true] at hb
      by_cases hbl : blk v = b
      · subst hbl
        exact ⟨hk ▸ h2 (.inl hk), roomOf_lt (h3 hk)⟩
      · rw [if_neg hbl] at hb
        exact repL_owned ts _ 0 h5 b (by omega)
    · rw [if_neg hk] at hb; omega
theorem repL_owned {fm : Nat → Nat} {ok : K → Nat → Prop} {w : World} : ∀ (ts : List T) (g : Nat → Value) (i : Nat), repL fm ok w g i ts → ∀ b, 1 ≤ cntL w g b i ts → ok .own b ∧ b < w.heap.size
  | [], _, _, _, b, h => by simp [cntL] at h
  | t :: ts, g, i, h, b, hb => by
    simp only [repL, cntL] at h hb
    by_cases h1 : 1 ≤ cnt w (g i) b t
    · exact rep_owned t _ h.1 b h1
    · exact repL_owned ts g (i + 1) h.2 b (by omega)
end

/-! ### Paths -/

/-- The value of the part of a value to which a path leads. -/
def nodeV (w : World) : Value → List Nat → Value
  | v, [] => v
  | v, i :: p => nodeV w (kid w v i) p

theorem rep_kids {fm : Nat → Nat} {ok : K → Nat → Prop} {w : World} {v : Value} {t : T} (h : rep fm ok w v t) : repL fm ok w (kid w v) 0 t.kids := by
  cases t with
  | mem k s ts =>
    cases k
    · simp only [rep] at h; exact h.2.2.2.2
    · trivial
    · trivial
  | agg ts => simp only [rep] at h; exact h.2
  | tup ts => simp only [rep] at h; exact h.2
  | _ => trivial

theorem cnt_kids (w : World) (v : Value) (b : Nat) (t : T) : cntL w (kid w v) b 0 t.kids ≤ cnt w v b t := by
  cases t with
  | mem k s ts =>
    cases k
    · simp [T.kids, cnt]
    · simp [T.kids, cntL]
    · simp [T.kids, cntL]
  | agg ts => simp [T.kids, cnt]
  | tup ts => simp [T.kids, cnt]
  | _ => simp [T.kids, cntL]

theorem focus {fm : Nat → Nat} {ok : K → Nat → Prop} {w : World} : ∀ (p : List Nat) (t : T) (v : Value) {u : T}, rep fm ok w v t → t.at p = some u →
    rep fm ok w (nodeV w v p) u ∧ ∀ b, cnt w (nodeV w v p) b u ≤ cnt w v b t
  | [], t, v, u, h, hp => by
    simp only [T.at, Option.some.injEq] at hp
    subst hp
    exact ⟨h, fun _ => Nat.le_refl _⟩
  | i :: p, t, v, u, h, hp => by
    simp only [T.at] at hp
    cases hi : t.kids[i]? with
    | none => rw [hi] at hp; cases hp
    | some c =>
      rw [hi] at hp
      simp only [Option.bind_some] at hp
      have hc := repL_get t.kids 0 i (rep_kids h) hi
      rw [Nat.zero_add] at hc
      have := focus p c (kid w v i) hc hp
      refine ⟨this.1, fun b => ?_⟩
      have h1 := this.2 b
      have h2 := cntL_get (w := w) (g := kid w v) (b := b) t.kids 0 i hi
      rw [Nat.zero_add] at h2
      have h3 := cnt_kids w v b t
      simp only [nodeV]
      omega

theorem frame_node {fm : Nat → Nat} {ok : K → Nat → Prop} {w w' : World} {touch : Nat → Prop}
    (hsame : ∀ b, b < w.heap.size → ¬ touch b → w'.heap[b]? = w.heap[b]?) : ∀ (p : List Nat) (t : T) (v : Value) {u : T}, rep fm ok w v t →
    (∀ b, touch b → cnt w v b t = 0) → t.at p = some u → nodeV w' v p = nodeV w v p
  | [], _, _, _, _, _, _ => rfl
  | i :: p, t, v, u, h, hc, hp => by
    simp only [T.at] at hp
    cases hi : t.kids[i]? with
    | none => rw [hi] at hp; cases hp
    | some c =>
      rw [hi] at hp
      simp only [Option.bind_some] at hp
      have hk : kid w' v i = kid w v i := by
        cases t with
        | mem k s ts =>
          cases k
          · rw [rep_mem] at h
            refine congrFun (kid_eq (hsame _ (roomOf_lt (h.2.2.1 rfl)) fun ht => ?_)) i
            have := hc _ ht
            simp [cnt] at this
          · simp [T.kids] at hi
          · simp [T.kids] at hi
        | agg ts => simp only [rep] at h; obtain ⟨⟨cs, rfl, _⟩, _⟩ := h; rfl
        | tup ts => simp only [rep] at h; obtain ⟨⟨cs, rfl, _⟩, _⟩ := h; rfl
        | _ => simp [T.kids] at hi
      have hc' := repL_get t.kids 0 i (rep_kids h) hi
      rw [Nat.zero_add] at hc'
      simp only [nodeV, hk]
      refine frame_node hsame p c (kid w v i) hc' (fun b ht => ?_) hp
      have h1 := hc b ht
      have h2 := cntL_get (w := w) (g := kid w v) (b := b) t.kids 0 i hi
      rw [Nat.zero_add] at h2
      have h3 := cnt_kids w v b t
      omega

theorem replL {fm : Nat → Nat} {ok : K → Nat → Prop} {w w' : World} {touch : Nat → Prop}
    (hsame : ∀ b, b < w.heap.size → ¬ touch b → w'.heap[b]? = w.heap[b]?) (himm : ∀ k b, k ≠ .own → ok k b → ¬ touch b) {x : T} :
    ∀ (ts : List T) (g : Nat → Value) (k i : Nat) {c : T}, repL fm ok w g k ts → ts[i]? = some c → (∀ b, touch b → cntL w g b k ts = cnt w (g (k + i)) b c) →
      rep fm ok w' (g (k + i)) x →
      repL fm ok w' g k (ts.set i x) ∧ ∀ b, cntL w' g b k (ts.set i x) + cnt w (g (k + i)) b c = cntL w g b k ts + cnt w' (g (k + i)) b x
  | [], _, _, _, _, _, h, _, _ => by simp at h
  | u :: ts, g, k, 0, c, hr, h, hc, hx => by
    simp only [List.getElem?_cons_zero, Option.some.injEq] at h
    subst h
    simp only [repL, cntL, Nat.add_zero, List.set_cons_zero] at hr hc hx ⊢
    have h2 := frameL hsame himm ts g (k + 1) hr.2 fun b ht => by have := hc b ht; omega
    exact ⟨⟨hx, h2.1⟩, fun b => by rw [h2.2]; omega⟩
  | u :: ts, g, k, i + 1, c, hr, h, hc, hx => by
    simp only [List.getElem?_cons_succ] at h
    simp only [repL, cntL, List.set_cons_succ] at hr hc ⊢
    have e : k + (i + 1) = k + 1 + i := by omega
    rw [e] at hx
    have hle : ∀ b, cnt w (g (k + 1 + i)) b c ≤ cntL w g b (k + 1) ts := fun b => cntL_get ts (k + 1) i h
    have h1 := frame hsame himm u _ hr.1 fun b ht => by have := hc b ht; rw [e] at this; have := hle b; omega
    have h2 := replL hsame himm ts g (k + 1) i hr.2 h (fun b ht => by have := hc b ht; rw [e] at this; have := hle b; omega) hx
    refine ⟨⟨h1.1, h2.1⟩, fun b => ?_⟩
    have := h2.2 b
    rw [h1.2, e]
    omega

/-- The value of an inner node is not touched where what is touched lies below one of its parts. -/
theorem kid_still {fm : Nat → Nat} {ok : K → Nat → Prop} {w w' : World} {touch : Nat → Prop}
    (hsame : ∀ b, b < w.heap.size → ¬ touch b → w'.heap[b]? = w.heap[b]?) {t : T} {v : Value} (h : rep fm ok w v t) {i : Nat} {c : T} (hi : t.kids[i]? = some c)
    (hc : ∀ b, touch b → cnt w v b t ≤ cnt w (kid w v i) b c) : kid w' v = kid w v := by
  cases t with
  | mem k s ts =>
    cases k
    · rw [rep_mem] at h
      refine kid_eq (hsame _ (roomOf_lt (h.2.2.1 rfl)) fun ht => ?_)
      have h1 := hc _ ht
      have h2 := cntL_get (w := w) (g := kid w v) (b := blk v) ts 0 i hi
      rw [Nat.zero_add] at h2
      simp [cnt] at h1
      omega
    · simp [T.kids] at hi
    · simp [T.kids] at hi
  | agg ts => simp only [rep] at h; obtain ⟨⟨cs, rfl, _⟩, _⟩ := h; rfl
  | tup ts => simp only [rep] at h; obtain ⟨⟨cs, rfl, _⟩, _⟩ := h; rfl
  | _ => simp [T.kids] at hi

theorem withKids_rep {fm : Nat → Nat} {ok : K → Nat → Prop} {w w' : World} {v : Value} {t : T} {ts' : List T} (h : rep fm ok w v t) (hl : ts'.length = t.kids.length)
    (hne : t.kids ≠ []) (hk : kid w' v = kid w v) (hb : (∃ s, ∃ us, t = .mem .own s us) → w'.heap[blk v]? = w.heap[blk v]?) (hr : repL fm ok w' (kid w v) 0 ts') :
    rep fm ok w' v (t.withKids ts') ∧ ∀ b, cnt w' v b (t.withKids ts') + cntL w (kid w v) b 0 t.kids = cnt w v b t + cntL w' (kid w v) b 0 ts' := by
  cases t with
  | mem k s ts =>
    cases k
    · simp only [T.kids] at hl
      simp only [T.withKids, T.kids, cnt_own]
      rw [rep_mem] at h ⊢
      have hb' := hb ⟨s, ts, rfl⟩
      rw [hk, hl]
      exact ⟨⟨shp_eq hb' h.1, fun _ => h.2.1 (.inl rfl), fun _ => roomOf_eq hb' (h.2.2.1 rfl), fun hh => (hh rfl).elim, hr⟩, fun b => by omega⟩
    · simp [T.kids] at hne
    · simp [T.kids] at hne
  | agg ts =>
    simp only [T.kids] at hl
    simp only [rep, T.withKids, T.kids, cnt] at h ⊢
    rw [hk, hl]
    exact ⟨⟨h.1, hr⟩, fun b => by omega⟩
  | tup ts =>
    simp only [T.kids] at hl
    simp only [rep, T.withKids, T.kids, cnt] at h ⊢
    rw [hk, hl]
    exact ⟨⟨h.1, hr⟩, fun b => by omega⟩
  | _ => simp [T.kids] at hne

/-- A part of a tree is replaced; what is touched in the heap lies in that part. -/
theorem replace {fm : Nat → Nat} {ok : K → Nat → Prop} {w w' : World} {touch : Nat → Prop}
    (hsame : ∀ b, b < w.heap.size → ¬ touch b → w'.heap[b]? = w.heap[b]?) (himm : ∀ k b, k ≠ .own → ok k b → ¬ touch b) {u x : T} :
    ∀ (p : List Nat) (t : T) (v : Value), rep fm ok w v t → t.at p = some u → (∀ b, touch b → cnt w v b t = cnt w (nodeV w v p) b u) → rep fm ok w' (nodeV w v p) x →
      rep fm ok w' v (t.setAt p x) ∧ (∀ b, cnt w' v b (t.setAt p x) + cnt w (nodeV w v p) b u = cnt w v b t + cnt w' (nodeV w v p) b x) ∧ nodeV w' v p = nodeV w v p
  | [], t, v, _, hp, _, hx => by
    simp only [T.at, Option.some.injEq] at hp
    subst hp
    exact ⟨hx, fun b => by simp only [nodeV, T.setAt]; omega, rfl⟩
  | i :: p, t, v, h, hp, hc, hx => by
    simp only [T.at] at hp
    cases hi : t.kids[i]? with
    | none => rw [hi] at hp; cases hp
    | some c =>
      rw [hi] at hp
      simp only [Option.bind_some] at hp
      simp only [nodeV] at hc hx ⊢
      have hrc := repL_get t.kids 0 i (rep_kids h) hi
      rw [Nat.zero_add] at hrc
      have hf := focus p c (kid w v i) hrc hp
      have hle : ∀ b, cnt w (kid w v i) b c ≤ cntL w (kid w v) b 0 t.kids := fun b => by
        have := cntL_get (w := w) (g := kid w v) (b := b) t.kids 0 i hi
        rwa [Nat.zero_add] at this
      have hle2 := fun b => cnt_kids w v b t
      have hk : kid w' v = kid w v := kid_still hsame h hi fun b ht => by have := hc b ht; have := hf.2 b; omega
      have ih := replace hsame himm p c (kid w v i) hrc hp (fun b ht => by have := hc b ht; have := hf.2 b; have := hle b; have := hle2 b; omega) hx
      have hgd : t.kids.getD i .gone = c := by rw [List.getD_eq_getElem?_getD, hi]; rfl
      have hl := replL hsame himm t.kids (kid w v) 0 i (rep_kids h) hi (fun b ht => by
        rw [Nat.zero_add]; have := hc b ht; have := hf.2 b; have := hle b; have := hle2 b; omega) (by rw [Nat.zero_add]; exact ih.1)
      rw [Nat.zero_add] at hl
      have hne : t.kids ≠ [] := fun e => by rw [e] at hi; simp at hi
      have hw := withKids_rep (w' := w') h (ts' := t.kids.set i (c.setAt p x)) (by simp) hne hk (fun ⟨s, us, e⟩ => by
        subst e
        have h' := h
        rw [rep_mem] at h'
        refine hsame _ (roomOf_lt (h'.2.2.1 rfl)) fun ht => ?_
        have h1 := hc _ ht
        have h2 := hle (blk v)
        have h3 := hf.2 (blk v)
        simp [cnt, T.kids] at h1 h2
        omega) hl.1
      simp only [T.setAt, hgd]
      refine ⟨hw.1, fun b => ?_, by rw [hk]; exact ih.2.2⟩
      have h1 := hw.2 b
      have h2 := hl.2 b
      have h3 := ih.2.1 b
      omega

theorem at_setAt {x : T} : ∀ (p q : List Nat) (t : T) {s : Option Nat} {ts : List T}, p.isPrefixOf q = false → t.at q = some (.mem .own s ts) →
    ∃ ts', (t.setAt p x).at q = some (.mem .own s ts') ∧ ts'.length = ts.length
  | [], _, _, _, _, h, _ => by simp at h
  | i :: p, [], t, s, ts, _, hq => by
    simp only [T.at, Option.some.injEq] at hq
    subst hq
    exact ⟨ts.set i ((ts.getD i .gone).setAt p x), by simp [T.at, T.setAt, T.withKids, T.kids], by simp⟩
  | i :: p, j :: q, t, s, ts, h, hq => by
    simp only [T.at] at hq
    cases hj : t.kids[j]? with
    | none => rw [hj] at hq; cases hq
    | some c =>
      rw [hj] at hq
      simp only [Option.bind_some] at hq
      have hk : (t.setAt (i :: p) x).kids = t.kids.set i ((t.kids.getD i .gone).setAt p x) := by
        cases t with
        | mem k s ts => cases k <;> simp [T.setAt, T.withKids, T.kids] at hj ⊢
        | agg ts => rfl
        | tup ts => rfl
        | _ => simp [T.kids] at hj
      simp only [T.at, hk]
      by_cases hij : i = j
      · subst hij
        have hlt : i < t.kids.length := by
          rcases Nat.lt_or_ge i t.kids.length with h' | h'
          · exact h'
          · rw [List.getElem?_eq_none h'] at hj; cases hj
        have hgd : t.kids.getD i .gone = c := by rw [List.getD_eq_getElem?_getD, hj]; rfl
        rw [List.getElem?_set_self hlt, hgd]
        simp only [Option.bind_some]
        simp only [List.isPrefixOf, beq_self_eq_true, Bool.true_and] at h
        exact at_setAt p q c h hq
      · rw [List.getElem?_set_ne hij, hj]
        exact ⟨ts, hq, rfl⟩

theorem node_still {fm : Nat → Nat} {ok : K → Nat → Prop} {w w' : World} {touch : Nat → Prop}
    (hsame : ∀ b, b < w.heap.size → ¬ touch b → w'.heap[b]? = w.heap[b]?) {u : T} :
    ∀ (p q : List Nat) (t : T) (v : Value) {y : T}, rep fm ok w v t → t.at p = some u → (∀ b, touch b → cnt w v b t = cnt w (nodeV w v p) b u) →
      p.isPrefixOf q = false → t.at q = some y → nodeV w' v q = nodeV w v q
  | [], _, _, _, _, _, _, _, h, _ => by simp at h
  | _ :: _, [], _, _, _, _, _, _, _, _ => rfl
  | i :: p, j :: q, t, v, y, h, hp, hc, hn, hq => by
    simp only [T.at] at hp hq
    cases hi : t.kids[i]? with
    | none => rw [hi] at hp; cases hp
    | some c =>
      rw [hi] at hp
      simp only [Option.bind_some] at hp
      simp only [nodeV] at hc ⊢
      have hrc := repL_get t.kids 0 i (rep_kids h) hi
      rw [Nat.zero_add] at hrc
      have hf := focus p c (kid w v i) hrc hp
      have hle : ∀ b, cnt w (kid w v i) b c ≤ cntL w (kid w v) b 0 t.kids := fun b => by
        have := cntL_get (w := w) (g := kid w v) (b := b) t.kids 0 i hi
        rwa [Nat.zero_add] at this
      have hle2 := fun b => cnt_kids w v b t
      have hk : kid w' v = kid w v := kid_still hsame h hi fun b ht => by have := hc b ht; have := hf.2 b; omega
      rw [hk]
      cases hj : t.kids[j]? with
      | none => rw [hj] at hq; cases hq
      | some d =>
        rw [hj] at hq
        simp only [Option.bind_some] at hq
        by_cases hij : i = j
        · subst hij
          rw [hi] at hj
          cases hj
          simp only [List.isPrefixOf, beq_self_eq_true, Bool.true_and] at hn
          exact node_still hsame p q c (kid w v i) hrc hp (fun b ht => by have := hc b ht; have := hf.2 b; have := hle b; have := hle2 b; omega) hn hq
        · have hrd := repL_get t.kids 0 j (rep_kids h) hj
          rw [Nat.zero_add] at hrd
          refine frame_node hsame q d (kid w v j) hrd (fun b ht => ?_) hq
          have h1 := cntL_two (w := w) (g := kid w v) (b := b) t.kids 0 i j hij hi hj
          rw [Nat.zero_add, Nat.zero_add] at h1
          have := hc b ht; have := hf.2 b; have := hle b; have := hle2 b
          omega
where
  cntL_two {w : World} {g : Nat → Value} {b : Nat} : ∀ (ts : List T) (k i j : Nat) {c d : T}, i ≠ j → ts[i]? = some c → ts[j]? = some d → cnt w (g (k + i)) b c + cnt w (g (k + j)) b d ≤ cntL w g b k ts
    | [], _, _, _, _, _, _, h, _ => by simp at h
    | u :: ts, k, 0, 0, _, _, h, _, _ => (h rfl).elim
    | u :: ts, k, 0, j + 1, c, d, _, h1, h2 => by
      simp only [List.getElem?_cons_zero, Option.some.injEq, List.getElem?_cons_succ] at h1 h2
      subst h1
      have := cntL_get (w := w) (g := g) (b := b) ts (k + 1) j h2
      simp only [cntL]
      rw [show k + (j + 1) = k + 1 + j from by omega, Nat.add_zero]
      omega
    | u :: ts, k, i + 1, 0, c, d, _, h1, h2 => by
      simp only [List.getElem?_cons_zero, Option.some.injEq, List.getElem?_cons_succ] at h1 h2
      subst h2
      have := cntL_get (w := w) (g := g) (b := b) ts (k + 1) i h1
      have e1 : k + (i + 1) = k + 1 + i := by omega
      have e2 : k + 0 = k := rfl
      rw [e1, e2]
      simp only [cntL]
      omega
    | u :: ts, k, i + 1, j + 1, c, d, h, h1, h2 => by
      simp only [List.getElem?_cons_succ] at h1 h2
      have := cntL_two (w := w) (g := g) (b := b) ts (k + 1) i j (by omega) h1 h2
      have e1 : k + (i + 1) = k + 1 + i := by omega
      have e2 : k + (j + 1) = k + 1 + j := by omega
      rw [e1, e2]
      simp only [cntL]
      omega

theorem setAt_append : ∀ (p : List Nat) (t : T) (i : Nat) (x : T) {u : T}, t.at p = some u → t.setAt (p ++ [i]) x = t.setAt p (u.withKids (u.kids.set i x))
  | [], t, i, x, u, h => by
    simp only [T.at, Option.some.injEq] at h
    subst h
    simp [T.setAt]
  | j :: p, t, i, x, u, h => by
    simp only [T.at] at h
    cases hj : t.kids[j]? with
    | none => rw [hj] at h; cases h
    | some c =>
      rw [hj] at h
      simp only [Option.bind_some] at h
      have hgd : t.kids.getD j .gone = c := by rw [List.getD_eq_getElem?_getD, hj]; rfl
      simp only [List.cons_append, T.setAt, hgd, setAt_append p c i x h]

end Go.Mch
/- A frame of trees against a frame of the model: who owns what; moves of trees between slots; new memory; stores. -/
namespace Go.Mch

structure Keeps (M : Nat → Prop) (w0 w : World) : Prop where
  os : w.os = w0.os
  tape : w.tape = w0.tape
  output : w.output = w0.output
  size : w0.heap.size ≤ w.heap.size
  block : ∀ b, b < w0.heap.size → ¬ M b → w.heap[b]? = w0.heap[b]?

theorem Keeps.refl (M : Nat → Prop) (w : World) : Keeps M w w := ⟨rfl, rfl, rfl, Nat.le_refl _, fun _ _ _ => rfl⟩

structure Cx where
  fm : Nat → Nat
  w0 : World
  A : Nat → Prop
  M : Nat → Prop
  hA : ∀ b, A b → b < w0.heap.size
  N : Nat → Prop := fun _ => False

abbrev Vl := Nat → Value

def Own (e : Env) (vl : Vl) (w : World) (b : Nat) : Prop := ∃ s t, e s = some (.val t) ∧ 1 ≤ cnt w (vl s) b t

def okR (cx : Cx) (own : Nat → Prop) (k : K) (b : Nat) : Prop :=
  ¬ cx.A b ∧ (k = .own → cx.w0.heap.size ≤ b ∨ cx.M b) ∧ (k = .fresh → cx.w0.heap.size ≤ b) ∧ (k ≠ .own → ¬ own b ∧ ¬ cx.N b)

theorem okR_mono {cx : Cx} {o o' : Nat → Prop} {k : K} {b : Nat} (h : o' b → o b) (hk : okR cx o k b) : okR cx o' k b :=
  ⟨hk.1, hk.2.1, hk.2.2.1, fun h1 => ⟨fun h2 => (hk.2.2.2 h1).1 (h h2), (hk.2.2.2 h1).2⟩⟩

/-- The slice value v is the window from off on of the slice value nv. -/
def wnd (nv v : Value) (sz off len : Nat) : Prop :=
  ∃ o', v = .slice (some ⟨blk nv, o', none⟩) len (capOf nv - off) ∧ off + len ≤ capOf nv ∧ o' ≤ ofs nv + off * sz ∧ (off < capOf nv ∨ off = 0 → o' = ofs nv + off * sz)

mutual
/-- A value that owns nothing. -/
def arep (fm : Nat → Nat) (ok : K → Nat → Prop) (e : Env) (vl : Vl) (w : World) (v : Value) : V → Prop
  | .val t => t.noOwn = true ∧ rep fm ok w v t
  | .sref r p sz off len => 0 < sz ∧ ∃ t ts, e r = some (.val t) ∧ t.at p = some (.mem .own (some sz) ts) ∧ (off + len) * sz ≤ ts.length ∧ wnd (nodeV w (vl r) p) v sz off len
  | .pref r p off => ∃ t s ts, e r = some (.val t) ∧ t.at p = some (.mem .own s ts) ∧ off ≤ ts.length ∧ v = .pointer (some ⟨blk (nodeV w (vl r) p), ofs (nodeV w (vl r) p) + off, none⟩)
  | .vagg vs => (∃ cs, v = .agg cs ∧ cs.size = vs.length) ∧ arepL fm ok e vl w (kid w v) 0 vs
  | .vtup vs => (∃ cs, v = .tuple cs ∧ cs.size = vs.length) ∧ arepL fm ok e vl w (kid w v) 0 vs
  | .same r => v = vl r ∧ ∃ ks, e r = some (.val (.set ks))
  | .vfn f r => v = .func (.func (fm f)) #[] #[vl r] ∧ ∃ ts, e r = some (.val (.mem .own none ts))
def arepL (fm : Nat → Nat) (ok : K → Nat → Prop) (e : Env) (vl : Vl) (w : World) (g : Nat → Value) (i : Nat) : List V → Prop
  | [] => True
  | v :: vs => arep fm ok e vl w (g i) v ∧ arepL fm ok e vl w g (i + 1) vs
end

def srep (fm : Nat → Nat) (ok : K → Nat → Prop) (e : Env) (vl : Vl) (w : World) (v : Value) (x : V) : Prop :=
  (∃ t, x = .val t ∧ rep fm ok w v t) ∨ arep fm ok e vl w v x

structure R (cx : Cx) (e : Env) (vl : Vl) (w : World) : Prop where
  keeps : Keeps cx.M cx.w0 w
  who : ∃ who : Nat → Nat, ∀ s t, e s = some (.val t) → ∀ b, cnt w (vl s) b t ≤ 1 ∧ (1 ≤ cnt w (vl s) b t → who b = s)
  rep : ∀ s x, e s = some x → srep cx.fm (okR cx (Own e vl w)) e vl w (vl s) x

/-- The same place is still known. -/
def Still (e e' : Env) (vl vl' : Vl) (w w' : World) (r : Nat) (p : List Nat) : Prop :=
  (∀ t s ts, e r = some (.val t) → t.at p = some (.mem .own s ts) → ∃ t' ts', e' r = some (.val t') ∧ t'.at p = some (.mem .own s ts') ∧ ts'.length = ts.length ∧ nodeV w' (vl' r) p = nodeV w (vl r) p) ∧
  (p = [] → ∀ ks, e r = some (.val (.set ks)) → ∃ ks', e' r = some (.val (.set ks')) ∧ vl' r = vl r)

mutual
theorem arep_gen {fm : Nat → Nat} {ok ok' : K → Nat → Prop} {e e' : Env} {vl vl' : Vl} {w w' : World} (h1 : ∀ v t, t.noOwn = true → rep fm ok w v t → rep fm ok' w' v t) :
    ∀ (x : V) (v : Value), (∀ r p, x.hits r p = true → Still e e' vl vl' w w' r p) → arep fm ok e vl w v x → arep fm ok' e' vl' w' v x
  | .val t, v, _, h => ⟨h.1, h1 v t h.1 h.2⟩
  | .sref r p sz off len, v, h2, h => by
    simp only [arep] at h ⊢
    obtain ⟨h0, t, ts, a, b, c, d⟩ := h
    obtain ⟨t', ts', a', b', c', d'⟩ := (h2 r p (by simp [V.hits])).1 t _ ts a b
    exact ⟨h0, t', ts', a', b', by rw [c']; exact c, by rw [d']; exact d⟩
  | .pref r p off, v, h2, h => by
    simp only [arep] at h ⊢
    obtain ⟨t, s, ts, a, b, c, d⟩ := h
    obtain ⟨t', ts', a', b', c', d'⟩ := (h2 r p (by simp [V.hits])).1 t s ts a b
    exact ⟨t', s, ts', a', b', by rw [c']; exact c, by rw [d']; exact d⟩
  | .vagg vs, v, h2, h => by
    simp only [arep] at h ⊢
    obtain ⟨⟨cs, rfl, hs⟩, h⟩ := h
    exact ⟨⟨cs, rfl, hs⟩, arepL_gen h1 vs _ 0 (fun r p hh => h2 r p (by simpa [V.hits] using hh)) h⟩
  | .vtup vs, v, h2, h => by
    simp only [arep] at h ⊢
    obtain ⟨⟨cs, rfl, hs⟩, h⟩ := h
    exact ⟨⟨cs, rfl, hs⟩, arepL_gen h1 vs _ 0 (fun r p hh => h2 r p (by simpa [V.hits] using hh)) h⟩
  | .same r, v, h2, h => by
    simp only [arep] at h ⊢
    obtain ⟨a, ks, b⟩ := h
    obtain ⟨ks', c, d⟩ := (h2 r [] (by simp [V.hits])).2 rfl ks b
    exact ⟨by rw [d]; exact a, ks', c⟩
  | .vfn f r, v, h2, h => by
    simp only [arep] at h ⊢
    obtain ⟨a, ts, b⟩ := h
    obtain ⟨t', ts', c, d, _, g⟩ := (h2 r [] (by simp [V.hits])).1 _ none ts b rfl
    simp only [T.at, Option.some.injEq] at d
    subst d
    have g' : vl' r = vl r := g
    exact ⟨by rw [g']; exact a, ts', c⟩
theorem arepL_gen {fm : Nat → Nat} {ok ok' : K → Nat → Prop} {e e' : Env} {vl vl' : Vl} {w w' : World} (h1 : ∀ v t, t.noOwn = true → rep fm ok w v t → rep fm ok' w' v t) :
    ∀ (vs : List V) (g : Nat → Value) (i : Nat), (∀ r p, V.hitsL r p vs = true → Still e e' vl vl' w w' r p) → arepL fm ok e vl w g i vs → arepL fm ok' e' vl' w' g i vs
  | [], _, _, _, _ => trivial
  | x :: vs, g, i, h2, h => by
    simp only [arepL] at h ⊢
    exact ⟨arep_gen h1 x _ (fun r p hh => h2 r p (by simp [V.hitsL, hh])) h.1, arepL_gen h1 vs g (i + 1) (fun r p hh => h2 r p (by simp [V.hitsL, hh])) h.2⟩
end

mutual
theorem arep_root {fm : Nat → Nat} {ok : K → Nat → Prop} {e : Env} {vl : Vl} {w : World} : ∀ (x : V) (v : Value) {r : Nat} {p : List Nat}, arep fm ok e vl w v x → x.hits r p = true → ∃ t, e r = some (.val t)
  | .val t, v, r, p, _, hh => by simp [V.hits] at hh
  | .sref r' q sz off len, v, r, p, h, hh => by
    simp only [arep] at h
    simp [V.hits] at hh
    obtain ⟨_, t, _, a, _⟩ := h
    exact ⟨t, by rw [hh.1]; exact a⟩
  | .pref r' q off, v, r, p, h, hh => by
    simp only [arep] at h
    simp [V.hits] at hh
    obtain ⟨t, _, _, a, _⟩ := h
    exact ⟨t, by rw [hh.1]; exact a⟩
  | .vagg vs, v, r, p, h, hh => by
    simp only [arep] at h
    exact arepL_root vs _ 0 h.2 (by simpa [V.hits] using hh)
  | .vtup vs, v, r, p, h, hh => by
    simp only [arep] at h
    exact arepL_root vs _ 0 h.2 (by simpa [V.hits] using hh)
  | .same r', v, r, p, h, hh => by
    simp only [arep] at h
    simp [V.hits] at hh
    obtain ⟨_, ks, a⟩ := h
    exact ⟨_, by rw [hh.1]; exact a⟩
  | .vfn f r', v, r, p, h, hh => by
    simp only [arep] at h
    simp [V.hits] at hh
    obtain ⟨_, ts, a⟩ := h
    exact ⟨_, by rw [hh.1]; exact a⟩
theorem arepL_root {fm : Nat → Nat} {ok : K → Nat → Prop} {e : Env} {vl : Vl} {w : World} : ∀ (vs : List V) (g : Nat → Value) (i : Nat) {r : Nat} {p : List Nat}, arepL fm ok e vl w g i vs → V.hitsL r p vs = true → ∃ t, e r = some (.val t)
  | [], _, _, _, _, _, hh => by simp [V.hitsL] at hh
  | x :: vs, g, i, r, p, h, hh => by
    simp only [arepL] at h
    simp only [V.hitsL, Bool.or_eq_true] at hh
    rcases hh with hh | hh
    · exact arep_root x _ h.1 hh
    · exact arepL_root vs g (i + 1) h.2 hh
end

theorem isPrefixOf_trans_nil (r : Nat) (p : List Nat) : ∀ x : V, x.hits r p = true → x.hits r [] = true := by
  intro x
  exact hits_nil x
where
  hits_nil : ∀ x : V, x.hits r p = true → x.hits r [] = true
    | .val _, h => by simp [V.hits] at h
    | .sref .., h => by simp [V.hits] at h ⊢; exact h.1
    | .pref .., h => by simp [V.hits] at h ⊢; exact h.1
    | .vagg vs, h => by simp only [V.hits] at h ⊢; exact hitsL_nil vs h
    | .vtup vs, h => by simp only [V.hits] at h ⊢; exact hitsL_nil vs h
    | .same _, h => by simp [V.hits] at h ⊢; exact h.1
    | .vfn _ _, h => by simp [V.hits] at h ⊢; exact h.1
  hitsL_nil : ∀ vs : List V, V.hitsL r p vs = true → V.hitsL r [] vs = true
    | [], h => by simp [V.hitsL] at h
    | x :: vs, h => by
      simp only [V.hitsL, Bool.or_eq_true] at h ⊢
      rcases h with h | h
      · exact .inl (hits_nil x h)
      · exact .inr (hitsL_nil vs h)

theorem R.root {cx : Cx} {e : Env} {vl : Vl} {w : World} (h : R cx e vl w) {s r : Nat} {p : List Nat} {x : V} (hs : e s = some x) (hh : x.hits r p = true) : ∃ t, e r = some (.val t) := by
  rcases h.rep s x hs with ⟨t, rfl, _⟩ | h'
  · simp [V.hits] at hh
  · exact arep_root x _ h' hh

theorem srep_gen {fm : Nat → Nat} {ok ok' : K → Nat → Prop} {e e' : Env} {vl vl' : Vl} {w w' : World} {v : Value} {x : V}
    (hv : ∀ t, x = .val t → rep fm ok w v t → rep fm ok' w' v t) (h1 : ∀ v t, t.noOwn = true → rep fm ok w v t → rep fm ok' w' v t)
    (h2 : ∀ r p, x.hits r p = true → Still e e' vl vl' w w' r p) (h : srep fm ok e vl w v x) : srep fm ok' e' vl' w' v x := by
  rcases h with ⟨t, rfl, h⟩ | h
  · exact .inl ⟨t, rfl, hv t rfl h⟩
  · exact .inr (arep_gen h1 x v h2 h)

theorem rep_less {cx : Cx} {o o' : Nat → Prop} {w : World} (h : ∀ b, o' b → o b) {v : Value} {t : T} (hr : rep cx.fm (okR cx o) w v t) : rep cx.fm (okR cx o') w v t :=
  rep_ok (fun _ b _ _ hk => okR_mono (h b) hk) t v (fun b _ _ hk => okR_mono (h b) hk) hr

/-- A part of the frame. -/
theorem R.sub {cx : Cx} {e e' : Env} {vl vl' : Vl} {w : World} (h : R cx e vl w) (hs : ∀ s x, e' s = some x → e s = some x) (hr : ∀ s x r, e' s = some x → x.hits r [] = true → e' r = e r)
    (hv : ∀ s x, e' s = some x → vl' s = vl s) : R cx e' vl' w := by
  have hown : ∀ b, Own e' vl' w b → Own e vl w b := fun b ⟨s, t, h1, h2⟩ => ⟨s, t, hs _ _ h1, by rw [← hv _ _ h1]; exact h2⟩
  refine ⟨h.keeps, ?_, fun s x hx => ?_⟩
  · obtain ⟨who, hw⟩ := h.who
    exact ⟨who, fun s t ht b => by rw [hv _ _ ht]; exact hw s t (hs _ _ ht) b⟩
  · rw [hv _ _ hx]
    refine srep_gen (fun t _ ht => rep_less hown ht) (fun v t _ ht => rep_less hown ht) (fun r p hh => ?_) (h.rep s x (hs _ _ hx))
    have hr' := hr s x r hx (isPrefixOf_trans_nil r p x hh)
    exact ⟨fun t k ts ht hp => ⟨t, ts, hr'.trans ht, hp, rfl, by rw [hv r _ (hr'.trans ht)]⟩, fun _ ks hks => ⟨ks, hr'.trans hks, hv r _ (hr'.trans hks)⟩⟩

def Env.add (e : Env) (d : Nat) (x : V) : Env := fun s => if s = d then some x else e s
def vadd (vl : Vl) (d : Nat) (v : Value) : Vl := fun s => if s = d then v else vl s

@[simp] theorem add_self (e : Env) (d : Nat) (x : V) : e.add d x d = some x := by simp [Env.add]
theorem add_ne {e : Env} {d s : Nat} {x : V} (h : s ≠ d) : e.add d x s = e s := by simp [Env.add, h]
@[simp] theorem vadd_self (vl : Vl) (d : Nat) (v : Value) : vadd vl d v d = v := by simp [vadd]
theorem vadd_ne {vl : Vl} {d s : Nat} {v : Value} (h : s ≠ d) : vadd vl d v s = vl s := by simp [vadd, h]

theorem R.congr {cx : Cx} {e : Env} {vl vl' : Vl} {w : World} (h : R cx e vl w) (hv : ∀ s x, e s = some x → vl' s = vl s) : R cx e vl' w :=
  h.sub (fun _ _ hx => hx) (fun _ _ _ _ _ => rfl) hv

/-- A value that owns nothing, laid into an empty slot. -/
theorem R.addA {cx : Cx} {e : Env} {vl : Vl} {w : World} (h : R cx e vl w) {d : Nat} (hd : e d = none) {v : Value} {x : V} (hx : arep cx.fm (okR cx (Own e vl w)) e vl w v x) :
    R cx (e.add d x) (vadd vl d v) w := by
  have hown : ∀ b, Own (e.add d x) (vadd vl d v) w b → Own e vl w b := by
    rintro b ⟨s, t, h1, h2⟩
    by_cases hs : s = d
    · subst hs
      simp only [add_self, Option.some.injEq] at h1
      subst h1
      simp only [vadd_self] at h2
      rw [cnt_noOwn w v b t hx.1] at h2
      omega
    · rw [add_ne hs] at h1; rw [vadd_ne hs] at h2
      exact ⟨s, t, h1, h2⟩
  have hst : ∀ r p, (∃ t, e r = some (.val t)) → Still e (e.add d x) vl (vadd vl d v) w w r p := by
    rintro r p ⟨u, hu⟩
    have hne : r ≠ d := fun e' => by rw [e', hd] at hu; cases hu
    exact ⟨fun t k ts ht hp => ⟨t, ts, by rw [add_ne hne]; exact ht, hp, rfl, by rw [vadd_ne hne]⟩, fun _ ks hks => ⟨ks, by rw [add_ne hne]; exact hks, vadd_ne hne⟩⟩
  refine ⟨h.keeps, ?_, fun s y hy => ?_⟩
  · obtain ⟨who, hw⟩ := h.who
    refine ⟨who, fun s t ht b => ?_⟩
    by_cases hs : s = d
    · subst hs
      simp only [add_self, Option.some.injEq] at ht
      subst ht
      simp only [vadd_self]
      rw [cnt_noOwn w v b t hx.1]
      exact ⟨by omega, fun h => by omega⟩
    · rw [add_ne hs] at ht; rw [vadd_ne hs]; exact hw s t ht b
  · by_cases hs : s = d
    · subst hs
      simp only [add_self, Option.some.injEq] at hy
      subst hy
      simp only [vadd_self]
      exact .inr (arep_gen (fun v t _ ht => rep_less hown ht) x v (fun r p hh => hst r p (arep_root x v hx hh)) hx)
    · rw [add_ne hs] at hy; rw [vadd_ne hs]
      exact srep_gen (fun t _ ht => rep_less hown ht) (fun v t _ ht => rep_less hown ht) (fun r p hh => hst r p (h.root hy hh)) (h.rep s y hy)

/-- The tree of a slot goes to an empty slot. -/
theorem R.moveRoot {cx : Cx} {e : Env} {vl : Vl} {w : World} (h : R cx e vl w) {r d : Nat} {t : T} (hr : e r = some (.val t)) (hd : e d = none) :
    R cx ((e.del r).add d (.val t)) (vadd vl d (vl r)) w := by
  have hrd : r ≠ d := fun e' => by rw [e', hd] at hr; cases hr
  have hdel : ∀ s x, e.del r s = some x → s ≠ r ∧ e s = some x ∧ x.hits r [] = false := by
    intro s x hx
    simp only [Env.del, Env.kill] at hx
    by_cases hs : s = r
    · simp [hs] at hx
    · rw [if_neg hs] at hx
      cases hes : e s with
      | none => rw [hes] at hx; cases hx
      | some y =>
        rw [hes] at hx
        simp only at hx
        split at hx
        · cases hx
        · rename_i hh
          cases hx
          exact ⟨hs, rfl, by simpa using hh⟩
  have hown : ∀ b, Own ((e.del r).add d (.val t)) (vadd vl d (vl r)) w b → Own e vl w b := by
    rintro b ⟨s, u, h1, h2⟩
    by_cases hs : s = d
    · subst hs
      simp only [add_self, Option.some.injEq, V.val.injEq] at h1
      subst h1
      simp only [vadd_self] at h2
      exact ⟨r, t, hr, h2⟩
    · rw [add_ne hs] at h1; rw [vadd_ne hs] at h2
      exact ⟨s, u, (hdel _ _ h1).2.1, h2⟩
  refine ⟨h.keeps, ?_, fun s y hy => ?_⟩
  · obtain ⟨who, hw⟩ := h.who
    refine ⟨fun b => if who b = r then d else who b, fun s u hu b => ?_⟩
    by_cases hs : s = d
    · subst hs
      simp only [add_self, Option.some.injEq, V.val.injEq] at hu
      subst hu
      simp only [vadd_self]
      exact ⟨(hw r t hr b).1, fun h1 => by rw [if_pos ((hw r t hr b).2 h1)]⟩
    · rw [add_ne hs] at hu; rw [vadd_ne hs]
      obtain ⟨h1, h2, h3⟩ := hdel _ _ hu
      refine ⟨(hw s u h2 b).1, fun h4 => ?_⟩
      have := (hw s u h2 b).2 h4
      simp only [this]
      rw [if_neg h1]
  · by_cases hs : s = d
    · subst hs
      simp only [add_self, Option.some.injEq] at hy
      subst hy
      simp only [vadd_self]
      rcases h.rep r _ hr with ⟨t', h1, h2⟩ | h2
      · cases h1
        exact .inl ⟨t, rfl, rep_less hown h2⟩
      · exact .inl ⟨t, rfl, rep_less hown h2.2⟩
    · rw [add_ne hs] at hy; rw [vadd_ne hs]
      obtain ⟨h1, h2, h3⟩ := hdel _ _ hy
      refine srep_gen (fun t _ ht => rep_less hown ht) (fun v t _ ht => rep_less hown ht) (fun r' p hh => ?_) (h.rep s y h2)
      have hne : r' ≠ r := fun e' => by
        subst e'
        rw [isPrefixOf_trans_nil r' p y hh] at h3
        cases h3
      have hne2 : ∀ u, e r' = some (.val u) → r' ≠ d := fun u hu e' => by rw [e', hd] at hu; cases hu
      refine ⟨fun u k ts hu hp => ?_, fun _ ks hu => ?_⟩
      · refine ⟨u, ts, ?_, hp, rfl, by rw [vadd_ne (hne2 _ hu)]⟩
        rw [add_ne (hne2 _ hu)]
        simp [Env.del, Env.kill, hne, hu, V.hits]
      · refine ⟨ks, ?_, vadd_ne (hne2 _ hu)⟩
        rw [add_ne (hne2 _ hu)]
        simp [Env.del, Env.kill, hne, hu, V.hits]

theorem setTree_some {e : Env} {r : Nat} {p : List Nat} {x : T} {t : T} (hr : e r = some (.val t)) {s : Nat} {y : V} (h : e.setTree r p x s = some y) :
    (s = r ∧ y = .val (t.setAt p x)) ∨ (s ≠ r ∧ e s = some y ∧ y.hits r p = false) := by
  simp only [Env.setTree] at h
  by_cases hs : s = r
  · rw [if_pos hs, hr] at h
    simp only [Option.some.injEq] at h
    exact .inl ⟨hs, h.symm⟩
  · rw [if_neg hs] at h
    simp only [Env.kill] at h
    cases hes : e s with
    | none => rw [hes] at h; cases h
    | some z =>
      rw [hes] at h
      simp only at h
      split at h
      · cases h
      · rename_i hh
        cases h
        exact .inr ⟨hs, rfl, by simpa using hh⟩

theorem setTree_self {e : Env} {r : Nat} {p : List Nat} {x : T} {t : T} (hr : e r = some (.val t)) : e.setTree r p x r = some (.val (t.setAt p x)) := by
  simp [Env.setTree, hr]

theorem setTree_ne {e : Env} {r s : Nat} {p : List Nat} {x : T} {y : V} (hs : s ≠ r) (h : e s = some y) (hh : y.hits r p = false) : e.setTree r p x s = some y := by
  simp [Env.setTree, Env.kill, hs, h, hh]

theorem srep_val {cx : Cx} {e : Env} {vl : Vl} {w : World} (h : R cx e vl w) {s : Nat} {t : T} (hs : e s = some (.val t)) : rep cx.fm (okR cx (Own e vl w)) w (vl s) t := by
  rcases h.rep s _ hs with ⟨t', h1, h2⟩ | h2
  · cases h1; exact h2
  · exact h2.2

/-- A part of a slot's tree goes to an empty slot. -/
theorem R.movePart {cx : Cx} {e : Env} {vl : Vl} {w : World} (h : R cx e vl w) {r d i : Nat} {p : List Nat} {t u : T} (hr : e r = some (.val t)) (hd : e d = none) (hp : t.at (i :: p) = some u) :
    R cx ((e.setTree r (i :: p) .gone).add d (.val u)) (vadd vl d (nodeV w (vl r) (i :: p))) w := by
  have hrd : r ≠ d := fun e' => by rw [e', hd] at hr; cases hr
  have hrep := srep_val h hr
  have hf := focus (i :: p) t (vl r) hrep hp
  have hrpl := replace (w' := w) (touch := fun _ => False) (fun _ _ _ => rfl) (fun _ _ _ _ h => h) (x := .gone) (i :: p) t (vl r) hrep hp (fun b hb => hb.elim) trivial
  have hcnt : ∀ b, cnt w (vl r) b (t.setAt (i :: p) .gone) + cnt w (nodeV w (vl r) (i :: p)) b u = cnt w (vl r) b t := fun b => by
    have := hrpl.2.1 b
    simp only [cnt] at this ⊢
    omega
  have hown : ∀ b, Own ((e.setTree r (i :: p) .gone).add d (.val u)) (vadd vl d (nodeV w (vl r) (i :: p))) w b → Own e vl w b := by
    rintro b ⟨s, y, h1, h2⟩
    by_cases hs : s = d
    · subst hs
      simp only [add_self, Option.some.injEq, V.val.injEq] at h1
      subst h1
      simp only [vadd_self] at h2
      exact ⟨r, t, hr, by have := hcnt b; omega⟩
    · rw [add_ne hs] at h1; rw [vadd_ne hs] at h2
      rcases setTree_some hr h1 with ⟨rfl, h3⟩ | ⟨h3, h4, h5⟩
      · cases h3
        exact ⟨s, t, hr, by have := hcnt b; omega⟩
      · exact ⟨s, y, h4, h2⟩
  refine ⟨h.keeps, ?_, fun s y hy => ?_⟩
  · obtain ⟨who, hw⟩ := h.who
    refine ⟨fun b => if 1 ≤ cnt w (nodeV w (vl r) (i :: p)) b u then d else who b, fun s y hy b => ?_⟩
    have h1 := hw r t hr b
    have h2 := hcnt b
    by_cases hs : s = d
    · subst hs
      simp only [add_self, Option.some.injEq, V.val.injEq] at hy
      subst hy
      simp only [vadd_self]
      exact ⟨by omega, fun h3 => by rw [if_pos h3]⟩
    · rw [add_ne hs] at hy; rw [vadd_ne hs]
      rcases setTree_some hr hy with ⟨rfl, h3⟩ | ⟨h3, h4, h5⟩
      · cases h3
        refine ⟨by omega, fun h4 => ?_⟩
        refine (if_neg (by omega)).trans ?_
        exact h1.2 (by omega)
      · refine ⟨(hw s y h4 b).1, fun h6 => ?_⟩
        have h7 := (hw s y h4 b).2 h6
        by_cases h8 : 1 ≤ cnt w (nodeV w (vl r) (i :: p)) b u
        · have := h1.2 (by omega)
          exact (h3 (h7 ▸ this)).elim
        · exact (if_neg h8).trans h7
  · by_cases hs : s = d
    · subst hs
      simp only [add_self, Option.some.injEq] at hy
      subst hy
      simp only [vadd_self]
      exact .inl ⟨u, rfl, rep_less hown hf.1⟩
    · rw [add_ne hs] at hy; rw [vadd_ne hs]
      rcases setTree_some hr hy with ⟨rfl, h3⟩ | ⟨h3, h4, h5⟩
      · subst h3
        exact .inl ⟨_, rfl, rep_less hown hrpl.1⟩
      · refine srep_gen (fun t _ ht => rep_less hown ht) (fun v t _ ht => rep_less hown ht) (fun r' q hh => ?_) (h.rep s y h4)
        have hset : q = [] → ∀ ks, e r' = some (.val (.set ks)) → ∃ ks', ((e.setTree r (i :: p) .gone).add d (.val u)) r' = some (.val (.set ks')) ∧ vadd vl d (nodeV w (vl r) (i :: p)) r' = vl r' := fun _ ks hu' => by
          have hne2 : r' ≠ d := fun e' => by rw [e', hd] at hu'; cases hu'
          have hrr : r' ≠ r := fun e' => by
            subst e'
            rw [hr] at hu'
            cases hu'
            simp [T.at, T.kids] at hp
          exact ⟨ks, by rw [add_ne hne2]; exact setTree_ne hrr hu' (by simp [V.hits]), vadd_ne hne2⟩
        refine ⟨fun u' k ts hu' hq => ?_, hset⟩
        have hne2 : r' ≠ d := fun e' => by rw [e', hd] at hu'; cases hu'
        by_cases hrr : r' = r
        · subst hrr
          rw [hr] at hu'
          cases hu'
          have hnp : (i :: p).isPrefixOf q = false := by
            cases hpq : (i :: p).isPrefixOf q with
            | false => rfl
            | true => rw [hits_pre y hh hpq] at h5; cases h5
          obtain ⟨ts', h6, h7⟩ := at_setAt (x := .gone) (i :: p) q t hnp hq
          exact ⟨_, ts', by rw [add_ne hne2]; exact setTree_self hr, h6, h7, by rw [vadd_ne hne2]⟩
        · exact ⟨u', ts, by rw [add_ne hne2]; exact setTree_ne hrr hu' (by simp [V.hits]), hq, rfl, by rw [vadd_ne hne2]⟩
where
  pre_trans : ∀ {a b c : List Nat}, a.isPrefixOf b = true → b.isPrefixOf c = true → a.isPrefixOf c = true := by
    intro a b c h1 h2
    rw [List.isPrefixOf_iff_prefix] at *
    exact h1.trans h2
  hits_pre {r : Nat} {p q : List Nat} : ∀ x : V, x.hits r q = true → p.isPrefixOf q = true → x.hits r p = true
    | .val _, h, _ => by simp [V.hits] at h
    | .sref r' q' _ _ _, h, hp => by
      simp only [V.hits, Bool.and_eq_true] at h ⊢
      exact ⟨h.1, pre_trans hp h.2⟩
    | .pref r' q' _, h, hp => by
      simp only [V.hits, Bool.and_eq_true] at h ⊢
      exact ⟨h.1, pre_trans hp h.2⟩
    | .vagg vs, h, hp => by simp only [V.hits] at h ⊢; exact hitsL_pre vs h hp
    | .vtup vs, h, hp => by simp only [V.hits] at h ⊢; exact hitsL_pre vs h hp
    | .same r', h, hp => by
      simp only [V.hits, Bool.and_eq_true, List.isEmpty_iff] at h ⊢
      obtain ⟨h, rfl⟩ := h
      exact ⟨h, by cases p <;> simp_all [List.isPrefixOf]⟩
    | .vfn _ r', h, hp => by
      simp only [V.hits, Bool.and_eq_true, List.isEmpty_iff] at h ⊢
      obtain ⟨h, rfl⟩ := h
      exact ⟨h, by cases p <;> simp_all [List.isPrefixOf]⟩
  hitsL_pre {r : Nat} {p q : List Nat} : ∀ vs : List V, V.hitsL r q vs = true → p.isPrefixOf q = true → V.hitsL r p vs = true
    | [], h, _ => by simp [V.hitsL] at h
    | x :: vs, h, hp => by
      simp only [V.hitsL, Bool.or_eq_true] at h ⊢
      rcases h with h | h
      · exact .inl (hits_pre x h hp)
      · exact .inr (hitsL_pre vs h hp)

end Go.Mch
/- Trees made anew out of trees that are at hand; new memory; stores; what is taken out of a frame. -/
namespace Go.Mch

/-- A slot's tree is made anew (in the heap too, where it alone owns what is touched), with new blocks that nobody knows. -/
theorem R.retag {cx : Cx} {e e' : Env} {vl : Vl} {w w' : World} (h : R cx e vl w) {q d : Nat} {t t' : T} {v' : Value} {touch : Nat → Prop} (hq : e q = some (.val t))
    (hsame : ∀ b, b < w.heap.size → ¬ touch b → w'.heap[b]? = w.heap[b]?) (htouch : ∀ b, touch b → 1 ≤ cnt w (vl q) b t) (hk : Keeps cx.M cx.w0 w')
    (hrep : Mch.rep cx.fm (okR cx (fun b => (∃ s u, s ≠ q ∧ e s = some (.val u) ∧ 1 ≤ cnt w (vl s) b u) ∨ 1 ≤ cnt w' v' b t')) w' v' t')
    (hc1 : ∀ b, cnt w' v' b t' ≤ 1) (hc2 : ∀ b, 1 ≤ cnt w' v' b t' → 1 ≤ cnt w (vl q) b t ∨ (cx.N b ∧ ¬ Own e vl w b))
    (he : e' d = some (.val t')) (hsub : ∀ s x, s ≠ d → e' s = some x → s ≠ q ∧ e s = some x ∧ ∀ r, x.hits r [] = true → r ≠ d ∧ r ≠ q ∧ e' r = e r) :
    R cx e' (vadd vl d v') w' := by
  obtain ⟨who, hw⟩ := h.who
  have himm : ∀ k b, k ≠ .own → okR cx (Own e vl w) k b → ¬ touch b := fun k b hk ho ht => (ho.2.2.2 hk).1 ⟨q, t, hq, htouch b ht⟩
  have hzero : ∀ s u, s ≠ q → e s = some (.val u) → ∀ b, touch b → cnt w (vl s) b u = 0 := fun s u hs hu b ht => by
    have h1 := (hw q t hq b).2 (htouch b ht)
    have h2 := (hw s u hu b).2
    rcases Nat.eq_zero_or_pos (cnt w (vl s) b u) with h3 | h3
    · exact h3
    · exact (hs ((h2 h3).symm.trans h1)).elim
  have hcnt : ∀ s u, s ≠ q → e s = some (.val u) → ∀ b, cnt w' (vl s) b u = cnt w (vl s) b u := fun s u hs hu =>
    (frame hsame himm u (vl s) (srep_val h hu) (hzero s u hs hu)).2
  have hown : ∀ b, Own e' (vadd vl d v') w' b → Own e vl w b ∨ cx.N b := by
    rintro b ⟨s, u, h1, h2⟩
    by_cases hs : s = d
    · subst hs
      rw [he] at h1
      cases h1
      rw [vadd_self] at h2
      rcases hc2 b h2 with h3 | h3
      · exact .inl ⟨q, t, hq, h3⟩
      · exact .inr h3.1
    · rw [vadd_ne hs] at h2
      obtain ⟨h3, h4, _⟩ := hsub s _ hs h1
      rw [hcnt s u h3 h4] at h2
      exact .inl ⟨s, u, h4, h2⟩
  have hown2 : ∀ b, Own e' (vadd vl d v') w' b → (∃ s u, s ≠ q ∧ e s = some (.val u) ∧ 1 ≤ cnt w (vl s) b u) ∨ 1 ≤ cnt w' v' b t' := by
    rintro b ⟨s, u, h1, h2⟩
    by_cases hs : s = d
    · subst hs
      rw [he] at h1
      cases h1
      rw [vadd_self] at h2
      exact .inr h2
    · rw [vadd_ne hs] at h2
      obtain ⟨h3, h4, _⟩ := hsub s _ hs h1
      rw [hcnt s u h3 h4] at h2
      exact .inl ⟨s, u, h3, h4, h2⟩
  have hmove : ∀ v u, Mch.rep cx.fm (okR cx (Own e vl w)) w v u → (∀ b, touch b → cnt w v b u = 0) → Mch.rep cx.fm (okR cx (Own e' (vadd vl d v') w')) w' v u := by
    intro v u hu h0
    refine rep_ok (fun k b hk _ ho => ⟨ho.1, ho.2.1, ho.2.2.1, fun hk => ⟨fun h1 => ?_, (ho.2.2.2 hk).2⟩⟩) u v (fun b _ _ ho => ⟨ho.1, ho.2.1, ho.2.2.1, fun hk => (hk rfl).elim⟩) (frame hsame himm u v hu h0).1
    rcases hown b h1 with h2 | h2
    · exact (ho.2.2.2 hk).1 h2
    · exact (ho.2.2.2 hk).2 h2
  refine ⟨hk, ⟨fun b => if 1 ≤ cnt w' v' b t' then d else who b, fun s u hu b => ?_⟩, fun s y hy => ?_⟩
  · by_cases hs : s = d
    · subst hs
      rw [he] at hu
      cases hu
      rw [vadd_self]
      exact ⟨hc1 b, fun h1 => if_pos h1⟩
    · rw [vadd_ne hs]
      obtain ⟨h3, h4, _⟩ := hsub s _ hs hu
      rw [hcnt s u h3 h4]
      refine ⟨(hw s u h4 b).1, fun h5 => ?_⟩
      have h6 := (hw s u h4 b).2 h5
      refine (if_neg fun h7 => ?_).trans h6
      rcases hc2 b h7 with h8 | h8
      · exact h3 (h6.symm.trans ((hw q t hq b).2 h8))
      · exact h8.2 ⟨s, u, h4, h5⟩
  · by_cases hs : s = d
    · subst hs
      rw [he] at hy
      cases hy
      rw [vadd_self]
      exact .inl ⟨t', rfl, rep_less hown2 hrep⟩
    · rw [vadd_ne hs]
      obtain ⟨h3, h4, h5⟩ := hsub s _ hs hy
      refine srep_gen (fun u hu hr => ?_) (fun v u hn hr => ?_) (fun r p hh => ?_) (h.rep s y h4)
      · subst hu
        exact hmove (vl s) u hr (hzero s u h3 h4)
      · exact hmove v u hr fun b _ => cnt_noOwn w v b u hn
      · obtain ⟨h6, h7, h8⟩ := h5 r (isPrefixOf_trans_nil r p y hh)
        refine ⟨fun u k ts hu hp => ⟨u, ts, h8.trans hu, hp, rfl, ?_⟩, fun _ ks hu => ⟨ks, h8.trans hu, vadd_ne h6⟩⟩
        rw [vadd_ne h6]
        exact frame_node hsame p u (vl r) (srep_val h hu) (hzero r u h7 hu) hp

/-- The world turns where nothing of the frame lies. -/
theorem R.world {cx : Cx} {e : Env} {vl : Vl} {w w' : World} (h : R cx e vl w) {touch : Nat → Prop} (hsame : ∀ b, b < w.heap.size → ¬ touch b → w'.heap[b]? = w.heap[b]?)
    (himm : ∀ k b, k ≠ .own → okR cx (Own e vl w) k b → ¬ touch b) (hzero : ∀ s u, e s = some (.val u) → ∀ b, touch b → cnt w (vl s) b u = 0) (hk : Keeps cx.M cx.w0 w') {N : Nat → Prop}
    (hN : ∀ b, N b → cx.N b ∨ w.heap.size ≤ b) : R { cx with N := N } e vl w' := by
  have hcnt : ∀ s u, e s = some (.val u) → ∀ b, cnt w' (vl s) b u = cnt w (vl s) b u := fun s u hu =>
    (frame hsame himm u (vl s) (srep_val h hu) (hzero s u hu)).2
  have hown : ∀ b, Own e vl w' b → Own e vl w b := fun b ⟨s, u, h1, h2⟩ => ⟨s, u, h1, by rw [hcnt s u h1] at h2; exact h2⟩
  have hmove : ∀ v u, Mch.rep cx.fm (okR cx (Own e vl w)) w v u → (∀ b, touch b → cnt w v b u = 0) → Mch.rep cx.fm (okR { cx with N := N } (Own e vl w')) w' v u := by
    intro v u hu h0
    have h1 := rep_ok (ok' := fun k b => okR cx (Own e vl w) k b ∧ (k ≠ .own → b < w.heap.size)) (fun k b hk hb ho => ⟨ho, fun _ => hb⟩) u v (fun b _ _ ho => ⟨ho, fun hk => (hk rfl).elim⟩) hu
    refine rep_ok (fun k b hk _ ho => ⟨ho.1.1, ho.1.2.1, ho.1.2.2.1, fun hk => ⟨fun h1 => (ho.1.2.2.2 hk).1 (hown b h1), fun h2 => ?_⟩⟩) u v (fun b _ _ ho => ⟨ho.1.1, ho.1.2.1, ho.1.2.2.1, fun hk => (hk rfl).elim⟩)
      (frame hsame (fun k b hk ho => himm k b hk ho.1) u v h1 h0).1
    rcases hN b h2 with h3 | h3
    · exact (ho.1.2.2.2 hk).2 h3
    · have := ho.2 hk
      omega
  refine ⟨hk, ?_, fun s y hy => ?_⟩
  · obtain ⟨who, hw⟩ := h.who
    exact ⟨who, fun s u hu b => by rw [hcnt s u hu]; exact hw s u hu b⟩
  · refine srep_gen (fun u hu hr => ?_) (fun v u hn hr => ?_) (fun r p hh => ?_) (h.rep s y hy)
    · subst hu
      exact hmove (vl s) u hr (hzero s u hy)
    · exact hmove v u hr fun b _ => cnt_noOwn w v b u hn
    · exact ⟨fun u k ts hu hp => ⟨u, ts, hu, hp, rfl, frame_node hsame p u (vl r) (srep_val h hu) (hzero r u hu) hp⟩, fun _ ks hu => ⟨ks, hu, rfl⟩⟩

/-- What is reserved may be let go. -/
theorem R.unN {cx : Cx} {e : Env} {vl : Vl} {w : World} (h : R cx e vl w) {N : Nat → Prop} (hN : ∀ b, N b → cx.N b) : R { cx with N := N } e vl w :=
  h.world (touch := fun _ => False) (fun _ _ _ => rfl) (fun _ _ _ _ h => h) (fun _ _ _ _ h => h.elim) h.keeps (fun b hb => .inl (hN b hb))

/-- A part of a slot's tree is made anew, in the heap too, out of itself and of a tree that lies apart in slot q. -/
theorem R.replaceAt {cx : Cx} {e e' : Env} {vl : Vl} {w w' : World} (h : R cx e vl w) {r q : Nat} {p : List Nat} {pks : List (List Nat)} {t u tq x : T} {touch : Nat → Prop} (hr : e r = some (.val t)) (hp : t.at p = some u)
    (hq : e q = some (.val tq)) (hrq : r ≠ q)
    (hsame : ∀ b, b < w.heap.size → ¬ touch b → w'.heap[b]? = w.heap[b]?) (htouch : ∀ b, touch b → 1 ≤ cnt w (nodeV w (vl r) p) b u) (hk : Keeps cx.M cx.w0 w')
    (hx : Mch.rep cx.fm (okR cx (Own e vl w)) w' (nodeV w (vl r) p) x) (hc : ∀ b, cnt w' (nodeV w (vl r) p) b x ≤ cnt w (nodeV w (vl r) p) b u + cnt w (vl q) b tq)
    (hrest : ∀ rest, (∀ pk, pk ∈ pks → pk.isPrefixOf (p ++ rest) = false) → ∀ s ts, u.at rest = some (.mem .own s ts) → ∃ ts', x.at rest = some (.mem .own s ts') ∧ ts'.length = ts.length ∧ nodeV w' (nodeV w (vl r) p) rest = nodeV w (nodeV w (vl r) p) rest)
    (hset : ∀ ks, u = .set ks → [] ∈ pks) (he : e' r = some (.val (t.setAt p x))) (hsub : ∀ s y, s ≠ r → e' s = some y → s ≠ q ∧ e s = some y ∧ (∀ pk, pk ∈ pks → y.hits r pk = false) ∧ ∀ r', y.hits r' [] = true → r' ≠ q ∧ (r' ≠ r → e' r' = e r')) :
    R cx e' vl w' := by
  obtain ⟨who, hw⟩ := h.who
  have hrep := srep_val h hr
  have hf := focus p t (vl r) hrep hp
  have himm : ∀ k b, k ≠ .own → okR cx (Own e vl w) k b → ¬ touch b := fun k b hk ho ht => (ho.2.2.2 hk).1 ⟨r, t, hr, Nat.le_trans (htouch b ht) (hf.2 b)⟩
  have hzero : ∀ s y, s ≠ r → e s = some (.val y) → ∀ b, touch b → cnt w (vl s) b y = 0 := fun s y hs hy b ht => by
    have h1 := (hw r t hr b).2 (Nat.le_trans (htouch b ht) (hf.2 b))
    have h2 := (hw s y hy b).2
    rcases Nat.eq_zero_or_pos (cnt w (vl s) b y) with h3 | h3
    · exact h3
    · exact (hs ((h2 h3).symm.trans h1)).elim
  have hcnt : ∀ s y, s ≠ r → e s = some (.val y) → ∀ b, cnt w' (vl s) b y = cnt w (vl s) b y := fun s y hs hy =>
    (frame hsame himm y (vl s) (srep_val h hy) (hzero s y hs hy)).2
  have heq : ∀ b, touch b → cnt w (vl r) b t = cnt w (nodeV w (vl r) p) b u := fun b ht => by
    have h1 := htouch b ht
    have h2 := hf.2 b
    have h3 := (hw r t hr b).1
    omega
  have hrpl := replace hsame himm p t (vl r) hrep hp heq hx
  have hcr : ∀ b, cnt w' (vl r) b (t.setAt p x) ≤ cnt w (vl r) b t + cnt w (vl q) b tq := fun b => by
    have h1 := hrpl.2.1 b
    have h2 := hc b
    omega
  have hdis : ∀ b, cnt w (vl r) b t = 0 ∨ cnt w (vl q) b tq = 0 := fun b => by
    rcases Nat.eq_zero_or_pos (cnt w (vl r) b t) with h1 | h1
    · exact .inl h1
    · rcases Nat.eq_zero_or_pos (cnt w (vl q) b tq) with h2 | h2
      · exact .inr h2
      · exact (hrq (((hw r t hr b).2 h1).symm.trans ((hw q tq hq b).2 h2))).elim
  have hown : ∀ b, Own e' vl w' b → Own e vl w b := by
    rintro b ⟨s, y, h1, h2⟩
    by_cases hs : s = r
    · subst hs
      rw [he] at h1
      cases h1
      have h3 := hcr b
      by_cases h4 : 1 ≤ cnt w (vl s) b t
      · exact ⟨s, t, hr, h4⟩
      · exact ⟨q, tq, hq, by omega⟩
    · obtain ⟨h3, h4, _⟩ := hsub s _ hs h1
      rw [hcnt s y hs h4] at h2
      exact ⟨s, y, h4, h2⟩
  have hmove : ∀ v y, Mch.rep cx.fm (okR cx (Own e vl w)) w v y → (∀ b, touch b → cnt w v b y = 0) → Mch.rep cx.fm (okR cx (Own e' vl w')) w' v y :=
    fun v y hy h0 => rep_less hown (frame hsame himm y v hy h0).1
  refine ⟨hk, ⟨fun b => if 1 ≤ cnt w' (vl r) b (t.setAt p x) then r else who b, fun s y hy b => ?_⟩, fun s y hy => ?_⟩
  · by_cases hs : s = r
    · subst hs
      rw [he] at hy
      cases hy
      refine ⟨?_, fun h1 => if_pos h1⟩
      have h1 := hcr b
      have h2 := (hw s t hr b).1
      have h3 := (hw q tq hq b).1
      rcases hdis b with h4 | h4 <;> omega
    · obtain ⟨h3, h4, _⟩ := hsub s _ hs hy
      rw [hcnt s y hs h4]
      refine ⟨(hw s y h4 b).1, fun h5 => ?_⟩
      have h6 := (hw s y h4 b).2 h5
      refine (if_neg fun h7 => ?_).trans h6
      have h8 := hcr b
      by_cases h9 : 1 ≤ cnt w (vl r) b t
      · exact hs (h6.symm.trans ((hw r t hr b).2 h9))
      · exact h3 (h6.symm.trans ((hw q tq hq b).2 (by omega)))
  · by_cases hs : s = r
    · subst hs
      rw [he] at hy
      cases hy
      exact .inl ⟨_, rfl, rep_less hown hrpl.1⟩
    · obtain ⟨h3, h4, h5, h5'⟩ := hsub s _ hs hy
      refine srep_gen (fun u' hu hr' => ?_) (fun v u' hn hr' => ?_) (fun r' q' hh => ?_) (h.rep s y h4)
      · subst hu
        exact hmove (vl s) u' hr' (hzero s u' hs h4)
      · exact hmove v u' hr' fun b _ => cnt_noOwn w v b u' hn
      · obtain ⟨h6, h7⟩ := h5' r' (isPrefixOf_trans_nil r' q' y hh)
        refine ⟨fun u' k ts hu' hq' => ?_, fun hq0 ks hu' => ?_⟩
        case refine_2 =>
          by_cases hrr : r' = r
          · exfalso
            subst hrr
            rw [hr] at hu'
            cases hu'
            have hp0 : p = [] := by
              cases p with
              | nil => rfl
              | cons i p => simp [T.at, T.kids] at hp
            subst hp0
            simp only [T.at, Option.some.injEq] at hp
            have := h5 [] (hset ks hp.symm)
            subst hq0
            rw [this] at hh; cases hh
          · exact ⟨ks, (h7 hrr).trans hu', rfl⟩
        by_cases hrr : r' = r
        · subst hrr
          rw [hr] at hu'
          cases hu'
          have hnp : ∀ pk, pk ∈ pks → pk.isPrefixOf q' = false := fun pk hpk => by
            cases hpq : pk.isPrefixOf q' with
            | false => rfl
            | true => have h6 := h5 pk hpk; rw [R.movePart.hits_pre y hh hpq] at h6; cases h6
          by_cases hpp : p.isPrefixOf q' = true
          · rw [List.isPrefixOf_iff_prefix] at hpp
            obtain ⟨rest, rfl⟩ := hpp
            rw [at_append p rest t hp] at hq'
            obtain ⟨ts', h8, h9, h10⟩ := hrest rest hnp _ _ hq'
            refine ⟨_, ts', he, ?_, h9, ?_⟩
            · rw [at_append p rest _ (at_setAt_self p t hp)]; exact h8
            · rw [nodeV_append, nodeV_append, hrpl.2.2]; exact h10
          · obtain ⟨ts', h8, h9⟩ := at_setAt (x := x) p q' t (Bool.eq_false_iff.2 hpp) hq'
            exact ⟨_, ts', he, h8, h9, node_still hsame p q' t (vl r') hrep hp heq (Bool.eq_false_iff.2 hpp) hq'⟩
        · exact ⟨u', ts, (h7 hrr).trans hu', hq', rfl, frame_node hsame q' u' (vl r') (srep_val h hu') (hzero r' u' hrr hu') hq'⟩
where
  at_append : ∀ (p rest : List Nat) (t : T) {u : T}, t.at p = some u → t.at (p ++ rest) = u.at rest
    | [], rest, t, u, h => by
      simp only [T.at, Option.some.injEq] at h
      subst h; rfl
    | i :: p, rest, t, u, h => by
      simp only [T.at, List.cons_append] at h ⊢
      cases hi : t.kids[i]? with
      | none => rw [hi] at h; cases h
      | some c =>
        rw [hi] at h
        simp only [Option.bind_some] at h ⊢
        exact at_append p rest c h
  at_setAt_self : ∀ (p : List Nat) (t : T) {u x : T}, t.at p = some u → (t.setAt p x).at p = some x
    | [], t, u, x, h => rfl
    | i :: p, t, u, x, h => by
      simp only [T.at] at h
      cases hi : t.kids[i]? with
      | none => rw [hi] at h; cases h
      | some c =>
        rw [hi] at h
        simp only [Option.bind_some] at h
        have hgd : t.kids.getD i .gone = c := by rw [List.getD_eq_getElem?_getD, hi]; rfl
        have hlt : i < t.kids.length := by
          rcases Nat.lt_or_ge i t.kids.length with h' | h'
          · exact h'
          · rw [List.getElem?_eq_none h'] at hi; cases hi
        have hk : (t.setAt (i :: p) x).kids = t.kids.set i ((t.kids.getD i .gone).setAt p x) := by
          cases t with
          | mem k s ts => cases k <;> simp [T.setAt, T.withKids, T.kids] at hi ⊢
          | agg ts => rfl
          | tup ts => rfl
          | _ => simp [T.kids] at hi
        simp only [T.at, hk, hgd, List.getElem?_set_self hlt, Option.bind_some]
        exact at_setAt_self p c h
  nodeV_append {w : World} : ∀ (p rest : List Nat) (v : Value), nodeV w v (p ++ rest) = nodeV w (nodeV w v p) rest
    | [], _, _ => rfl
    | i :: p, rest, v => nodeV_append p rest (kid w v i)

end Go.Mch
/- What is read out of a frame and what is taken out of it, in the heap. -/
namespace Go.Mch

mutual
/-- A value that names places of slots below q: what it is in the heap (whatever the frame holds there). -/
def arw (fm : Nat → Nat) (ok : K → Nat → Prop) (q : Nat) (vl : Vl) (w : World) (v : Value) : V → Prop
  | .val t => t.noOwn = true ∧ rep fm ok w v t
  | .sref r p sz off len => r < q ∧ wnd (nodeV w (vl r) p) v sz off len
  | .pref r p off => r < q ∧ v = .pointer (some ⟨blk (nodeV w (vl r) p), ofs (nodeV w (vl r) p) + off, none⟩)
  | .vagg vs => (∃ cs, v = .agg cs ∧ cs.size = vs.length) ∧ arwL fm ok q vl w (kid w v) 0 vs
  | .vtup vs => (∃ cs, v = .tuple cs ∧ cs.size = vs.length) ∧ arwL fm ok q vl w (kid w v) 0 vs
  | .same r => r < q ∧ v = vl r
  | .vfn f r => r < q ∧ v = .func (.func (fm f)) #[] #[vl r]
def arwL (fm : Nat → Nat) (ok : K → Nat → Prop) (q : Nat) (vl : Vl) (w : World) (g : Nat → Value) (i : Nat) : List V → Prop
  | [] => True
  | v :: vs => arw fm ok q vl w (g i) v ∧ arwL fm ok q vl w g (i + 1) vs
end

mutual
theorem arw_of {fm : Nat → Nat} {ok : K → Nat → Prop} {e : Env} {vl : Vl} {w : World} {q : Nat} (hd : ∀ j, q ≤ j → e j = none) : ∀ (x : V) (v : Value), arep fm ok e vl w v x → arw fm ok q vl w v x
  | .val t, v, h => h
  | .sref r p sz off len, v, h => by
    simp only [arep, arw] at h ⊢
    obtain ⟨_, t, ts, a, _, _, d⟩ := h
    refine ⟨?_, d⟩
    rcases Nat.lt_or_ge r q with h1 | h1
    · exact h1
    · rw [hd r h1] at a; cases a
  | .pref r p off, v, h => by
    simp only [arep, arw] at h ⊢
    obtain ⟨t, s, ts, a, _, _, d⟩ := h
    refine ⟨?_, d⟩
    rcases Nat.lt_or_ge r q with h1 | h1
    · exact h1
    · rw [hd r h1] at a; cases a
  | .vagg vs, v, h => by
    simp only [arep, arw] at h ⊢
    exact ⟨h.1, arwL_of hd vs _ 0 h.2⟩
  | .vtup vs, v, h => by
    simp only [arep, arw] at h ⊢
    exact ⟨h.1, arwL_of hd vs _ 0 h.2⟩
  | .same r, v, h => by
    simp only [arep, arw] at h ⊢
    obtain ⟨d, ks, a⟩ := h
    refine ⟨?_, d⟩
    rcases Nat.lt_or_ge r q with h1 | h1
    · exact h1
    · rw [hd r h1] at a; cases a
  | .vfn f r, v, h => by
    simp only [arep, arw] at h ⊢
    obtain ⟨d, ts, a⟩ := h
    refine ⟨?_, d⟩
    rcases Nat.lt_or_ge r q with h1 | h1
    · exact h1
    · rw [hd r h1] at a; cases a
theorem arwL_of {fm : Nat → Nat} {ok : K → Nat → Prop} {e : Env} {vl : Vl} {w : World} {q : Nat} (hd : ∀ j, q ≤ j → e j = none) : ∀ (vs : List V) (g : Nat → Value) (i : Nat), arepL fm ok e vl w g i vs → arwL fm ok q vl w g i vs
  | [], _, _, _ => trivial
  | x :: vs, g, i, h => by
    simp only [arepL, arwL] at h ⊢
    exact ⟨arw_of hd x _ h.1, arwL_of hd vs g (i + 1) h.2⟩
end

mutual
theorem arw_gen {fm : Nat → Nat} {ok ok' : K → Nat → Prop} {vl vl' : Vl} {w : World} {q : Nat} (hv : ∀ s, s < q → vl' s = vl s) (h1 : ∀ v t, t.noOwn = true → rep fm ok w v t → rep fm ok' w v t) :
    ∀ (x : V) (v : Value), arw fm ok q vl w v x → arw fm ok' q vl' w v x
  | .val t, v, h => ⟨h.1, h1 v t h.1 h.2⟩
  | .sref r p sz off len, v, h => by simp only [arw] at h ⊢; rw [hv r h.1]; exact h
  | .pref r p off, v, h => by simp only [arw] at h ⊢; rw [hv r h.1]; exact h
  | .vagg vs, v, h => by simp only [arw] at h ⊢; exact ⟨h.1, arwL_gen hv h1 vs _ 0 h.2⟩
  | .vtup vs, v, h => by simp only [arw] at h ⊢; exact ⟨h.1, arwL_gen hv h1 vs _ 0 h.2⟩
  | .same r, v, h => by simp only [arw] at h ⊢; rw [hv r h.1]; exact h
  | .vfn f r, v, h => by simp only [arw] at h ⊢; rw [hv r h.1]; exact h
theorem arwL_gen {fm : Nat → Nat} {ok ok' : K → Nat → Prop} {vl vl' : Vl} {w : World} {q : Nat} (hv : ∀ s, s < q → vl' s = vl s) (h1 : ∀ v t, t.noOwn = true → rep fm ok w v t → rep fm ok' w v t) :
    ∀ (vs : List V) (g : Nat → Value) (i : Nat), arwL fm ok q vl w g i vs → arwL fm ok' q vl' w g i vs
  | [], _, _, _ => trivial
  | x :: vs, g, i, h => by simp only [arwL] at h ⊢; exact ⟨arw_gen hv h1 x _ h.1, arwL_gen hv h1 vs g (i + 1) h.2⟩
end

/-! ### Peeking -/

mutual
theorem peek_arep {fm : Nat → Nat} {ok : K → Nat → Prop} {e : Env} {vl : Vl} {w : World} {r : Nat} {t0 : T} (hr : e r = some (.val t0)) :
    ∀ (t : T) (p : List Nat), t0.at p = some t → rep fm ok w (nodeV w (vl r) p) t → arep fm ok e vl w (nodeV w (vl r) p) (t.peek r p)
  | .sc x, p, _, h => ⟨rfl, h⟩
  | .gone, p, _, h => ⟨rfl, h⟩
  | .nul, p, _, h => ⟨rfl, h⟩
  | .fn f caps, p, _, h => by
    refine ⟨?_, h⟩
    simp only [rep] at h
    simpa [T.noOwn] using h.2.1
  | .agg ts, p, hp, h => by
    simp only [T.peek, arep]
    simp only [rep] at h
    obtain ⟨⟨cs, h1, h2⟩, h3⟩ := h
    refine ⟨⟨cs, h1, by rw [h2, peekL_length]⟩, ?_⟩
    exact peekL_arep hr ts p (.agg ts) hp 0 (fun j t hj => by simpa [T.kids] using hj) h3
  | .tup ts, p, hp, h => by
    simp only [T.peek, arep]
    simp only [rep] at h
    obtain ⟨⟨cs, h1, h2⟩, h3⟩ := h
    refine ⟨⟨cs, h1, by rw [h2, peekL_length]⟩, ?_⟩
    exact peekL_arep hr ts p (.tup ts) hp 0 (fun j t hj => by simpa [T.kids] using hj) h3
  | .mem k s ts, p, hp, h => by
    cases k
    · rw [rep_mem] at h
      obtain ⟨h1, _, _, _, _⟩ := h
      cases s with
      | none =>
        simp only [T.peek, arep]
        exact ⟨t0, none, ts, hr, hp, Nat.zero_le _, by rw [Nat.add_zero]; exact h1.1⟩
      | some sz =>
        simp only [T.peek, arep]
        obtain ⟨⟨len, h2, h3, h4, h5⟩, _⟩ := h1
        have h6 : ts.length / sz = len := by rw [h3]; exact Nat.mul_div_cancel _ h4
        refine ⟨h4, t0, ts, hr, hp, ?_, ?_⟩
        · rw [h6, Nat.zero_add, h3]; exact Nat.le_refl _
        · rw [h6]
          exact ⟨_, by rw [Nat.sub_zero]; exact h2, by omega, by simp, fun _ => by simp⟩
    · refine ⟨?_, h⟩
      rw [rep_mem] at h
      simpa [T.noOwn] using h.2.2.2.1 (by simp)
    · refine ⟨?_, h⟩
      rw [rep_mem] at h
      simpa [T.noOwn] using h.2.2.2.1 (by simp)
  | .set ks, p, hp, h => by
    cases p with
    | nil =>
      simp only [T.at, Option.some.injEq] at hp
      simp only [T.peek, List.isEmpty_nil, if_true, arep]
      exact ⟨rfl, ks, by rw [hr, hp]⟩
    | cons i p =>
      simp only [T.peek, List.isEmpty_cons, Bool.false_eq_true, if_false]
      exact ⟨rfl, trivial⟩
theorem peekL_arep {fm : Nat → Nat} {ok : K → Nat → Prop} {e : Env} {vl : Vl} {w : World} {r : Nat} {t0 : T} (hr : e r = some (.val t0)) :
    ∀ (ts : List T) (p : List Nat) (t : T), t0.at p = some t → ∀ i, (∀ j u, ts[j]? = some u → t.kids[i + j]? = some u) → repL fm ok w (kid w (nodeV w (vl r) p)) i ts →
      arepL fm ok e vl w (kid w (nodeV w (vl r) p)) i (T.peekL r p i ts)
  | [], _, _, _, _, _, _ => trivial
  | u :: ts, p, t, hp, i, hk, h => by
    simp only [T.peekL, arepL, repL] at h ⊢
    have hi := hk 0 u (by simp)
    rw [Nat.add_zero] at hi
    have hat : t0.at (p ++ [i]) = some u := by
      rw [R.replaceAt.at_append p [i] t0 hp]
      simp only [T.at, hi, Option.bind_some]
    have hn : nodeV w (vl r) (p ++ [i]) = kid w (nodeV w (vl r) p) i := by rw [R.replaceAt.nodeV_append]; rfl
    refine ⟨?_, peekL_arep hr ts p t hp (i + 1) (fun j u' hj => ?_) h.2⟩
    · rw [← hn]
      exact peek_arep hr u (p ++ [i]) hat (by rw [hn]; exact h.1)
    · rw [show i + 1 + j = i + (j + 1) from by omega]
      exact hk (j + 1) u' (by simpa using hj)
theorem peekL_length {r : Nat} {p : List Nat} : ∀ (ts : List T) {i : Nat}, (T.peekL r p i ts).length = ts.length
  | [], _ => rfl
  | _ :: ts, i => by simp [T.peekL, peekL_length ts]
end

theorem R.peek {cx : Cx} {e : Env} {vl : Vl} {w : World} (h : R cx e vl w) {s : Nat} {x : V} (hs : e.peek s = some x) : arep cx.fm (okR cx (Own e vl w)) e vl w (vl s) x := by
  unfold Env.peek at hs
  split at hs
  · rename_i t ht
    cases hs
    exact peek_arep (vl := vl) ht t [] rfl (srep_val h ht)
  · rename_i hne
    rcases h.rep s x hs with ⟨t, rfl, h1⟩ | h1
    · exact (hne t hs).elim
    · exact h1

/-! ### Floats: trees in slots that the function has not -/

/-- From q on the slots are empty, and nobody names them. -/
def Clr (e : Env) (q : Nat) : Prop := ∀ j, q ≤ j → e j = none ∧ ∀ s x, e s = some x → x.hits j [] = false

theorem R.clr {cx : Cx} {e : Env} {vl : Vl} {w : World} (h : R cx e vl w) {q : Nat} (hd : ∀ j, q ≤ j → e j = none) : Clr e q := fun j hj =>
  ⟨hd j hj, fun s x hx => by
    cases hh : x.hits j [] with
    | false => rfl
    | true =>
      obtain ⟨t, ht⟩ := h.root hx hh
      rw [hd j hj] at ht; cases ht⟩

theorem Clr.mono {e : Env} {q q' : Nat} (h : Clr e q) (hq : q ≤ q') : Clr e q' := fun j hj => h j (Nat.le_trans hq hj)

theorem Clr.add {e : Env} {q : Nat} (h : Clr e q) (t : T) : Clr (e.add q (.val t)) (q + 1) := fun j hj => by
  refine ⟨by rw [add_ne (by omega)]; exact (h j (by omega)).1, fun s x hx => ?_⟩
  by_cases hs : s = q
  · subst hs; simp only [add_self, Option.some.injEq] at hx; subst hx; rfl
  · rw [add_ne hs] at hx; exact (h j (by omega)).2 s x hx

/-- A frame's aliases that are left are the elder frame's. -/
theorem clr_clear {e : Env} {r : Nat} {p : List Nat} {q : Nat} (h : Clr e q) (hr : r < q) : Clr (e.clear r p) q := fun j hj => by
  have hj' := h j hj
  cases p with
  | nil =>
    refine ⟨by simp only [Env.clear, Env.del, Env.kill]; split; rfl; rw [hj'.1], fun s x hx => ?_⟩
    simp only [Env.clear, Env.del, Env.kill] at hx
    split at hx
    · cases hx
    · cases hes : e s with
      | none => rw [hes] at hx; cases hx
      | some y =>
        rw [hes] at hx
        simp only at hx
        split at hx
        · cases hx
        · cases hx; exact hj'.2 s _ hes
  | cons i p =>
    refine ⟨by simp only [Env.clear, Env.setTree, Env.kill]; rw [if_neg (by omega), hj'.1], fun s x hx => ?_⟩
    simp only [Env.clear, Env.setTree, Env.kill] at hx
    split at hx
    · split at hx
      · cases hx; rfl
      · cases hx
    · cases hes : e s with
      | none => rw [hes] at hx; cases hx
      | some y =>
        rw [hes] at hx
        simp only at hx
        split at hx
        · cases hx
        · cases hx; exact hj'.2 s _ hes

theorem clear_add {e : Env} {r : Nat} {p : List Nat} {q : Nat} {t : T} (hr : r ≠ q) : (e.add q (.val t)).clear r p = (e.clear r p).add q (.val t) := by
  cases p with
  | nil =>
    funext s
    simp only [Env.clear, Env.del, Env.kill, Env.add]
    by_cases h1 : s = q
    · subst h1; simp [Ne.symm hr, V.hits]
    · simp [h1]
  | cons i p =>
    funext s
    simp only [Env.clear, Env.setTree, Env.kill, Env.add]
    by_cases h1 : s = q
    · subst h1; simp [Ne.symm hr, V.hits]
    · simp [h1, hr]

theorem tree_add {e : Env} {r : Nat} {p : List Nat} {q : Nat} {x : V} (hr : r ≠ q) : (e.add q x).tree r p = e.tree r p := by
  simp [Env.tree, Env.add, hr]

mutual
theorem take_add {fm : Nat → Nat} {ok : K → Nat → Prop} {q0 : Nat} {vl : Vl} {w : World} {q : Nat} {t : T} (hq : q0 ≤ q) : ∀ (x : V) (v : Value) (e : Env), arw fm ok q0 vl w v x →
    (e.add q (.val t)).take x = (e.take x).map fun y => (y.1, y.2.add q (.val t))
  | .val u, v, e, _ => by simp only [Env.take]; split <;> rfl
  | .sref r p sz off len, v, e, h => by
    simp only [arw] at h
    have hr : r ≠ q := by omega
    simp only [Env.take, tree_add hr, clear_add hr]
    split
    · split <;> rfl
    · rfl
  | .pref r p off, v, e, h => by
    simp only [arw] at h
    have hr : r ≠ q := by omega
    simp only [Env.take, tree_add hr, clear_add hr]
    split
    · split <;> rfl
    · rfl
  | .vagg vs, v, e, h => by
    simp only [arw] at h
    simp only [Env.take, takeL_add hq vs _ 0 e h.2]
    cases e.takeL vs <;> rfl
  | .vtup vs, v, e, h => by
    simp only [arw] at h
    simp only [Env.take, takeL_add hq vs _ 0 e h.2]
    cases e.takeL vs <;> rfl
  | .same r, v, e, h => by
    simp only [arw] at h
    have hr : r ≠ q := by omega
    simp only [Env.take, tree_add hr]
    split
    · have := clear_add (e := e) (p := []) (t := t) hr
      simp only [Env.clear] at this
      simp only [this, Option.map_some]
    · rfl
  | .vfn _ _, _, _, _ => rfl
theorem takeL_add {fm : Nat → Nat} {ok : K → Nat → Prop} {q0 : Nat} {vl : Vl} {w : World} {q : Nat} {t : T} (hq : q0 ≤ q) : ∀ (vs : List V) (g : Nat → Value) (i : Nat) (e : Env), arwL fm ok q0 vl w g i vs →
    (e.add q (.val t)).takeL vs = (e.takeL vs).map fun y => (y.1, y.2.add q (.val t))
  | [], _, _, _, _ => rfl
  | x :: vs, g, i, e, h => by
    simp only [arwL] at h
    simp only [Env.takeL, take_add hq x _ e h.1]
    cases e.take x with
    | none => rfl
    | some y =>
      simp only [Option.map_some, Option.bind_some, takeL_add hq vs g (i + 1) y.2 h.2]
      cases y.2.takeL vs <;> rfl
end

/-- Two trees that lie apart, put into one row. -/
theorem R.pair {cx : Cx} {e e' : Env} {vl : Vl} {w : World} (h : R cx e vl w) {q1 q2 d : Nat} {t : T} {ts : List T} {vs : Array Value} (h1 : e q1 = some (.val t)) (h2 : e q2 = some (.val (.tup ts))) (hne : q1 ≠ q2)
    (hv : vl q2 = .tuple vs) (hsub : ∀ s x, s ≠ d → e' s = some x → s ≠ q1 ∧ s ≠ q2 ∧ e s = some x ∧ ∀ r, x.hits r [] = true → r ≠ d ∧ e' r = e r)
    (he : e' d = some (.val (.tup (t :: ts)))) : R cx e' (vadd vl d (.tuple (#[vl q1] ++ vs))) w := by
  obtain ⟨who, hw⟩ := h.who
  have hr1 := srep_val h h1
  have hr2 := srep_val h h2
  rw [hv] at hr2
  simp only [Mch.rep] at hr2
  obtain ⟨⟨vs', hv', hsz⟩, hr2⟩ := hr2
  cases hv'
  have hg : ∀ j, kid w (.tuple (#[vl q1] ++ vs)) (j + 1) = kid w (.tuple vs) j := fun j => by
    simp only [kid, Array.getD_eq_getD_getElem?]
    rw [Array.getElem?_append_right (by simp)]
    simp
  have hg0 : kid w (.tuple (#[vl q1] ++ vs)) 0 = vl q1 := by
    simp only [kid, Array.getD_eq_getD_getElem?]
    rw [Array.getElem?_append_left (by simp)]
    simp
  have hcnt : ∀ b, cnt w (.tuple (#[vl q1] ++ vs)) b (.tup (t :: ts)) = cnt w (vl q1) b t + cnt w (vl q2) b (.tup ts) := fun b => by
    rw [hv]
    simp only [cnt, cntL, hg0]
    rw [cntL_shift ts 0 1]
    simp only [hg]
  have hdis : ∀ b, cnt w (vl q1) b t = 0 ∨ cnt w (vl q2) b (.tup ts) = 0 := fun b => by
    rcases Nat.eq_zero_or_pos (cnt w (vl q1) b t) with h3 | h3
    · exact .inl h3
    · rcases Nat.eq_zero_or_pos (cnt w (vl q2) b (.tup ts)) with h4 | h4
      · exact .inr h4
      · exact (hne (((hw q1 t h1 b).2 h3).symm.trans ((hw q2 _ h2 b).2 h4))).elim
  have hown : ∀ b, Own e' (vadd vl d (.tuple (#[vl q1] ++ vs))) w b → Own e vl w b := by
    rintro b ⟨s, u, h3, h4⟩
    by_cases hs : s = d
    · subst hs
      rw [he] at h3
      cases h3
      rw [vadd_self, hcnt] at h4
      by_cases h5 : 1 ≤ cnt w (vl q1) b t
      · exact ⟨q1, t, h1, h5⟩
      · exact ⟨q2, _, h2, by omega⟩
    · rw [vadd_ne hs] at h4
      exact ⟨s, u, (hsub s _ hs h3).2.2.1, h4⟩
  refine ⟨h.keeps, ⟨fun b => if who b = q1 ∨ who b = q2 then d else who b, fun s u hu b => ?_⟩, fun s y hy => ?_⟩
  · by_cases hs : s = d
    · subst hs
      rw [he] at hu
      cases hu
      rw [vadd_self, hcnt]
      have h3 := hw q1 t h1 b
      have h4 := hw q2 _ h2 b
      refine ⟨by rcases hdis b with h5 | h5 <;> omega, fun h5 => if_pos ?_⟩
      by_cases h6 : 1 ≤ cnt w (vl q1) b t
      · exact .inl (h3.2 h6)
      · exact .inr (h4.2 (by omega))
    · rw [vadd_ne hs]
      obtain ⟨h3, h4, h5, _⟩ := hsub s _ hs hu
      refine ⟨(hw s u h5 b).1, fun h6 => ?_⟩
      have h7 := (hw s u h5 b).2 h6
      refine (if_neg ?_).trans h7
      rw [h7]
      rintro (h8 | h8)
      · exact h3 h8
      · exact h4 h8
  · by_cases hs : s = d
    · subst hs
      rw [he] at hy
      cases hy
      rw [vadd_self]
      refine .inl ⟨_, rfl, rep_less hown ?_⟩
      simp only [Mch.rep, repL, hg0]
      refine ⟨⟨_, rfl, by simp [hsz]; omega⟩, hr1, ?_⟩
      have := (repL_shift (fm := cx.fm) (ok := okR cx (Own e vl w)) (w := w) (g := kid w (.tuple (#[vl q1] ++ vs))) ts 0 1).2
      simp only [hg] at this
      exact this hr2
    · rw [vadd_ne hs]
      obtain ⟨h3, h4, h5, h6⟩ := hsub s _ hs hy
      refine srep_gen (fun t _ ht => rep_less hown ht) (fun v t _ ht => rep_less hown ht) (fun r p hh => ?_) (h.rep s y h5)
      obtain ⟨h7, h8⟩ := h6 r (isPrefixOf_trans_nil r p y hh)
      exact ⟨fun u k ts' hu hp => ⟨u, ts', h8.trans hu, hp, rfl, by rw [vadd_ne h7]⟩, fun _ ks hu => ⟨ks, h8.trans hu, vadd_ne h7⟩⟩

end Go.Mch
/- Taking values out of a frame, and landing trees in slots. -/
namespace Go.Mch

/-- A float's tree read anew, in the same world. -/
theorem R.refit {cx : Cx} {e : Env} {vl : Vl} {w : World} {q : Nat} {t t' : T} {v' : Value} (h : R cx (e.add q (.val t)) vl w) (hc : Clr e q)
    (hrep : Mch.rep cx.fm (okR cx (Own (e.add q (.val t)) vl w)) w v' t') (hcnt : ∀ b, cnt w v' b t' ≤ cnt w (vl q) b t) :
    R cx (e.add q (.val t')) (vadd vl q v') w := by
  obtain ⟨who, hw⟩ := h.who
  refine h.retag (q := q) (d := q) (touch := fun _ => False) (add_self ..) (fun _ _ _ => rfl) (fun _ h => h.elim) h.keeps ?_ (fun b => Nat.le_trans (hcnt b) (hw q t (add_self ..) b).1) (fun b hb => .inl (Nat.le_trans hb (hcnt b)))
    (add_self ..) (fun s x hs hx => ?_)
  · refine rep_less (fun b hb => ?_) hrep
    rcases hb with ⟨s, u, hs, hu, h1⟩ | h1
    · exact ⟨s, u, hu, h1⟩
    · exact ⟨q, t, add_self .., Nat.le_trans h1 (hcnt b)⟩
  · rw [add_ne hs] at hx
    refine ⟨hs, by rw [add_ne hs]; exact hx, fun r hr => ?_⟩
    have hne : r ≠ q := fun e' => by subst e'; rw [(hc r (Nat.le_refl _)).2 s x hx] at hr; cases hr
    exact ⟨hne, hne, by rw [add_ne hne, add_ne hne]⟩

theorem own_refit {e : Env} {vl : Vl} {w : World} {q : Nat} {t t' : T} {v' : Value} (hcnt : ∀ b, cnt w v' b t' ≤ cnt w (vl q) b t) : ∀ b, Own (e.add q (.val t')) (vadd vl q v') w b → Own (e.add q (.val t)) vl w b := by
  rintro b ⟨s, u, h1, h2⟩
  by_cases hs : s = q
  · subst hs
    simp only [add_self, Option.some.injEq, V.val.injEq] at h1
    subst h1
    rw [vadd_self] at h2
    exact ⟨s, t, add_self .., Nat.le_trans h2 (hcnt b)⟩
  · rw [add_ne hs] at h1; rw [vadd_ne hs] at h2
    exact ⟨s, u, by rw [add_ne hs]; exact h1, h2⟩

theorem win_split (ts : List T) (a n : Nat) : ts = ts.take a ++ (win ts a n ++ (ts.drop a).drop n) := by
  unfold win; rw [List.take_append_drop, List.take_append_drop]

theorem repL_win {fm : Nat → Nat} {ok : K → Nat → Prop} {w : World} {g : Nat → Value} {ts : List T} {a : Nat} (n : Nat) (ha : a ≤ ts.length) (h : repL fm ok w g 0 ts) : repL fm ok w (fun j => g (j + a)) 0 (win ts a n) := by
  rw [win_split ts a n, repL_append, repL_append] at h
  have h2 := h.2.1
  rw [List.length_take, Nat.min_eq_left ha] at h2
  exact (repL_shift _ 0 a).1 (by rwa [Nat.zero_add] at h2 ⊢)

theorem cntL_win {w : World} {g : Nat → Value} {b : Nat} {ts : List T} {a : Nat} (n : Nat) (ha : a ≤ ts.length) : cntL w (fun j => g (j + a)) b 0 (win ts a n) ≤ cntL w g b 0 ts := by
  have h : cntL w g b 0 ts = cntL w g b 0 (ts.take a ++ (win ts a n ++ (ts.drop a).drop n)) := by rw [← win_split]
  rw [h, cntL_append, cntL_append, List.length_take, Nat.min_eq_left ha, cntL_shift _ 0 a]
  omega

theorem win_length {ts : List T} {a n : Nat} (h : a + n ≤ ts.length) : (win ts a n).length = n := by
  simp [win]; omega

theorem blk_slice {b o : Nat} {sp : Option Nat} {l c : Nat} : blk (.slice (some ⟨b, o, sp⟩) l c) = b := rfl

/-- A window of own memory, the rest given up. -/
theorem R.trim {cx : Cx} {e : Env} {vl : Vl} {w : World} {q sz off len : Nat} {ts : List T} {v : Value} (h : R cx (e.add q (.val (.mem .own (some sz) ts))) vl w) (hc : Clr e q) (hz : 0 < sz)
    (hl : (off + len) * sz ≤ ts.length) (hw : wnd (vl q) v sz off len) : R cx (e.add q (.val (.mem .own (some sz) (win ts (off * sz) (len * sz))))) (vadd vl q v) w ∧
      ∀ b, Own (e.add q (.val (.mem .own (some sz) (win ts (off * sz) (len * sz))))) (vadd vl q v) w b → Own (e.add q (.val (.mem .own (some sz) ts))) vl w b := by
  have hr := srep_val h (add_self ..)
  rw [rep_mem] at hr
  obtain ⟨h1, h2, h3, _, h5⟩ := hr
  obtain ⟨o', hv, w1, w2, w3⟩ := hw
  have hmul : (off + len) * sz = off * sz + len * sz := Nat.add_mul ..
  have ha : off * sz ≤ ts.length := by omega
  have hwl : (win ts (off * sz) (len * sz)).length = len * sz := win_length (by omega)
  have hpos : ∀ i, i < len * sz → o' = ofs (vl q) + off * sz := fun i hi => w3 (by
    rcases Nat.eq_zero_or_pos len with h0 | h0
    · rw [h0, Nat.zero_mul] at hi; omega
    · omega)
  have hb : blk v = blk (vl q) := by rw [hv]; rfl
  have ho : ofs v = o' := by rw [hv]; rfl
  have hcap : capOf v = capOf (vl q) - off := by rw [hv]; rfl
  have hnv : ∃ L, vl q = .slice (some ⟨blk (vl q), ofs (vl q), none⟩) L (capOf (vl q)) := by
    obtain ⟨⟨L, hL, _⟩, _⟩ := h1
    exact ⟨L, hL⟩
  obtain ⟨L, hL⟩ := hnv
  have hkid : ∀ j, j < len * sz → kid w v j = kid w (vl q) (j + off * sz) := fun j hj => by
    rw [hv, hL]
    simp only [kid, blk_slice]
    rw [hpos j hj]
    congr 3
    omega
  have hcn : ∀ b, cnt w v b (.mem .own (some sz) (win ts (off * sz) (len * sz))) ≤ cnt w (vl q) b (.mem .own (some sz) ts) := fun b => by
    rw [cnt_own, cnt_own, hb]
    have h6 := cntL_win (w := w) (g := kid w (vl q)) (b := b) (len * sz) ha
    rw [cntL_congr (g := kid w v) (g' := fun j => kid w (vl q) (j + off * sz)) _ 0 fun j _ hj => by rw [hwl] at hj; exact hkid j (by omega)]
    omega
  refine ⟨h.refit hc ?_ hcn, own_refit hcn⟩
  · rw [rep_mem, hwl]
    refine ⟨⟨⟨len, by rw [hb, ho, hcap]; exact hv, rfl, hz, by omega⟩, fun i hi => ?_⟩, fun _ => by rw [hb]; exact h2 (.inl rfl), fun _ => ?_, fun hk => (hk rfl).elim, ?_⟩
    · rw [hb, ho, hpos i hi]
      have := h1.2 (off * sz + i) (by omega)
      rwa [Nat.add_assoc]
    · obtain ⟨arr, elem, h6, h7⟩ := h3 rfl
      refine ⟨arr, elem, by rw [hb]; exact h6, ?_⟩
      simp only [ho, hcap] at h7 ⊢
      rw [Nat.sub_mul]
      have : off * sz ≤ capOf (vl q) * sz := Nat.mul_le_mul_right _ (by omega)
      omega
    · refine repL_congr _ 0 (fun j _ hj => ?_) (repL_win (len * sz) ha h5)
      rw [hwl] at hj
      exact (hkid j (by omega)).symm

theorem tree_some {e : Env} {r : Nat} {p : List Nat} {u : T} (h : e.tree r p = some u) : ∃ t, e r = some (.val t) ∧ t.at p = some u := by
  unfold Env.tree at h
  split at h
  · rename_i t ht; exact ⟨t, ht, h⟩
  · cases h

/-- The tree at a place goes to an empty slot. -/
theorem R.moveAt {cx : Cx} {e : Env} {vl : Vl} {w : World} (h : R cx e vl w) {r d : Nat} {p : List Nat} {u : T} (hp : e.tree r p = some u) (hd : e d = none) :
    R cx ((e.clear r p).add d (.val u)) (vadd vl d (nodeV w (vl r) p)) w := by
  obtain ⟨t, hr, hp⟩ := tree_some hp
  cases p with
  | nil =>
    simp only [T.at, Option.some.injEq] at hp
    subst hp
    exact h.moveRoot hr hd
  | cons i p => exact h.movePart hr hd hp

theorem arr_eq {a b : Array Value} (hs : a.size = b.size) (h : ∀ j, j < a.size → a.getD j undef = b.getD j undef) : a = b := by
  refine Array.ext hs fun i h1 h2 => ?_
  have := h i h1
  simpa [Array.getD_eq_getD_getElem?, h1, h2] using this

theorem clear_some {e : Env} {r : Nat} {p : List Nat} {s : Nat} {x : V} (h : e.clear r p s = some x) : e s = some x ∨ ((∃ t, x = .val t) ∧ ∃ y, e s = some y) := by
  cases p with
  | nil =>
    simp only [Env.clear, Env.del, Env.kill] at h
    split at h
    · cases h
    · cases hes : e s with
      | none => rw [hes] at h; cases h
      | some y =>
        rw [hes] at h
        simp only at h
        split at h
        · cases h
        · exact .inl h
  | cons i p =>
    simp only [Env.clear, Env.setTree, Env.kill] at h
    split at h
    · rename_i hs
      subst hs
      split at h
      · rename_i t ht
        cases h
        exact .inr ⟨⟨_, rfl⟩, _, ht⟩
      · cases h
    · cases hes : e s with
      | none => rw [hes] at h; cases h
      | some y =>
        rw [hes] at h
        simp only at h
        split at h
        · cases h
        · exact .inl h

mutual
theorem take_some : ∀ (v : V) (e : Env) {t : T} {e1 : Env}, e.take v = some (t, e1) → ∀ s x, e1 s = some x → e s = some x ∨ ((∃ t, x = .val t) ∧ ∃ y, e s = some y)
  | .val u, e, t, e1, h, s, x, hx => by
    simp only [Env.take] at h
    split at h
    · cases h; exact .inl hx
    · cases h
  | .sref r p sz off len, e, t, e1, h, s, x, hx => by
    simp only [Env.take] at h
    split at h
    · split at h
      · cases h; exact clear_some hx
      · cases h
    · cases h
  | .pref r p off, e, t, e1, h, s, x, hx => by
    simp only [Env.take] at h
    split at h
    · split at h
      · cases h; exact clear_some hx
      · cases h
    · cases h
  | .vagg vs, e, t, e1, h, s, x, hx => by
    simp only [Env.take] at h
    cases htl : e.takeL vs with
    | none => rw [htl] at h; cases h
    | some y => rw [htl] at h; cases h; exact takeL_some vs e htl s x hx
  | .vtup vs, e, t, e1, h, s, x, hx => by
    simp only [Env.take] at h
    cases htl : e.takeL vs with
    | none => rw [htl] at h; cases h
    | some y => rw [htl] at h; cases h; exact takeL_some vs e htl s x hx
  | .same r, e, t, e1, h, s, x, hx => by
    simp only [Env.take] at h
    split at h
    · cases h; exact clear_some (p := []) hx
    · cases h
  | .vfn _ _, e, t, e1, h, s, x, hx => by simp [Env.take] at h
theorem takeL_some : ∀ (vs : List V) (e : Env) {ts : List T} {e1 : Env}, e.takeL vs = some (ts, e1) → ∀ s x, e1 s = some x → e s = some x ∨ ((∃ t, x = .val t) ∧ ∃ y, e s = some y)
  | [], e, ts, e1, h, s, x, hx => by simp only [Env.takeL] at h; cases h; exact .inl hx
  | v :: vs, e, ts, e1, h, s, x, hx => by
    simp only [Env.takeL] at h
    cases hta : e.take v with
    | none => rw [hta] at h; cases h
    | some y =>
      rw [hta] at h
      simp only [Option.bind_some] at h
      cases htl : y.2.takeL vs with
      | none => rw [htl] at h; cases h
      | some z =>
        rw [htl] at h
        cases h
        rcases takeL_some vs y.2 htl s x hx with h1 | ⟨h1, y', h2⟩
        · exact take_some v e hta s x h1
        · rcases take_some v e hta s y' h2 with h3 | ⟨_, h3⟩
          · exact .inr ⟨h1, _, h3⟩
          · exact .inr ⟨h1, h3⟩
end

theorem takeL_none (vs : List V) (e : Env) {ts : List T} {e1 : Env} (h : e.takeL vs = some (ts, e1)) (j : Nat) (hj : e j = none) : e1 j = none := by
  cases hx : e1 j with
  | none => rfl
  | some x =>
    rcases takeL_some vs e h j x hx with h1 | ⟨_, y, h1⟩
    · rw [hj] at h1; cases h1
    · rw [hj] at h1; cases h1

theorem takeL_alias (vs : List V) (e : Env) {ts : List T} {e1 : Env} (h : e.takeL vs = some (ts, e1)) (s : Nat) (x : V) (hx : e1 s = some x) {j : Nat} {p : List Nat} (hy : ∀ y, e s = some y → y.hits j p = false) : x.hits j p = false := by
  rcases takeL_some vs e h s x hx with h1 | ⟨⟨t, rfl⟩, _⟩
  · exact hy x h1
  · rfl

theorem own_addA {e : Env} {vl : Vl} {w : World} {q : Nat} {v : Value} {t : T} (hn : t.noOwn = true) : ∀ b, Own (e.add q (.val t)) (vadd vl q v) w b → Own e vl w b := by
  rintro b ⟨s, u, h1, h2⟩
  by_cases hs : s = q
  · subst hs
    simp only [add_self, Option.some.injEq, V.val.injEq] at h1
    subst h1
    rw [vadd_self, cnt_noOwn _ _ _ _ hn] at h2
    omega
  · rw [add_ne hs] at h1; rw [vadd_ne hs] at h2
    exact ⟨s, u, h1, h2⟩

theorem own_moveAt {cx : Cx} {e : Env} {vl : Vl} {w : World} (h : R cx e vl w) {r d : Nat} {p : List Nat} {u : T} (hp : e.tree r p = some u) (hd : e d = none) :
    ∀ b, Own ((e.clear r p).add d (.val u)) (vadd vl d (nodeV w (vl r) p)) w b → Own e vl w b := by
  obtain ⟨t, hr, hpt⟩ := tree_some hp
  clear hp
  have hrep := srep_val h hr
  have hf := focus p t (vl r) hrep hpt
  rintro b ⟨s, y, h1, h2⟩
  by_cases hs : s = d
  · subst hs
    simp only [add_self, Option.some.injEq, V.val.injEq] at h1
    subst h1
    rw [vadd_self] at h2
    exact ⟨r, t, hr, Nat.le_trans h2 (hf.2 b)⟩
  · rw [add_ne hs] at h1; rw [vadd_ne hs] at h2
    cases p with
    | nil =>
      rcases clear_some h1 with h3 | ⟨_, y', h3⟩
      · exact ⟨s, y, h3, h2⟩
      · simp only [Env.clear, Env.del, Env.kill] at h1
        split at h1
        · cases h1
        · rw [h3] at h1
          simp only at h1
          split at h1
          · cases h1
          · cases h1; exact ⟨s, y, h3, h2⟩
    | cons i p =>
      rcases setTree_some hr h1 with ⟨rfl, h3⟩ | ⟨h3, h4, h5⟩
      · cases h3
        have hrpl := replace (w' := w) (touch := fun _ => False) (fun _ _ _ => rfl) (fun _ _ _ _ h => h) (x := .gone) (i :: p) t (vl s) hrep hpt (fun b hb => hb.elim) trivial
        have := hrpl.2.1 b
        have := hf.2 b
        refine ⟨s, t, hr, ?_⟩
        have e0 : cnt w (nodeV w (vl s) (i :: p)) b T.gone = 0 := rfl
        omega
      · exact ⟨s, y, h4, h2⟩

theorem own_pair {e e' : Env} {vl : Vl} {w : World} {q1 q2 d : Nat} {t : T} {ts : List T} {vs : Array Value} (h1 : e q1 = some (.val t)) (h2 : e q2 = some (.val (.tup ts)))
    (hv : vl q2 = .tuple vs) (hsub : ∀ s x, s ≠ d → e' s = some x → e s = some x) (he : e' d = some (.val (.tup (t :: ts)))) : ∀ b, Own e' (vadd vl d (.tuple (#[vl q1] ++ vs))) w b → Own e vl w b := by
  have hg : ∀ j, kid w (.tuple (#[vl q1] ++ vs)) (j + 1) = kid w (.tuple vs) j := fun j => by
    simp only [kid, Array.getD_eq_getD_getElem?]
    rw [Array.getElem?_append_right (by simp)]
    simp
  have hg0 : kid w (.tuple (#[vl q1] ++ vs)) 0 = vl q1 := by
    simp only [kid, Array.getD_eq_getD_getElem?]
    rw [Array.getElem?_append_left (by simp)]
    simp
  rintro b ⟨s, u, h3, h4⟩
  by_cases hs : s = d
  · subst hs
    rw [he] at h3
    cases h3
    rw [vadd_self] at h4
    have hcnt : cnt w (.tuple (#[vl q1] ++ vs)) b (.tup (t :: ts)) = cnt w (vl q1) b t + cnt w (vl q2) b (.tup ts) := by
      rw [hv]
      simp only [cnt, cntL, hg0]
      rw [cntL_shift ts 0 1]
      simp only [hg]
    rw [hcnt] at h4
    by_cases h5 : 1 ≤ cnt w (vl q1) b t
    · exact ⟨q1, t, h1, h5⟩
    · exact ⟨q2, _, h2, by omega⟩
  · rw [vadd_ne hs] at h4
    exact ⟨s, u, hsub s _ hs h3, h4⟩

mutual
theorem take_sound {cx : Cx} {w : World} {q0 : Nat} : ∀ (x : V) (v : Value) (q : Nat) (e : Env) (vl : Vl) {t : T} {e1 : Env}, R cx e vl w → Clr e q → q0 ≤ q → arw cx.fm (okR cx (Own e vl w)) q0 vl w v x → e.take x = some (t, e1) →
    ∃ vl', (∀ s, s < q → vl' s = vl s) ∧ vl' q = v ∧ R cx (e1.add q (.val t)) vl' w ∧ Clr e1 q ∧ ∀ b, Own (e1.add q (.val t)) vl' w b → Own e vl w b
  | .val u, v, q, e, vl, t, e1, h, hc, _, hx, ht => by
    simp only [Env.take] at ht
    split at ht
    · cases ht
      refine ⟨vadd vl q v, fun s hs => vadd_ne (by omega), vadd_self .., h.addA (hc q (Nat.le_refl _)).1 hx, hc, own_addA hx.1⟩
    · cases ht
  | .sref r p sz off len, v, q, e, vl, t, e1, h, hc, hq, hx, ht => by
    simp only [arw] at hx
    simp only [Env.take] at ht
    split at ht
    · rename_i sz' ts htr
      split at ht
      · rename_i hcond
        obtain ⟨rfl, h2, h3⟩ := hcond
        cases ht
        have hm := h.moveAt htr (hc q (Nat.le_refl _)).1
        have hcl : Clr (e.clear r p) q := clr_clear hc (by omega)
        have := hm.trim (v := v) hcl h3 h2 (by rw [vadd_self]; exact hx.2)
        exact ⟨_, fun s hs => by rw [vadd_ne (by omega), vadd_ne (by omega)], vadd_self .., this.1, hcl, fun b hb => own_moveAt h htr (hc q (Nat.le_refl _)).1 b (this.2 b hb)⟩
      · cases ht
    · cases ht
  | .pref r p off, v, q, e, vl, t, e1, h, hc, hq, hx, ht => by
    simp only [arw] at hx
    simp only [Env.take] at ht
    split at ht
    · rename_i ts htr
      split at ht
      · rename_i hcond
        subst hcond
        cases ht
        have hm := h.moveAt htr (hc q (Nat.le_refl _)).1
        have hcl : Clr (e.clear r p) q := clr_clear hc (by omega)
        have hr := srep_val hm (add_self ..)
        rw [vadd_self, rep_mem] at hr
        refine ⟨_, fun s hs => vadd_ne (by omega), ?_, hm, hcl, own_moveAt h htr (hc q (Nat.le_refl _)).1⟩
        rw [vadd_self, hx.2, Nat.add_zero]
        exact hr.1.1
      · cases ht
    · cases ht
  | .vagg vs, v, q, e, vl, t, e1, h, hc, hq, hx, ht => by
    simp only [arw] at hx
    simp only [Env.take] at ht
    obtain ⟨⟨cs, rfl, hsz⟩, hx⟩ := hx
    cases htl : e.takeL vs with
    | none => rw [htl] at ht; cases ht
    | some y =>
      rw [htl] at ht
      cases ht
      obtain ⟨vl', h1, ⟨us, h2, h3, h4⟩, h5, h6, h7, h8⟩ := takeL_sound vs _ 0 q e vl h hc hq hx htl
      have hus : us = cs := arr_eq (by rw [h3, hsz]) fun j hj => by
        have := h4 j (by omega)
        rw [this]
        simp [kid]
      subst hus
      have hr := srep_val h5 (add_self ..)
      rw [h2] at hr
      simp only [Mch.rep] at hr
      refine ⟨vadd vl' q (.agg us), fun s hs => by rw [vadd_ne (by omega)]; exact h1 s hs, vadd_self .., h5.refit h6 ?_ fun b => ?_, h6, fun b hb => h8 b (own_refit (fun b => ?_) b hb)⟩
      · simp only [Mch.rep]
        exact ⟨⟨us, rfl, by rw [hsz, h7]⟩, hr.2⟩
      · rw [h2]
        simp only [cnt]
        exact Nat.le_refl _
      · rw [h2]
        simp only [cnt]
        exact Nat.le_refl _
  | .vtup vs, v, q, e, vl, t, e1, h, hc, hq, hx, ht => by
    simp only [arw] at hx
    simp only [Env.take] at ht
    obtain ⟨⟨cs, rfl, hsz⟩, hx⟩ := hx
    cases htl : e.takeL vs with
    | none => rw [htl] at ht; cases ht
    | some y =>
      rw [htl] at ht
      cases ht
      obtain ⟨vl', h1, ⟨us, h2, h3, h4⟩, h5, h6, h7, h8⟩ := takeL_sound vs _ 0 q e vl h hc hq hx htl
      have hus : us = cs := arr_eq (by rw [h3, hsz]) fun j hj => by
        have := h4 j (by omega)
        rw [this]
        simp [kid]
      subst hus
      exact ⟨vl', h1, h2, h5, h6, h8⟩
  | .vfn _ _, v, q, e, vl, t, e1, h, hc, hq, hx, ht => by simp [Env.take] at ht
  | .same r, v, q, e, vl, t, e1, h, hc, hq, hx, ht => by
    simp only [arw] at hx
    simp only [Env.take] at ht
    split at ht
    · rename_i ks htr
      cases ht
      have hm := h.moveAt htr (hc q (Nat.le_refl _)).1
      have hcl : Clr (e.clear r []) q := clr_clear hc (by omega)
      refine ⟨_, fun s hs => vadd_ne (by omega), ?_, hm, hcl, own_moveAt h htr (hc q (Nat.le_refl _)).1⟩
      rw [vadd_self, hx.2]
      rfl
    · cases ht
theorem takeL_sound {cx : Cx} {w : World} {q0 : Nat} : ∀ (vs : List V) (g : Nat → Value) (i : Nat) (q : Nat) (e : Env) (vl : Vl) {ts : List T} {e1 : Env}, R cx e vl w → Clr e q → q0 ≤ q → arwL cx.fm (okR cx (Own e vl w)) q0 vl w g i vs →
    e.takeL vs = some (ts, e1) →
    ∃ vl', (∀ s, s < q → vl' s = vl s) ∧ (∃ us : Array Value, vl' q = .tuple us ∧ us.size = vs.length ∧ ∀ j, j < vs.length → us.getD j undef = g (i + j)) ∧ R cx (e1.add q (.val (.tup ts))) vl' w ∧ Clr e1 q ∧ vs.length = ts.length ∧ ∀ b, Own (e1.add q (.val (.tup ts))) vl' w b → Own e vl w b
  | [], g, i, q, e, vl, ts, e1, h, hc, _, _, ht => by
    simp only [Env.takeL] at ht
    cases ht
    exact ⟨vadd vl q (.tuple #[]), fun s hs => vadd_ne (by omega), ⟨#[], vadd_self .., rfl, fun j hj => by simp at hj⟩,
      h.addA (hc q (Nat.le_refl _)).1 ⟨rfl, ⟨⟨#[], rfl, rfl⟩, trivial⟩⟩, hc, rfl, own_addA rfl⟩
  | x :: vs, g, i, q, e, vl, ts, e1, h, hc, hq, hx, ht => by
    simp only [arwL] at hx
    simp only [Env.takeL] at ht
    cases hta : e.take x with
    | none => rw [hta] at ht; cases ht
    | some y =>
      obtain ⟨t, e2⟩ := y
      rw [hta] at ht
      simp only [Option.bind_some] at ht
      cases htl : e2.takeL vs with
      | none => rw [htl] at ht; cases ht
      | some z =>
        obtain ⟨ts', e3⟩ := z
        rw [htl] at ht
        cases ht
        obtain ⟨vl1, h1, h2, h3, h4, hown⟩ := take_sound x _ q e vl h hc hq hx.1 hta
        have hx2 := arwL_gen (vl' := vl1) (fun s hs => h1 s (by omega)) (fun v t _ ht => rep_less hown ht) vs g (i + 1) hx.2
        have htl2 := takeL_add (q := q) (t := t) hq vs g (i + 1) e2 hx2
        rw [htl] at htl2
        obtain ⟨vl2, k1, ⟨us, k2, k3, k4⟩, k5, k6, k7, k8⟩ := takeL_sound vs g (i + 1) (q + 1) (e2.add q (.val t)) vl1 h3 (h4.add t) (by omega) hx2 htl2
        have hq2 : vl2 q = g i := (k1 q (by omega)).trans h2
        have hclr : Clr e3 q := fun j hj => by
          by_cases hjq : j = q
          · subst hjq
            refine ⟨?_, ?_⟩
            · exact (takeL_none vs e2 htl j (h4 j (Nat.le_refl _)).1)
            · intro s x hs
              exact takeL_alias vs e2 htl s x hs fun y hy => (h4 j (Nat.le_refl _)).2 s y hy
          · have := k6 j (by omega)
            refine ⟨by have := this.1; rwa [add_ne hjq] at this, fun s x hs => ?_⟩
            by_cases hsq : s = q
            · subst hsq
              have := takeL_none vs e2 htl s (h4 s (Nat.le_refl _)).1
              rw [this] at hs; cases hs
            · exact this.2 s x (by rw [add_ne hsq]; exact hs)
        have hp := k5.pair (q1 := q) (q2 := q + 1) (d := q) (t := t) (ts := ts') (vs := us) (e' := e3.add q (.val (.tup (t :: ts')))) (by rw [add_ne (by omega)]; exact add_self ..) (add_self ..) (by omega) k2
          (fun s x hs hx => by
            rw [add_ne hs] at hx
            have hsq1 : s ≠ q + 1 := fun e' => by
              subst e'
              rw [(hclr (q + 1) (by omega)).1] at hx; cases hx
            refine ⟨hs, hsq1, by rw [add_ne hsq1, add_ne hs]; exact hx, fun r hr => ?_⟩
            have hr1 : r ≠ q := fun e' => by subst e'; rw [(hclr r (Nat.le_refl _)).2 s x hx] at hr; cases hr
            have hr2 : r ≠ q + 1 := fun e' => by subst e'; rw [(hclr (q + 1) (by omega)).2 s x hx] at hr; cases hr
            exact ⟨hr1, by rw [add_ne hr1, add_ne hr2, add_ne hr1]⟩)
          (add_self ..)
        refine ⟨_, fun s hs => ?_, ⟨#[vl2 q] ++ us, vadd_self .., by simp [k3]; omega, fun j hj => ?_⟩, hp, hclr, by simp [k7], fun b hb => hown b (k8 b (own_pair (q1 := q) (q2 := q + 1) (by rw [add_ne (by omega)]; exact add_self ..) (add_self ..) k2 (fun s x hs hx => by
          rw [add_ne hs] at hx
          have hsq1 : s ≠ q + 1 := fun e' => by
            subst e'
            have h9 := (hclr (q + 1) (by omega)).1
            simp only at hx
            rw [h9] at hx; cases hx
          rw [add_ne hsq1, add_ne hs]; exact hx) (add_self ..) b hb))⟩
        · rw [vadd_ne (by omega), k1 s (by omega)]; exact h1 s hs
        · cases j with
          | zero =>
            rw [Array.getD_eq_getD_getElem?, Array.getElem?_append_left (by simp)]
            simp [hq2]
          | succ j =>
            rw [Array.getD_eq_getD_getElem?, Array.getElem?_append_right (by simp)]
            have := k4 j (by simpa using hj)
            rw [Array.getD_eq_getD_getElem?] at this
            simp only [List.size_toArray, List.length_cons, List.length_nil, Nat.zero_add, Nat.add_sub_cancel]
            rw [this]
            congr 1
            omega
end

end Go.Mch
/- The check that a compact operation is the model's, and the operations that only read. -/
namespace Go.Mch

/-! ### The check -/

/-- The same constant, of a kind that is no memory. -/
def eqC : Value → Value → Bool
  | .int k n, .int k' n' => k == k' && n == n'
  | .bool b, .bool b' => b == b'
  | .string s, .string s' => s.data == s'.data
  | .slice none 0 0, .slice none 0 0 => true
  | .pointer none, .pointer none => true
  | .nilFunc, .nilFunc => true
  | .nilIface, .nilIface => true
  | .map none, .map none => true
  | _, _ => false

theorem eqC_spec {x y : Value} (h : eqC x y = true) : x = y ∧ scal x = true := by
  unfold eqC at h
  split at h <;> simp_all [scal]
  exact ByteArray.ext h

def eqCL : List Value → List Value → Bool
  | [], [] => true
  | x :: xs, y :: ys => eqC x y && eqCL xs ys
  | _, _ => false

theorem eqCL_spec : ∀ {xs ys : List Value}, eqCL xs ys = true → xs = ys ∧ ∀ x ∈ xs, scal x = true
  | [], [], _ => ⟨rfl, by simp⟩
  | x :: xs, y :: ys, h => by
    simp only [eqCL, Bool.and_eq_true] at h
    obtain ⟨rfl, h1⟩ := eqC_spec h.1
    obtain ⟨rfl, h2⟩ := eqCL_spec h.2
    exact ⟨rfl, by simpa using ⟨h1, h2⟩⟩
  | [], _ :: _, h => by simp [eqCL] at h
  | _ :: _, [], h => by simp [eqCL] at h

def okOpd (fm : Nat → Nat) : Opd → Operand → Bool
  | .t n, .tmp m => n == m
  | .c v, .const v' => eqC v v'
  | .f id, .func g => fm id == g
  | _, _ => false

def elOf (P : Program) (t : TypeId) : Option TypeId := match P.underlying t with | some (.slice e) => some e | _ => none
def szOf (P : Program) (t : TypeId) : Option Nat := (P.info? t).map (·.size)
def byOf (P : Program) (t : TypeId) : Option Nat := (P.info? t).map (·.bytes)
def zeroOf (P : Program) (t : TypeId) : Option (List Value) := ((P.info? t).bind (·.zero)).map fun z => z.cells.toList
def aggOf (P : Program) (t : TypeId) : Option Bool := (P.underlying t).map fun d => match d with | .struct _ | .array _ _ => true | _ => false
def fieldOf (P : Program) (t : TypeId) (i : Nat) : Option Field := match P.underlying t with | some (.struct fs) => fs[i]? | _ => none
/-- A value of type t in one cell (none) or as n cells. -/
def okN (P : Program) (t : TypeId) : Option Nat → Bool
  | none => aggOf P t == some false && szOf P t == some 1
  | some n => aggOf P t == some true && szOf P t == some n

theorem run_und {P : Program} {t : TypeId} {d : TypeDesc} {w : World} (h : P.underlying t = some d) : (underlying t).run P w = .ok d w := run_underlying h w

theorem elOf_spec {P : Program} {t e : TypeId} (h : elOf P t = some e) : P.underlying t = some (.slice e) := by
  unfold elOf at h; split at h <;> simp_all

theorem run_szOf {P : Program} {t : TypeId} {n : Nat} {w : World} (h : szOf P t = some n) : (sizeOf t).run P w = .ok n w := by
  unfold szOf at h
  cases hi : P.info? t with
  | none => rw [hi] at h; cases h
  | some i => rw [hi] at h; cases h; simp [sizeOf, typeInfo, hi]

theorem run_aggOf {P : Program} {t : TypeId} {b : Bool} {w : World} (h : aggOf P t = some b) : (isAgg t).run P w = .ok b w := by
  unfold aggOf at h
  cases hi : P.underlying t with
  | none => rw [hi] at h; cases h
  | some d =>
    rw [hi] at h
    simp only [Option.map_some, Option.some.injEq] at h
    subst h
    simp only [isAgg, Sem.run_bind, run_und hi, Result.andThen_ok]
    cases d <;> rfl

/-! ### A frame of the machine against a frame of the model -/

abbrev vlA (a : Act) : Vl := fun s => a.tmps.getD s undef

structure Rel (cx : Cx) (nt : Nat) (e : Env) (a : Act) (w : World) : Prop where
  r : R cx e (vlA a) w
  dom : ∀ j, nt ≤ j → e j = none
  size : a.tmps.size = nt
  defers : a.defers = []

abbrev AR (cx : Cx) (e : Env) (a : Act) (w : World) (v : Value) (x : V) : Prop := arep cx.fm (okR cx (Own e (vlA a) w)) e (vlA a) w v x

theorem Rel.clr {cx : Cx} {nt : Nat} {e : Env} {a : Act} {w : World} (h : Rel cx nt e a w) : Clr e nt := h.r.clr h.dom

theorem Rel.opd {cx : Cx} {nt : Nat} {e : Env} {a : Act} {w : World} (h : Rel cx nt e a w) {x : Opd} {y : Operand} {v : V} (ho : okOpd cx.fm x y = true) (he : e.opd x = some v) : AR cx e a w (a.eval y) v := by
  cases x with
  | t n =>
    cases y <;> simp only [okOpd] at ho <;> try cases ho
    rename_i m
    simp only [beq_iff_eq] at ho
    subst ho
    exact h.r.peek he
  | c u =>
    cases y <;> simp only [okOpd] at ho <;> try cases ho
    rename_i u'
    obtain ⟨rfl, h1⟩ := eqC_spec ho
    simp only [Env.opd, Option.some.injEq] at he
    subst he
    exact ⟨rfl, rfl, h1⟩
  | f id =>
    cases y <;> simp only [okOpd] at ho <;> try cases ho
    rename_i g
    simp only [beq_iff_eq] at ho
    simp only [Env.opd, Option.some.injEq] at he
    subst he
    refine ⟨rfl, ?_⟩
    simp only [Mch.rep]
    exact ⟨⟨#[], by simp [Act.eval, ho], rfl⟩, rfl, trivial⟩

theorem vlA_put {a : Act} {d : Nat} {v : Value} (hd : d < a.tmps.size) : vlA (a.put (some d) v) = vadd (vlA a) d v := by
  funext s
  simp only [vlA, Act.put, vadd, Array.getD_eq_getD_getElem?]
  by_cases hs : s = d
  · subst hs; simp [hd]
  · rw [Array.getElem?_setIfInBounds_ne (Ne.symm hs)]; simp [hs]

theorem del_some {e : Env} {d s : Nat} {x : V} (h : e.del d s = some x) : s ≠ d ∧ e s = some x ∧ x.hits d [] = false := by
  simp only [Env.del, Env.kill] at h
  split at h
  · cases h
  · rename_i hs
    cases hes : e s with
    | none => rw [hes] at h; cases h
    | some y =>
      rw [hes] at h
      simp only at h
      split at h
      · cases h
      · rename_i hh
        cases h
        exact ⟨hs, rfl, by simpa using hh⟩

theorem del_keep {e : Env} {d s : Nat} {x : V} (hs : s ≠ d) (h : e s = some x) (hh : x.hits d [] = false) : e.del d s = some x := by
  simp [Env.del, Env.kill, hs, h, hh]

theorem R.delR {cx : Cx} {e : Env} {vl : Vl} {w : World} (h : R cx e vl w) (d : Nat) : R cx (e.del d) vl w :=
  h.sub (fun s x hx => (del_some hx).2.1) (fun s x r hx hr => by
    obtain ⟨h1, h2, h3⟩ := del_some hx
    obtain ⟨t, ht⟩ := h.root h2 hr
    have hne : r ≠ d := fun e' => by subst e'; rw [h3] at hr; cases hr
    rw [ht]; exact del_keep hne ht rfl) (fun _ _ _ => rfl)

/-- A value that owns nothing lands in a slot. -/
theorem Rel.put {cx : Cx} {nt : Nat} {e : Env} {a : Act} {w : World} (h : Rel cx nt e a w) {d : Nat} (hd : d < nt) {v : Value} {x : V} (hx : AR cx e a w v x) : Rel cx nt (e.put d x) (a.put (some d) v) w := by
  refine ⟨?_, fun j hj => ?_, by simpa [Act.put] using h.size, h.defers⟩
  · rw [vlA_put (by rw [h.size]; exact hd)]
    have h1 := h.r.delR d
    cases hh : x.hits d [] with
    | true =>
      have : e.put d x = e.del d := by funext s; simp [Env.put, Env.del, hh]
      rw [this]
      exact h1.congr fun s y hy => vadd_ne (del_some hy).1
    | false =>
      have : e.put d x = (e.del d).add d x := by
        funext s
        simp only [Env.put, Env.del, Env.add, hh]
        by_cases hs : s = d <;> simp [hs]
      rw [this]
      refine h1.addA (by simp [Env.del]) ?_
      have hown : ∀ b, Own (e.del d) (vlA a) w b → Own e (vlA a) w b := fun b ⟨s, t, h2, h3⟩ => ⟨s, t, (del_some h2).2.1, h3⟩
      refine arep_gen (fun v t _ ht => rep_less hown ht) x v (fun r p hr => ?_) hx
      have hne : r ≠ d := fun e' => by subst e'; rw [isPrefixOf_trans_nil r p x hr] at hh; cases hh
      exact ⟨fun t k ts ht hp => ⟨t, ts, del_keep hne ht rfl, hp, rfl, rfl⟩, fun _ ks hks => ⟨ks, del_keep hne hks rfl, rfl⟩⟩
  · simp only [Env.put, Env.kill]
    rw [if_neg (by omega), h.dom j hj]

/-- A float lands in a slot. -/
theorem R.land {cx : Cx} {e1 : Env} {vl : Vl} {w : World} {q d : Nat} {t : T} (h : R cx (e1.add q (.val t)) vl w) (hc : Clr e1 q) (hqd : d < q) : R cx (e1.put d (.val t)) (vadd vl d (vl q)) w := by
  obtain ⟨who, hw⟩ := h.who
  refine h.retag (q := q) (d := d) (touch := fun _ => False) (add_self ..) (fun _ _ _ => rfl) (fun _ h => h.elim) h.keeps ?_ (fun b => (hw q t (add_self ..) b).1) (fun b hb => .inl hb) (by simp [Env.put, V.hits]) (fun s x hs hx => ?_)
  · refine rep_less (fun b hb => ?_) (srep_val h (add_self ..))
    rcases hb with ⟨s, u, hs, hu, h1⟩ | h1
    · exact ⟨s, u, hu, h1⟩
    · exact ⟨q, t, add_self .., h1⟩
  · have hx' : e1.del d s = some x := by simpa [Env.put, Env.del, hs] using hx
    obtain ⟨h1, h2, h3⟩ := del_some hx'
    have hsq : s ≠ q := fun e' => by subst e'; rw [(hc s (Nat.le_refl _)).1] at h2; cases h2
    refine ⟨hsq, by rw [add_ne hsq]; exact h2, fun r hr => ?_⟩
    have hrd : r ≠ d := fun e' => by subst e'; rw [h3] at hr; cases hr
    have hrq : r ≠ q := fun e' => by subst e'; rw [(hc r (Nat.le_refl _)).2 s x h2] at hr; cases hr
    refine ⟨hrd, hrq, ?_⟩
    obtain ⟨u, hu⟩ := h.root (s := s) (x := x) (by rw [add_ne hsq]; exact h2) hr
    have hu' : e1 r = some (.val u) := by rwa [add_ne hrq] at hu
    rw [add_ne hrq, hu']
    simp [Env.put, hrd, Env.kill, hu', V.hits]

theorem Rel.land {cx : Cx} {nt : Nat} {e1 : Env} {a : Act} {w' : World} {vl : Vl} {d : Nat} {t : T} (hs : a.tmps.size = nt) (hf : a.defers = []) (h : R cx (e1.add nt (.val t)) vl w') (hc : Clr e1 nt) (hv : ∀ s, s < nt → vl s = vlA a s) (hd : d < nt) :
    Rel cx nt (e1.put d (.val t)) (a.put (some d) (vl nt)) w' := by
  have h1 := h.land hc hd
  have hdom : ∀ j, nt ≤ j → e1.put d (.val t) j = none := fun j hj => by
    simp only [Env.put, Env.kill]
    rw [if_neg (by omega), (hc j hj).1]
  refine ⟨?_, hdom, by simpa [Act.put] using hs, hf⟩
  rw [vlA_put (by rw [hs]; exact hd)]
  refine h1.congr fun s x hx => ?_
  have hlt : s < nt := by
    rcases Nat.lt_or_ge s nt with h2 | h2
    · exact h2
    · rw [hdom s h2] at hx; cases hx
  by_cases hsd : s = d
  · subst hsd; rw [vadd_self, vadd_self]
  · rw [vadd_ne hsd, vadd_ne hsd]; exact (hv s hlt).symm

/-- What an operation must do. -/
def Good (P : Program) (cx : Cx) (nt : Nat) (K : Env → Prop) (o : Oper) (a : Act) (w : World) : Prop :=
  ∀ Qx : Exit → Act → World → Prop, o.wp P a w (fun a' w' => ∃ e', K e' ∧ Rel cx nt e' a' w') Qx

theorem good_value {P : Program} {cx : Cx} {nt : Nat} {K : Env → Prop} {o : Oper} {a : Act} {w w' : World} {v : Value} {e' : Env} (hrun : (execOp a.eval o).run P w = .ok (.value v) w') (hK : K e') (hr : Rel cx nt e' (a.put o.dst v) w') : Good P cx nt K o a w := by
  intro Qx
  unfold Oper.wp
  rw [hrun]
  exact ⟨e', hK, hr⟩

theorem good_skip {P : Program} {cx : Cx} {nt : Nat} {K : Env → Prop} {o : Oper} {a : Act} {w w' : World} {e' : Env} (hrun : (execOp a.eval o).run P w = .ok .skip w') (hK : K e') (hr : Rel cx nt e' (a.put o.dst undef) w') : Good P cx nt K o a w := by
  intro Qx
  unfold Oper.wp
  rw [hrun]
  exact ⟨e', hK, hr⟩

/-- An operation that only reads. -/
theorem good_read {P : Program} {cx : Cx} {nt : Nat} {K : Env → Prop} {o : Oper} {a : Act} {w : World} {e : Env} {d : Nat} {v : Value} {x : V} (h : Rel cx nt e a w) (hd : o.dst = some d) (hlt : d < nt)
    (hrun : (execOp a.eval o).run P w = .ok (.value v) w) (hx : AR cx e a w v x) (hK : K (e.setD (some d) x)) : Good P cx nt K o a w :=
  good_value hrun hK (by rw [hd]; exact h.put hlt hx)

theorem ar_sc {cx : Cx} {e : Env} {a : Act} {w : World} {v x : Value} (h : AR cx e a w v (.val (.sc x))) : v = x := h.2.1

theorem ar_mk {cx : Cx} {e : Env} {a : Act} {w : World} {x : Value} (h : scal x = true) : AR cx e a w x (.val (.sc x)) := ⟨rfl, rfl, h⟩

theorem asB_spec {o : Option V} {b : Bool} (h : o.bind asB = some b) : o = some (.val (.sc (.bool b))) := by
  cases o with
  | none => cases h
  | some v =>
    simp only [Option.bind_some] at h
    unfold asB at h
    split at h
    · cases h; rfl
    · cases h

theorem asI_spec {o : Option V} {n : Int} (h : o.bind asI = some n) : ∃ k, o = some (.val (.sc (.int k n))) := by
  cases o with
  | none => cases h
  | some v =>
    simp only [Option.bind_some] at h
    unfold asI at h
    split at h
    · cases h; exact ⟨_, rfl⟩
    · cases h

theorem i64_wrap {n : Int} (h1 : -9223372036854775808 ≤ n) (h2 : n ≤ 9223372036854775807) : IntKind.i64.wrap n = n := by
  rw [IntKind.wrap_i64]; omega

theorem arith_spec {k : IntKind} {n : Int} {v : Value} (h : arith k n = some v) : v = .int k (k.wrap n) := by
  unfold arith at h
  split at h
  · rename_i hk
    subst hk
    split at h
    · rename_i hn
      cases h
      rw [i64_wrap hn.1 hn.2]
    · cases h
  · cases h; rfl

theorem eqGuard_int {P : Program} {w : World} {op : BinOp} {t : TypeId} {x y : Operand} {k k' : IntKind} {a b : Int} : (eqGuard op t x y (.int k a) (.int k' b)).run P w = .ok () w := by
  unfold eqGuard
  cases op <;> rfl

theorem shSc_spec {op : BinOp} {k k' : IntKind} {a b : Int} {v : Value} (h : shSc op k a b = some v) (P : Program) (w : World) (t : TypeId) : (binOp op t (.int k a) (.int k' b)).run P w = .ok v w ∧ scal v = true := by
  unfold shSc at h
  split at h
  · cases h
  · rename_i hb
    split at h
    · cases h; exact ⟨by simp [binOp, Op.shift, hb], rfl⟩
    · cases h; exact ⟨by simp [binOp, Op.shift, hb], rfl⟩
    · cases h
theorem binSc_spec {op : BinOp} {k : IntKind} {a b : Int} {v : Value} (h : binSc op k a b = some v) (P : Program) (w : World) (t : TypeId) : (binOp op t (.int k a) (.int k b)).run P w = .ok v w ∧ scal v = true := by
  cases op <;> simp only [binSc] at h <;> first | cases h | skip
  case add => rw [arith_spec h]; exact ⟨by simp [binOp, Op.intArith], rfl⟩
  case sub => rw [arith_spec h]; exact ⟨by simp [binOp, Op.intArith], rfl⟩
  case mul => rw [arith_spec h]; exact ⟨by simp [binOp, Op.intArith], rfl⟩
  case quo =>
    split at h
    · cases h
    · rename_i hb; rw [arith_spec h]; exact ⟨by simp [binOp, Op.intDiv, hb], rfl⟩
  case rem =>
    split at h
    · cases h
    · rename_i hb; cases h; exact ⟨by simp [binOp, Op.intDiv, hb], rfl⟩
  case shl => exact shSc_spec h P w t
  case shr => exact shSc_spec h P w t
  all_goals exact ⟨by simp [binOp, Op.intCmp, Op.intBits], rfl⟩

end Go.Mch
