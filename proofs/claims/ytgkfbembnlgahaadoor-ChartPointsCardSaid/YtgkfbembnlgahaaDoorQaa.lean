/- Part 1 of the proof of the statement that the last part names; it asks for no condition of its own. Here: SxDefs, SxRel, SxDrawn, SxOps, SxOps2, SxMem, SxMem2, SxMem3, SxMem4, SxMem5, SxMem6, SxMem7, SxMem8, SxEq, SxConv, SxCall. -/
import Derived.WalkKit
import Derived.Maps.AppendAt
import Derived.Laws.StructEq
import Derived.Lib.ConvBytes
set_option linter.unusedVariables false
set_option linter.unusedSimpArgs false
set_option linter.unnecessarySimpa false
namespace Go.Sx
inductive SVal where
  | v (x : Value)
  | ptr (b u off : Nat)
  | own (b u : Nat)
  | elt (b u sz i off : Nat)
  | agg (cs : List SVal)
  | tup (vs : List SVal)
  | fn (f : FuncId) (first captured : List SVal)
  | ifc
  | undef
deriving Inhabited

inductive Cell where
  | v (x : Value)
  | s (et sz : Nat) (xs : List (List Value))

inductive SObj where
  | cells (cs : List SVal)
  | row (rw : Bool) (et sz : Nat) (xs : List (List Cell))
  | str (s : ByteArray) (pos : Nat)

structure Ent where
  name : Nat
  ver : Nat
  obj : SObj

abbrev Hp := List Ent

def findE : Hp → Nat → Option Ent
  | [], _ => none
  | e :: r, b => if e.name = b then some e else findE r b

abbrev HpF := Nat → Option Ent

def objOf (hp : HpF) (b u : Nat) : Option SObj := match hp b with
  | some e => if e.ver = u then some e.obj else none
  | none => none

def putE : Hp → Ent → Hp
  | [], x => [x]
  | e :: r, x => if x.name = e.name then x :: r else if x.name < e.name then x :: e :: r else e :: putE r x

def putsE : Hp → List Ent → Hp
  | hp, [] => hp
  | hp, x :: r => putsE (putE hp x) r

inductive TD where
  | int (k : IntKind) | bool | str | ptr (e : Nat) | slice (e : Nat) | struct (fs : List (Nat × Nat)) | arr (n e : Nat) | iface | other
structure TI where
  size : Nat
  bytes : Nat
  td : TD
  zero : List Value

abbrev Res := Option (Prop × SVal × List Ent)
abbrev Summary := List SVal → Hp → Res

inductive LK where
  | i
  | s
  | b
deriving DecidableEq

abbrev Glob := Nat → Option Obj

structure Ctx where
  ty : Nat → Option TI
  cmp : Nat → Option (List LK)
  gl : Glob
  sum : Nat → Option Summary

def nth : List SVal → Nat → SVal
  | [], _ => .undef
  | x :: _, 0 => x
  | _ :: r, n + 1 => nth r n
def setn : List SVal → Nat → SVal → List SVal
  | [], _, _ => []
  | _ :: r, 0, x => x :: r
  | y :: r, n + 1, x => y :: setn r n x

def constS : Value → SVal
  | .agg cs => .agg (cs.toList.map .v)
  | .tuple vs => .tup (vs.toList.map .v)
  | x => .v x

def evA (tm : List SVal) : Operand → SVal
  | .tmp t => nth tm t
  | .const v => constS v
  | .global g => .v (.pointer (some ⟨g, 0, none⟩))
  | .func f => .fn f [] []

def cellsOf : SVal → List SVal
  | .agg cs => cs
  | x => [x]

def ret (x : SVal) : Res := some (True, x, [])

def isAgg (t : TI) : Bool := match t.td with
  | .struct _ | .arr _ _ => true
  | _ => false

def solid : SVal → Bool
  | .v (.agg _) | .v (.tuple _) | .agg _ | .tup _ | .undef => false
  | _ => true

def allSolid : List SVal → Bool
  | [] => true
  | x :: r => solid x && allSolid r

def pack (t : TI) (cs : List SVal) : Option SVal :=
  if isAgg t then some (.agg (cs.take t.size)) else match cs with
    | x :: _ => some x
    | [] => none

def splice {α : Type} (cs : List α) (off : Nat) (x : List α) : List α := cs.take off ++ (x ++ cs.drop (off + x.length))

def slotName (d : Nat) : Nat := 100 + d
def callName (d k : Nat) : Nat := 1000 + 10 * d + k

def openCells (d : Nat) : Nat → List Cell → List SVal × List Ent
  | _, [] => ([], [])
  | k, .v x :: r => (.v x :: (openCells d k r).1, (openCells d k r).2)
  | k, .s et sz xs :: r => (.own (callName d k) 0 :: (openCells d (k + 1) r).1, ⟨callName d k, 0, .row false et sz (xs.map fun l => l.map .v)⟩ :: (openCells d (k + 1) r).2)

def absentAll (hp : HpF) : List Ent → Bool
  | [] => true
  | e :: r => (hp e.name).isNone && absentAll hp r

def loadS (gl : Glob) (t : TI) (hp : HpF) (d : Nat) : SVal → Res
  | .v (.pointer (some ⟨g, off, none⟩)) => match gl g with
    | some (.cells arr _ (0, 0)) => match pack t ((arr.toList.drop off).map .v) with
      | some x => some (off + t.size ≤ arr.size, x, [])
      | none => none
    | _ => none
  | .ptr b u off => match objOf hp b u with
    | some (.cells cs) => match pack t (cs.drop off) with
      | some x => some (off + t.size ≤ cs.length, x, [])
      | none => none
    | _ => none
  | .elt b u sz i off => match objOf hp b u with
    | some (.row _ _ sz' xs) => match pack t (openCells d 0 (((xs.getD i []).drop off).take t.size)).1 with
      | some x => if sz = sz' && decide ((openCells d 0 (((xs.getD i []).drop off).take t.size)).2.length ≤ 10) && absentAll hp (openCells d 0 (((xs.getD i []).drop off).take t.size)).2 then
          some (i < xs.length ∧ off + t.size ≤ sz, x, (openCells d 0 (((xs.getD i []).drop off).take t.size)).2) else none
      | none => none
    | _ => none
  | _ => none

def plainRow : List Cell → Option (List Value)
  | [] => some []
  | .v x :: r => match plainRow r with
    | some l => some (x :: l)
    | none => none
  | .s _ _ _ :: _ => none
def plainRows : List (List Cell) → Option (List (List Value))
  | [] => some []
  | x :: r => match plainRow x, plainRows r with
    | some y, some l => some (y :: l)
    | _, _ => none

def shutCells (hp : HpF) : List SVal → Option (List Cell × List Ent)
  | [] => some ([], [])
  | .v x :: r => match shutCells hp r with
    | some (l, u) => some (.v x :: l, u)
    | none => none
  | .own b u :: r => match objOf hp b u with
    | some (.row _ et sz xs) => match plainRows xs, shutCells hp r with
      | some ys, some (l, us) => some (.s et sz ys :: l, ⟨b, u, .row false et sz xs⟩ :: us)
      | _, _ => none
    | _ => none
  | _ :: _ => none

def storeS (t : TI) (hp : HpF) (a x : SVal) : Res := if allSolid (cellsOf x) && (cellsOf x).length == t.size then match a with
  | .ptr b u off => match objOf hp b u with
    | some (.cells cs) => some (off + t.size ≤ cs.length, .undef, [⟨b, u, .cells (splice cs off (cellsOf x))⟩])
    | _ => none
  | .elt b u sz i off => match objOf hp b u, shutCells (fun _ => none) (cellsOf x) with
    | some (.row true et sz' xs), some (l, _) => if sz = sz' then
        some (i < xs.length ∧ off + t.size ≤ sz, .undef, [⟨b, u, .row true et sz' (xs.set i (splice (xs.getD i []) off l))⟩]) else none
    | _, _ => none
  | _ => none
  else none

def intBits (k : IntKind) (r : BitVec k.bits) : Int := k.wrap r.toNat

def binS (op : BinOp) (x y : SVal) : Res := match x, y with
  | .v (.int k a), .v (.int k' b) => match op with
    | .shl => some (0 ≤ b, .v (.int k (k.wrap (a * 2 ^ (min b.toNat k.bits)))), [])
    | .shr => some (0 ≤ b, .v (.int k (a.fdiv (2 ^ (min b.toNat k.bits)))), [])
    | _ => if k = k' then match op with
      | .add => ret (.v (.int k (k.wrap (a + b))))
      | .sub => ret (.v (.int k (k.wrap (a - b))))
      | .mul => ret (.v (.int k (k.wrap (a * b))))
      | .quo => some (b ≠ 0, .v (.int k (k.wrap (a.tdiv b))), [])
      | .rem => some (b ≠ 0, .v (.int k (a.tmod b)), [])
      | .and => ret (.v (.int k (intBits k (BitVec.ofInt k.bits a &&& BitVec.ofInt k.bits b))))
      | .or => ret (.v (.int k (intBits k (BitVec.ofInt k.bits a ||| BitVec.ofInt k.bits b))))
      | .xor => ret (.v (.int k (intBits k (BitVec.ofInt k.bits a ^^^ BitVec.ofInt k.bits b))))
      | .andNot => ret (.v (.int k (intBits k (BitVec.ofInt k.bits a &&& ~~~BitVec.ofInt k.bits b))))
      | .lss => ret (.v (.bool (decide (a < b))))
      | .leq => ret (.v (.bool (decide (a ≤ b))))
      | .gtr => ret (.v (.bool (decide (a > b))))
      | .geq => ret (.v (.bool (decide (a ≥ b))))
      | .eql => ret (.v (.bool (a == b)))
      | .neq => ret (.v (.bool (a != b)))
      | _ => none
      else none
  | .v (.string a), .v (.string b) => match op with
    | .add => some (a.size + b.size ≤ 9223372036854775807, .v (.string (a ++ b)), [])
    | .eql => ret (.v (.bool (a.toList == b.toList)))
    | .neq => ret (.v (.bool !(a.toList == b.toList)))
    | _ => none
  | _, _ => none

def eqS (t : TI) (op : BinOp) (x y : SVal) : Res := match t.td, x, y with
  | .bool, .v (.bool a), .v (.bool b) => match op with
    | .eql => ret (.v (.bool (a == b)))
    | .neq => ret (.v (.bool !(a == b)))
    | _ => none
  | .ptr _, .ptr _ _ _, .v (.pointer none) => match op with
    | .eql => ret (.v (.bool false))
    | .neq => ret (.v (.bool true))
    | _ => none
  | .ptr _, .v (.pointer none), .v (.pointer none) => match op with
    | .eql => ret (.v (.bool true))
    | .neq => ret (.v (.bool false))
    | _ => none
  | _, _, _ => binS op x y

def nilE (e : Option Ent) (u : Nat) (op : BinOp) (y : SVal) : Res := match e, y with
  | some ⟨_, v, .row _ _ _ xs⟩, .v (.slice none 0 0) => if v = u then match op with
      | .eql => some (xs ≠ [], .v (.bool false), [])
      | .neq => some (xs ≠ [], .v (.bool true), [])
      | _ => none
      else none
  | _, _ => none
def nilCmp (hp : HpF) (op : BinOp) (x y : SVal) : Res := match x with
  | .own b u => nilE (hp b) u op y
  | _ => none

def eqLeaf : LK → Value → Value → Option Bool
  | .i, .int k a, .int k' b => if k = k' then some (a == b) else none
  | .s, .string a, .string b => some (a.toList == b.toList)
  | .b, .bool a, .bool b => some (a == b)
  | _, _, _ => none

def eqVals : List LK → List Value → List Value → Option Bool
  | [], [], [] => some true
  | k :: l, x :: r, y :: s => match eqLeaf k x y, eqVals l r s with
    | some a, some b => some (a && b)
    | _, _ => none
  | _, _, _ => none

def plainS : List SVal → Option (List Value)
  | [] => some []
  | .v x :: r => match plainS r with
    | some l => some (x :: l)
    | none => none
  | _ :: _ => none

def eqCells (l : List LK) (cs ds : List SVal) : Option Bool := match plainS cs, plainS ds with
  | some xs, some ys => eqVals l xs ys
  | _, _ => none

def eqAgg (op : BinOp) (l : List LK) (cs ds : List SVal) : Res := match eqCells l cs ds with
  | some b => match op with
    | .eql => ret (.v (.bool b))
    | .neq => ret (.v (.bool !b))
    | _ => none
  | none => none

def isLit : Operand → Bool
  | .const _ => true
  | _ => false

def eqIface (op : BinOp) (lit : Bool) (x y : SVal) : Res := match x, y with
  | .ifc, .v .nilIface => match op with
    | .eql => ret (.v (.bool false))
    | .neq => ret (.v (.bool true))
    | _ => none
  | .v .nilIface, .v .nilIface => if lit then match op with
    | .eql => ret (.v (.bool true))
    | .neq => ret (.v (.bool false))
    | _ => none
    else none
  | _, _ => none

def boundS (dflt : Int) : Option SVal → Option Int
  | none => some dflt
  | some (.v (.int _ a)) => some a
  | _ => none

def intsOf (k : IntKind) : List SVal → Option (List Int)
  | [] => some []
  | .v (.int k' n) :: r => if k' = k then match intsOf k r with
    | some l => some (n :: l)
    | none => none
    else none
  | _ :: _ => none

def rowInts (k : IntKind) : List (List Cell) → Option (List Int)
  | [] => some []
  | [.v (.int k' n)] :: r => if k' = k then match rowInts k r with
    | some l => some (n :: l)
    | none => none
    else none
  | _ :: _ => none

def textOf (ns : List Int) : ByteArray := ⟨(ns.map fun n => UInt8.ofNat n.toNat).toArray⟩

def fieldAt (l : List (Nat × Nat)) (i : Nat) : Option (Nat × Nat) := match l, i with
  | [], _ => none
  | x :: _, 0 => some x
  | _ :: r, i + 1 => fieldAt r i

def partAt (c : Ctx) (t : TI) (i : Nat) : Option (Nat × Nat) := match t.td with
  | .struct fs => match fieldAt fs i with
    | some (o, u) => match c.ty u with
      | some j => some (o, j.size)
      | none => none
    | none => none
  | .arr n e => match c.ty e with
    | some j => if i < n then some (i * j.size, j.size) else none
    | none => none
  | _ => none

def eltKnown (c : Ctx) (t : TI) : Bool := match t.td with
  | .arr _ e => (c.ty e).isSome
  | _ => true

def buildCells (c : Ctx) (t : TI) : List SVal → List (Nat × SVal) → Option (List SVal)
  | cs, [] => some cs
  | cs, (i, x) :: r => match partAt c t i with
    | some (o, n) => if (cellsOf x).length = n ∧ o + n ≤ cs.length ∧ allSolid (cellsOf x) = true then buildCells c t (splice cs o (cellsOf x)) r else none
    | none => none

mutual
def refs : SVal → List (Nat × Nat)
  | .ptr b u _ => [(b, u)]
  | .own b u => [(b, u)]
  | .elt b u _ _ _ => [(b, u)]
  | .agg l => refsL l
  | .tup l => refsL l
  | .fn _ l m => refsL l ++ refsL m
  | _ => []
def refsL : List SVal → List (Nat × Nat)
  | [] => []
  | x :: r => refs x ++ refsL r
end
def refsO : SObj → List (Nat × Nat)
  | .cells cs => refsL cs
  | _ => []

def reach (hp : HpF) : Nat → List (Nat × Nat) → List Ent → Option (List Ent)
  | _, [], acc => some acc
  | 0, _ :: _, _ => none
  | n + 1, r :: todo, acc => match findE acc r.1 with
    | some e => if e.ver = r.2 then reach hp n todo acc else none
    | none => match hp r.1 with
      | some e => if e.ver = r.2 then reach hp n (todo ++ refsO e.obj) (acc ++ [e]) else none
      | none => none

def indexE : List Ent → Nat → Nat
  | [], _ => 0
  | e :: l, b => if e.name = b then 0 else indexE l b + 1

mutual
def mapR (f : Nat → Nat → Nat × Nat) : SVal → SVal
  | .ptr b u o => .ptr (f b u).1 (f b u).2 o
  | .own b u => .own (f b u).1 (f b u).2
  | .elt b u s i o => .elt (f b u).1 (f b u).2 s i o
  | .agg l => .agg (mapRL f l)
  | .tup l => .tup (mapRL f l)
  | .fn g l m => .fn g (mapRL f l) (mapRL f m)
  | .v x => .v x
  | .ifc => .ifc
  | .undef => .undef
def mapRL (f : Nat → Nat → Nat × Nat) : List SVal → List SVal
  | [] => []
  | x :: r => mapR f x :: mapRL f r
end
def mapRO (f : Nat → Nat → Nat × Nat) : SObj → SObj
  | .cells cs => .cells (mapRL f cs)
  | o => o

def inward (acc : List Ent) (b _u : Nat) : Nat × Nat := (indexE acc b, 0)

def number (acc : List Ent) : Nat → List Ent → List Ent
  | _, [] => []
  | j, e :: r => ⟨j, 0, mapRO (inward acc) e.obj⟩ :: number acc (j + 1) r

def nthE : List Ent → Nat → Option Ent
  | [], _ => none
  | e :: _, 0 => some e
  | _ :: r, n + 1 => nthE r n

def outward (acc : List Ent) (d : Nat) (j u : Nat) : Nat × Nat := match nthE acc j with
  | some e => (e.name, e.ver + u)
  | none => (callName d (j - acc.length), u)

def outEnts (acc : List Ent) (d : Nat) : List Ent → List Ent
  | [] => []
  | e :: r => ⟨(outward acc d e.name e.ver).1, (outward acc d e.name e.ver).2, mapRO (outward acc d) e.obj⟩ :: outEnts acc d r

def freshOk (hp : HpF) (m d : Nat) : List Ent → Bool
  | [] => true
  | e :: r => (decide (e.name < m) || (decide (e.name < m + 10) && (hp (callName d (e.name - m))).isNone)) && freshOk hp m d r

def evCall (s : Summary) (hp : HpF) (d : Nat) (args : List SVal) : Res := match reach hp 40 (refsL args) [] with
  | some acc => match s (mapRL (inward acc) args) (number acc 0 acc) with
    | some (p, r, us) => if freshOk hp acc.length d us then some (p, mapR (outward acc d) r, outEnts acc d us) else none
    | none => none
  | none => none

def evBuiltin (c : Ctx) (hp : HpF) (d : Nat) (b : Builtin) (tys : List TypeId) (args : List SVal) : Res := match b, args, tys with
  | .len, [.own b u], [t] => match c.ty t, objOf hp b u with
    | some ⟨_, _, .slice _, _⟩, some (.row _ _ _ xs) => ret (.v (.int .i64 xs.length))
    | _, _ => none
  | .len, [.v (.slice _ n _)], [t] => match c.ty t with
    | some ⟨_, _, .slice _, _⟩ => ret (.v (.int .i64 n))
    | _ => none
  | .len, [.v (.string s)], [t] => match c.ty t with
    | some ⟨_, _, .str, _⟩ => ret (.v (.int .i64 s.size))
    | _ => none
  | .append, [.own b u, .own b' u'], [t, t'] => match c.ty t, objOf hp b u, objOf hp b' u' with
    | some ⟨_, _, .slice e, _⟩, some (.row true et sz xs), some (.row _ _ sz' ys) => match c.ty e with
      | some te => if e = et ∧ sz = te.size ∧ sz' = sz ∧ 0 < sz ∧ 0 < te.bytes ∧ te.zero.length = te.size ∧ t = t' then
          some ((xs.length + ys.length) * te.bytes ≤ 140737488355328, .own b (u + 1), [⟨b, u + 1, .row true et sz (xs ++ ys)⟩]) else none
      | none => none
    | _, _, _ => none
  | .append, [.v (.slice none 0 0), .own b' u'], [t, t'] => match c.ty t, objOf hp b' u', hp (slotName d) with
    | some ⟨_, _, .slice e, _⟩, some (.row _ _ sz' ys), none => match c.ty e with
      | some te => if sz' = te.size ∧ 0 < te.size ∧ 0 < te.bytes ∧ te.zero.length = te.size ∧ t = t' then
          some (ys.length * te.bytes ≤ 140737488355328, .own (slotName d) 0, [⟨slotName d, 0, .row true e te.size ys⟩]) else none
      | none => none
    | _, _, _ => none
  | .copy, [.own b u, .own b' u'], [t, _] => match c.ty t, objOf hp b u, objOf hp b' u' with
    | some ⟨_, _, .slice e, _⟩, some (.row true et sz xs), some (.row _ _ sz' ys) => match c.ty e with
      | some te => if sz = te.size ∧ sz = sz' ∧ 0 < sz then
          some (True, .v (.int .i64 (min ys.length xs.length : Nat)), [⟨b, u, .row true et sz (ys.take (min ys.length xs.length) ++ xs.drop (min ys.length xs.length))⟩]) else none
      | none => none
    | _, _, _ => none
  | .max, [.v (.int k a), .v (.int _ b)], _ => ret (.v (.int k (if b > a then b else a)))
  | .min, [.v (.int k a), .v (.int _ b)], _ => ret (.v (.int k (if b < a then b else a)))
  | _, _, _ => none

def evNext (ev : Operand → SVal) (hp : HpF) (o : Oper) : Option (Bool → Res) := match o.op with
  | .next x true => match ev x with
    | .ptr b u 0 => match objOf hp b u with
      | some (.str s pos) => some fun more => if more then
          some (pos < s.size, .tup [.v (.bool true), .v (.int .i64 pos), .v (.int .i32 (Utf8.decode s pos).1)], [⟨b, u, .str s (pos + (Utf8.decode s pos).2)⟩]) else
          some (¬ pos < s.size, .tup [.v (.bool false)], [])
      | _ => none
    | _ => none
  | _ => none

def evOp (c : Ctx) (ev : Operand → SVal) (hp : HpF) (o : Oper) : Res :=
  let d := o.dst.getD 0
  match o.op with
  | .move x | .assign x => ret (ev x)
  | .pick cc a b => match ev cc with
    | .v (.bool true) => ret (ev a)
    | .v (.bool false) => ret (ev b)
    | _ => none
  | .alloc t => match c.ty t, hp (slotName d) with
    | some i, none => some (True, .ptr (slotName d) 0 0, [⟨slotName d, 0, .cells (i.zero.map .v)⟩])
    | _, _ => none
  | .box _ x => match hp (slotName d) with
    | none => if allSolid (cellsOf (ev x)) then some (True, .ptr (slotName d) 0 0, [⟨slotName d, 0, .cells (cellsOf (ev x))⟩]) else none
    | some _ => none
  | .build t parts => match c.ty t with
    | some i => if isAgg i && eltKnown c i then match buildCells c i (i.zero.map .v) (parts.toList.map fun p => (p.1, ev p.2)) with
      | some cs => ret (.agg cs)
      | none => none
      else none
    | none => none
  | .load t a => match c.ty t with
    | some i => loadS c.gl i hp d (ev a)
    | none => none
  | .store t a x => match c.ty t with
    | some i => storeS i hp (ev a) (ev x)
    | none => none
  | .nilCheck x => match ev x with
    | .ptr b u off => ret (.ptr b u off)
    | .fn f l m => ret (.fn f l m)
    | _ => none
  | .binOp op t x y _ => match c.cmp t, ev x, ev y with
    | some l, .agg cs, .agg ds => eqAgg op l cs ds
    | _, vx, vy => match c.ty t with
      | some ⟨_, _, .iface, _⟩ => eqIface op (isLit x || isLit y) vx vy
      | some ⟨_, _, .slice _, _⟩ => nilCmp hp op (ev x) (ev y)
      | some i => eqS i op vx vy
      | none => none
  | .makeInterface t x => match c.ty t with
    | some ⟨_, _, .iface, _⟩ => none
    | some _ => ret .ifc
    | none => none
  | .unOp op _ x => match op, ev x with
    | .not, .v (.bool b) => ret (.v (.bool !b))
    | .neg, .v (.int k a) => ret (.v (.int k (k.wrap (0 - a))))
    | .xor, .v (.int k a) => ret (.v (.int k (intBits k (BitVec.ofInt k.bits (if k.signed then -1 else k.max) ^^^ BitVec.ofInt k.bits a))))
    | _, _ => none
  | .convert s t x => match c.ty s, c.ty t, ev x with
    | some _, some ⟨_, _, .int k, _⟩, .v (.int _ n) => ret (.v (.int k (k.wrap n)))
    | some ⟨_, _, .str, _⟩, some ⟨_, _, .str, _⟩, .v (.string z) => ret (.v (.string z))
    | some ⟨_, _, .str, _⟩, some ⟨_, _, .slice e, _⟩, .v (.string z) => match c.ty e, hp (slotName d) with
      | some ⟨_, _, .int .u8, _⟩, none => some (z.size ≤ 9223372036854775807, .own (slotName d) 0, [⟨slotName d, 0, .row false e 1 (z.data.toList.map fun b => [.v (.int .u8 b.toNat)])⟩])
      | _, _ => none
    | some ⟨_, _, .slice e, _⟩, some ⟨_, _, .str, _⟩, .own b u => match c.ty e, objOf hp b u with
      | some ⟨_, _, .int .u8, _⟩, some (.row _ _ _ xs) => match rowInts .u8 xs with
        | some ns => ret (.v (.string (textOf ns)))
        | none => none
      | _, _ => none
    | _, _, _ => none
  | .makeFunc (.func f) first captured => ret (.fn f (first.toList.map (ev)) (captured.toList.map (ev)))
  | .fieldAddr t x f => match c.ty t with
    | some i => match partAt c i f, i.td, ev x with
      | some (o, n), .struct _, .ptr b u off => if 0 < n then ret (.ptr b u (off + o)) else none
      | some (o, n), .struct _, .elt b u sz j off => if 0 < n then ret (.elt b u sz j (off + o)) else none
      | _, _, _ => none
    | none => none
  | .field t x f => match c.ty t, ev x with
    | some i, .agg cs => match i.td with
      | .struct fs => match fieldAt fs f with
        | some (o, u) => match c.ty u with
          | some j => match pack j (cs.drop o) with
            | some y => some (o + j.size ≤ cs.length, y, [])
            | none => none
          | none => none
        | none => none
      | _ => none
    | _, _ => none
  | .indexAddr t x i => match c.ty t, ev x, ev i with
    | some ⟨_, _, .slice e, _⟩, .own b u, .v (.int _ n) => match objOf hp b u, c.ty e with
      | some (.row _ _ sz xs), some te => if sz = te.size then some (0 ≤ n ∧ n < xs.length, .elt b u sz n.toNat 0, []) else none
      | _, _ => none
    | some ⟨_, _, .arr m e, _⟩, .ptr b u off, .v (.int _ n) => match c.ty e with
      | some j => some (0 ≤ n ∧ n < m, .ptr b u (off + n.toNat * j.size), [])
      | none => none
    | _, _, _ => none
  | .index t x i => match c.ty t, ev x, ev i with
    | some ⟨_, _, .str, _⟩, .v (.string s), .v (.int _ n) => some (0 ≤ n ∧ n < s.size, .v (.int .u8 (s.data.toList.getD n.toNat 0).toNat), [])
    | some ⟨_, _, .arr m e, _⟩, .agg cs, .v (.int _ n) => match c.ty e with
      | some j => match pack j (cs.drop (n.toNat * j.size)) with
        | some y => some (0 ≤ n ∧ n < m ∧ n.toNat * j.size + j.size ≤ cs.length, y, [])
        | none => none
      | none => none
    | _, _, _ => none
  | .slice t x lo hi none => match c.ty t, ev x with
    | some ⟨_, _, .str, _⟩, .v (.string s) => match lo.map (ev), hi.map (ev) with
      | none, none => ret (.v (.string (s.extract 0 s.size)))
      | some (.v (.int _ a)), none => some (0 ≤ a ∧ a ≤ s.size, .v (.string (s.extract a.toNat s.size)), [])
      | none, some (.v (.int _ b)) => some (0 ≤ b ∧ b ≤ s.size, .v (.string (s.extract 0 b.toNat)), [])
      | some (.v (.int _ a)), some (.v (.int _ b)) => some (0 ≤ a ∧ a ≤ b ∧ b ≤ s.size, .v (.string (s.extract a.toNat b.toNat)), [])
      | _, _ => none
    | some ⟨_, _, .slice e, _⟩, .own b u => match c.ty e, objOf hp b u, hp (slotName d) with
      | some te, some (.row _ et sz xs), none => match boundS 0 (lo.map ev), boundS xs.length (hi.map ev) with
        | some A, some B => if sz = te.size then some (0 ≤ A ∧ A ≤ B ∧ B ≤ xs.length, .own (slotName d) 0, [⟨b, u, .row false et sz xs⟩, ⟨slotName d, 0, .row false et sz ((xs.take B.toNat).drop A.toNat)⟩]) else none
        | _, _ => none
      | _, _, _ => none
    | some ⟨_, _, .arr m e, _⟩, .ptr b u 0 => match c.ty e, objOf hp b u, hp (slotName d) with
      | some ⟨sz, _, .int k, _⟩, some (.cells cs), none => match boundS 0 (lo.map ev), boundS m (hi.map ev), intsOf k cs with
        | some A, some B, some ns => if sz = 1 ∧ ns.length = m ∧ m ≤ 16777216 then some (0 ≤ A ∧ A ≤ B ∧ B ≤ m, .own (slotName d) 0, [⟨b, u + 1, .row false e 1 []⟩, ⟨slotName d, 0, .row false e 1 (((ns.take B.toNat).drop A.toNat).map fun n => [.v (.int k n)])⟩]) else none
        | _, _, _ => none
      | _, _, _ => none
    | _, _ => none
  | .extract t i => match ev t with
    | .tup vs => if i < vs.length then ret (nth vs i) else none
    | _ => none
  | .makeSlice t l k => match c.ty t, ev l, ev k with
    | some ⟨_, _, .slice e, _⟩, .v (.int _ n), .v (.int _ m) => match c.ty e, hp (slotName d) with
      | some te, none => if 0 < te.size ∧ 0 < te.bytes ∧ te.zero.length = te.size then some (0 ≤ n ∧ n ≤ m ∧ te.bytes * m ≤ 140737488355328, .own (slotName d) 0, [⟨slotName d, 0, .row true e te.size (List.replicate n.toNat (te.zero.map .v))⟩]) else none
      | _, _ => none
    | _, _, _ => none
  | .buildSlice t len parts => match c.ty t, hp (slotName d) with
    | some ⟨_, _, .slice e, _⟩, none => match c.ty e with
      | some te => if te.zero.length = te.size ∧ 0 < te.size ∧ len * te.size ≤ 16777216 then match buildRow hp te len 0 (parts.toList.map fun p => (p.1, ev p.2)) with
        | some (xs, us) => some (True, .own (slotName d) 0, us ++ [⟨slotName d, 0, .row true e te.size xs⟩])
        | none => none
        else none
      | none => none
    | _, _ => none
  | .call k => match k.callee with
    | .value f => match ev f with
      | .fn f first cap => match c.sum f with
        | some s => evCall s hp d (first ++ k.args.toList.map (ev) ++ cap)
        | none => none
      | _ => none
    | .builtin b => evBuiltin c hp d b k.argTypes.toList (k.args.toList.map (ev))
    | _ => none
  | .range t x => match c.ty t, ev x, hp (slotName d) with
    | some ⟨_, _, .str, _⟩, .v (.string s), none => some (True, .ptr (slotName d) 0 0, [⟨slotName d, 0, .str s 0⟩])
    | _, _, _ => none
  | _ => none
where
  /-- All elements are given, in order. -/
  buildRow (hp : HpF) (te : TI) : Nat → Nat → List (Nat × SVal) → Option (List (List Cell) × List Ent)
    | 0, _, [] => some ([], [])
    | n + 1, i, (j, x) :: r => if i = j ∧ (cellsOf x).length = te.size ∧ 0 < te.size ∧ allSolid (cellsOf x) = true then match shutCells hp (cellsOf x), buildRow hp te n (i + 1) r with
      | some (l, us), some (xs, vs) => some (l :: xs, us ++ vs)
      | _, _ => none
      else none
    | _, _, _ => none
end Go.Sx

namespace Go.Sx
abbrev Rho := Nat → Nat → Option Value
abbrev Foot := Nat → Nat → Prop

mutual
def D (ρ : Rho) : SVal → Value → Prop
  | .v x, y => y = x
  | .ptr b u off, y => ∃ a, ρ b u = some (.pointer (some a)) ∧ y = .pointer (some (a.add off))
  | .own b u, y => ρ b u = some y
  | .elt b u sz i off, y => ∃ a n c, ρ b u = some (.slice (some a) n c) ∧ y = .pointer (some (a.add (i * sz + off)))
  | .agg cs, y => ∃ arr, y = .agg arr ∧ DL ρ cs arr.toList
  | .tup vs, y => ∃ arr, y = .tuple arr ∧ DL ρ vs arr.toList
  | .fn f a c, y => ∃ fa ca, y = .func (.func f) fa ca ∧ DL ρ a fa.toList ∧ DL ρ c ca.toList
  | .ifc, y => ∃ t x, y = .iface t x
  | .undef, _ => True
def DL (ρ : Rho) : List SVal → List Value → Prop
  | [], [] => True
  | x :: xs, y :: ys => D ρ x y ∧ DL ρ xs ys
  | _, _ => False
end
def Rho.le (ρ ρ' : Rho) : Prop := ∀ b u x, ρ b u = some x → ρ' b u = some x

mutual
theorem D.mono {ρ ρ' : Rho} (h : ρ.le ρ') : ∀ (x : SVal) (y : Value), D ρ x y → D ρ' x y
  | .v x, y, hd => hd
  | .ptr b u off, y, ⟨a, h1, h2⟩ => ⟨a, h _ _ _ h1, h2⟩
  | .own b u, y, hd => h _ _ _ hd
  | .elt b u sz i off, y, ⟨a, n, c, h1, h2⟩ => ⟨a, n, c, h _ _ _ h1, h2⟩
  | .agg cs, y, ⟨arr, h1, h2⟩ => ⟨arr, h1, DL.mono h cs _ h2⟩
  | .tup cs, y, ⟨arr, h1, h2⟩ => ⟨arr, h1, DL.mono h cs _ h2⟩
  | .fn f a c, y, ⟨fa, ca, h1, h2, h3⟩ => ⟨fa, ca, h1, DL.mono h a _ h2, DL.mono h c _ h3⟩
  | .ifc, y, hd => hd
  | .undef, y, hd => trivial
theorem DL.mono {ρ ρ' : Rho} (h : ρ.le ρ') : ∀ (xs : List SVal) (ys : List Value), DL ρ xs ys → DL ρ' xs ys
  | [], [], _ => trivial
  | x :: xs, y :: ys, ⟨h1, h2⟩ => ⟨D.mono h x y h1, DL.mono h xs ys h2⟩
  | [], _ :: _, hd => hd.elim
  | _ :: _, [], hd => hd.elim
end
theorem DL.length {ρ : Rho} : ∀ {xs : List SVal} {ys : List Value}, DL ρ xs ys → xs.length = ys.length
  | [], [], _ => rfl
  | _ :: _, _ :: _, ⟨_, h⟩ => by simp [DL.length h]
  | [], _ :: _, h => h.elim
  | _ :: _, [], h => h.elim

theorem DL.append {ρ : Rho} : ∀ {xs : List SVal} {ys : List Value} {xs' : List SVal} {ys' : List Value}, DL ρ xs ys → DL ρ xs' ys' → DL ρ (xs ++ xs') (ys ++ ys')
  | [], [], _, _, _, h' => h'
  | _ :: _, _ :: _, _, _, ⟨h1, h⟩, h' => ⟨h1, DL.append h h'⟩
  | [], _ :: _, _, _, h, _ => h.elim
  | _ :: _, [], _, _, h, _ => h.elim

theorem DL.drop {ρ : Rho} : ∀ {xs : List SVal} {ys : List Value} (n : Nat), DL ρ xs ys → DL ρ (xs.drop n) (ys.drop n)
  | _, _, 0, h => h
  | [], [], _ + 1, h => h
  | _ :: _, _ :: _, n + 1, ⟨_, h⟩ => DL.drop n h
  | [], _ :: _, _ + 1, h => h.elim
  | _ :: _, [], _ + 1, h => h.elim

theorem DL.take {ρ : Rho} : ∀ {xs : List SVal} {ys : List Value} (n : Nat), DL ρ xs ys → DL ρ (xs.take n) (ys.take n)
  | [], _, 0, _ => trivial
  | _ :: _, _, 0, _ => trivial
  | [], [], _ + 1, h => h
  | _ :: _, _ :: _, n + 1, ⟨h1, h⟩ => ⟨h1, DL.take n h⟩
  | [], _ :: _, _ + 1, h => h.elim
  | _ :: _, [], _ + 1, h => h.elim

theorem DL.vals {ρ : Rho} : ∀ (l : List Value), DL ρ (l.map .v) l
  | [] => trivial
  | _ :: r => ⟨rfl, DL.vals r⟩

theorem DL.of_vals {ρ : Rho} : ∀ {l : List Value} {ys : List Value}, DL ρ (l.map .v) ys → ys = l
  | [], [], _ => rfl
  | _ :: _, _ :: _, ⟨h1, h⟩ => by rw [DL.of_vals h]; exact congrArg (· :: _) h1
  | [], _ :: _, h => h.elim
  | _ :: _, [], h => h.elim

theorem DL.nth {ρ : Rho} : ∀ {xs : List SVal} {ys : List Value} (i : Nat), DL ρ xs ys → i < xs.length → ∃ y, ys[i]? = some y ∧ D ρ (nth xs i) y
  | _ :: _, y :: _, 0, ⟨h, _⟩, _ => ⟨y, rfl, h⟩
  | _ :: _, _ :: _, i + 1, ⟨_, h⟩, hi => by
    obtain ⟨y, h1, h2⟩ := DL.nth i h (by simpa using hi)
    exact ⟨y, by simpa using h1, h2⟩
  | [], _, _, _, hi => by simp at hi
  | _ :: _, [], _, h, _ => h.elim

theorem DL.splice {ρ : Rho} {xs xs' : List SVal} {ys ys' : List Value} (off : Nat) (h : DL ρ xs ys) (h' : DL ρ xs' ys') : DL ρ (splice xs off xs') (splice ys off ys') := by
  unfold Sx.splice
  rw [h'.length]
  exact (h.take off).append (h'.append (h.drop _))

def ReadS (RO : Nat → Prop) (w : World) (v : Value) (sz n : Nat) (vals : List Value) : Prop :=
  ∃ a c, v = .slice a n c ∧ vals.length = n * sz ∧ (n ≤ 9223372036854775807 ∧ n ≤ c) ∧ (0 < n → ∃ ad, a = some ad ∧ (0 < sz → RO ad.block) ∧ ∀ j x, vals[j]? = some x → w.cell? (ad.add j) = some x)

def CellIs (RO : Nat → Prop) (w : World) : Cell → Value → Prop
  | .v x, y => y = x ∧ x.oneCell' = true
  | .s _ sz xs, y => ReadS RO w y sz xs.length xs.flatten ∧ (∀ l ∈ xs, l.length = sz) ∧ ∀ x ∈ xs.flatten, x.oneCell' = true

def CellsAre (RO : Nat → Prop) (w : World) : List Cell → List Value → Prop
  | [], [] => True
  | x :: xs, y :: ys => CellIs RO w x y ∧ CellsAre RO w xs ys
  | _, _ => False

def holds (ρ : Rho) (val : Value) (own RO : Nat → Prop) (w : World) : SObj → Prop
  | .cells cs => ∃ g arr ty, val = .pointer (some ⟨g, 0, none⟩) ∧ w.heap[g]? = some (.cells arr ty (0, 0)) ∧ DL ρ cs arr.toList ∧ ∀ k, own k ↔ k = g
  | .row true et sz xs => ∃ vals, w.ownsRow 0 et sz val xs.length vals ∧ CellsAre RO w xs.flatten vals ∧ (∀ k, own k ↔ val.ownBlock = some k) ∧ ∀ l ∈ xs, l.length = sz
  | .row false _ sz xs => ∃ vals, ReadS RO w val sz xs.length vals ∧ CellsAre RO w xs.flatten vals ∧ (∀ k, ¬ own k) ∧ ∀ l ∈ xs, l.length = sz
  | .str s pos => ∃ g, val = .pointer (some ⟨g, 0, none⟩) ∧ w.heap[g]? = some (.stringIter s pos) ∧ ∀ k, own k ↔ k = g

theorem holds.one {ρ : Rho} {val : Value} {own RO : Nat → Prop} {w : World} : ∀ {o : SObj}, holds ρ val own RO w o → val.oneCell' = true
  | .cells cs, ⟨g, arr, ty, h1, _⟩ => by rw [h1]; rfl
  | .row true et sz xs, ⟨vals, h1, _⟩ => by
    rcases h1.2 with ⟨h, _⟩ | ⟨g, cap, cur, h, _⟩ <;> (rw [h]; rfl)
  | .row false et sz xs, ⟨vals, ⟨a, c, h, _⟩, _⟩ => by rw [h]; rfl
  | .str s pos, ⟨g, h1, _⟩ => by rw [h1]; rfl

def nextOf (hp : HpF) (b : Nat) : Nat := match hp b with
  | some e => e.ver + 1
  | none => 0

structure HRel (Fr RO : Nat → Prop) (ρ : Rho) (own : Foot) (hp : HpF) (w : World) : Prop where
  ent : ∀ b e, hp b = some e → e.name = b ∧ ∃ x, ρ b e.ver = some x ∧ holds ρ x (own b) RO w e.obj
  non : ∀ b, hp b = none → ∀ k, ¬ own b k
  dom : ∀ b u, ρ b u ≠ none → u < nextOf hp b
  one : ∀ b u x, ρ b u = some x → x.oneCell' = true
  disj : ∀ b b' k, own b k → own b' k → b = b'
  ro : ∀ b k, own b k → ¬ RO k ∧ ¬ Fr k ∧ k < w.heap.size
  rofr : ∀ k, RO k → ¬ Fr k ∧ k < w.heap.size
  fr : ∀ k, Fr k → k < w.heap.size

structure Adv (S : Nat → Prop) (w w' : World) : Prop where
  os : w'.os = w.os
  tape : w'.tape = w.tape
  output : w'.output = w.output
  size : w.heap.size ≤ w'.heap.size
  block : ∀ k, S k → w'.heap[k]? = w.heap[k]?

theorem Adv.refl (S : Nat → Prop) (w : World) : Adv S w w := ⟨rfl, rfl, rfl, Nat.le_refl _, fun _ _ => rfl⟩
theorem Adv.trans {S : Nat → Prop} {w w1 w2 : World} (h : Adv S w w1) (h' : Adv S w1 w2) : Adv S w w2 :=
  ⟨h'.os.trans h.os, h'.tape.trans h.tape, h'.output.trans h.output, Nat.le_trans h.size h'.size, fun k hk => (h'.block k hk).trans (h.block k hk)⟩
theorem Adv.mono {S S' : Nat → Prop} {w w' : World} (h : Adv S w w') (hs : ∀ k, S' k → S k) : Adv S' w w' :=
  ⟨h.os, h.tape, h.output, h.size, fun k hk => h.block k (hs k hk)⟩
theorem Adv.drewN (S : Nat → Prop) (w : World) (n : Nat) : Adv S w { w with drawn := w.drawn + n } := ⟨rfl, rfl, rfl, Nat.le_refl _, fun _ _ => rfl⟩

theorem cell_of_block {w w' : World} {a : Addr} (h : w'.heap[a.block]? = w.heap[a.block]?) : w'.cell? a = w.cell? a := by simp [World.cell?, h]

theorem Addr_add_block (a : Addr) (n : Nat) : (a.add n).block = a.block := by unfold Addr.add; split <;> rfl

theorem ReadS.adv {RO RO' : Nat → Prop} {w w' : World} {v : Value} {sz n : Nat} {vals : List Value} (h : ReadS RO w v sz n vals) (hro : ∀ k, RO k → RO' k)
    (hw : ∀ k, RO k → w'.heap[k]? = w.heap[k]?) : ReadS RO' w' v sz n vals := by
  obtain ⟨a, c, h1, h2, h3, h4⟩ := h
  refine ⟨a, c, h1, h2, h3, fun hn => ?_⟩
  obtain ⟨ad, e1, e2, e3⟩ := h4 hn
  refine ⟨ad, e1, fun hs => hro _ (e2 hs), fun j x hj => ?_⟩
  by_cases hs : 0 < sz
  · have hb : w'.heap[(ad.add j).block]? = w.heap[(ad.add j).block]? := by rw [Addr_add_block]; exact hw _ (e2 hs)
    exact (cell_of_block hb).trans (e3 j x hj)
  · have : vals.length = 0 := by rw [h2]; have : sz = 0 := by omega
                                 simp [this]
    have := List.eq_nil_of_length_eq_zero this
    subst this
    simp at hj

theorem CellIs.adv {RO RO' : Nat → Prop} {w w' : World} {c : Cell} {y : Value} (h : CellIs RO w c y) (hro : ∀ k, RO k → RO' k)
    (hw : ∀ k, RO k → w'.heap[k]? = w.heap[k]?) : CellIs RO' w' c y := by
  cases c with
  | v x => exact h
  | s et sz xs => exact ⟨ReadS.adv h.1 hro hw, h.2⟩

theorem CellsAre.adv {RO RO' : Nat → Prop} {w w' : World} (hro : ∀ k, RO k → RO' k) (hw : ∀ k, RO k → w'.heap[k]? = w.heap[k]?) :
    ∀ {cs : List Cell} {ys : List Value}, CellsAre RO w cs ys → CellsAre RO' w' cs ys
  | [], [], _ => trivial
  | _ :: _, _ :: _, ⟨h1, h⟩ => ⟨h1.adv hro hw, CellsAre.adv hro hw h⟩
  | [], _ :: _, h => h.elim
  | _ :: _, [], h => h.elim

theorem ReadS.one {RO : Nat → Prop} {w : World} {v : Value} {sz n : Nat} {vals : List Value} (h : ReadS RO w v sz n vals) : v.oneCell' = true := by
  obtain ⟨a, c, rfl, _⟩ := h; rfl
theorem CellsAre.one {RO : Nat → Prop} {w : World} : ∀ {cs : List Cell} {ys : List Value}, CellsAre RO w cs ys → ∀ u ∈ ys, u.oneCell' = true
  | [], [], _ => by simp
  | .v x :: cs, y :: ys, ⟨h1, h⟩ => by
    intro u hu
    rcases List.mem_cons.1 hu with rfl | hu
    · rw [h1.1]; exact h1.2
    · exact CellsAre.one h u hu
  | .s _ _ _ :: cs, y :: ys, ⟨h1, h⟩ => by
    intro u hu
    rcases List.mem_cons.1 hu with rfl | hu
    · exact h1.1.one
    · exact CellsAre.one h u hu
  | [], _ :: _, h => h.elim
  | .v _ :: _, [], h => h.elim
  | .s _ _ _ :: _, [], h => h.elim

theorem CellsAre.length {RO : Nat → Prop} {w : World} : ∀ {cs : List Cell} {ys : List Value}, CellsAre RO w cs ys → cs.length = ys.length
  | [], [], _ => rfl
  | _ :: _, _ :: _, ⟨_, h⟩ => by simp [CellsAre.length h]
  | [], _ :: _, h => h.elim
  | _ :: _, [], h => h.elim
theorem CellsAre.append {RO : Nat → Prop} {w : World} : ∀ {xs : List Cell} {ys : List Value} {xs' : List Cell} {ys' : List Value}, CellsAre RO w xs ys → CellsAre RO w xs' ys' → CellsAre RO w (xs ++ xs') (ys ++ ys')
  | [], [], _, _, _, h' => h'
  | _ :: _, _ :: _, _, _, ⟨h1, h⟩, h' => ⟨h1, CellsAre.append h h'⟩
  | [], _ :: _, _, _, h, _ => h.elim
  | _ :: _, [], _, _, h, _ => h.elim
theorem CellsAre.drop {RO : Nat → Prop} {w : World} : ∀ {xs : List Cell} {ys : List Value} (n : Nat), CellsAre RO w xs ys → CellsAre RO w (xs.drop n) (ys.drop n)
  | _, _, 0, h => h
  | [], [], _ + 1, h => h
  | _ :: _, _ :: _, n + 1, ⟨_, h⟩ => CellsAre.drop n h
  | [], _ :: _, _ + 1, h => h.elim
  | _ :: _, [], _ + 1, h => h.elim
theorem CellsAre.take {RO : Nat → Prop} {w : World} : ∀ {xs : List Cell} {ys : List Value} (n : Nat), CellsAre RO w xs ys → CellsAre RO w (xs.take n) (ys.take n)
  | [], _, 0, _ => trivial
  | _ :: _, _, 0, _ => trivial
  | [], [], _ + 1, h => h
  | _ :: _, _ :: _, n + 1, ⟨h1, h⟩ => ⟨h1, CellsAre.take n h⟩
  | [], _ :: _, _ + 1, h => h.elim
  | _ :: _, [], _ + 1, h => h.elim

theorem holds.adv {ρ ρ' : Rho} {val : Value} {own RO RO' : Nat → Prop} {w w' : World} (hρ : ρ.le ρ') (hro : ∀ k, RO k → RO' k) (hw : ∀ k, RO k → w'.heap[k]? = w.heap[k]?)
    (hown : ∀ k, own k → w'.heap[k]? = w.heap[k]?) : ∀ {o : SObj}, holds ρ val own RO w o → holds ρ' val own RO' w' o
  | .cells cs, ⟨g, arr, ty, h1, h2, h3, h4⟩ => ⟨g, arr, ty, h1, (hown g ((h4 g).2 rfl)).trans h2, h3.mono hρ, h4⟩
  | .row true et sz xs, ⟨vals, h1, h2, h3⟩ => by
    refine ⟨vals, ⟨h1.1, ?_⟩, h2.adv hro hw, h3⟩
    rcases h1.2 with h | ⟨g, cap, cur, e1, e2, e3, e4⟩
    · exact .inl h
    · exact .inr ⟨g, cap, cur, e1, e2, (hown g ((h3.1 g).2 (by rw [e1]; rfl))).trans e3, e4⟩
  | .row false et sz xs, ⟨vals, h1, h2, h3⟩ => ⟨vals, h1.adv hro hw, h2.adv hro hw, h3⟩
  | .str s pos, ⟨g, h1, h2, h3⟩ => ⟨g, h1, (hown g ((h3 g).2 rfl)).trans h2, h3⟩

theorem Rho.le_refl (ρ : Rho) : ρ.le ρ := fun _ _ _ h => h
theorem Rho.le_trans {ρ ρ' ρ'' : Rho} (h : ρ.le ρ') (h' : ρ'.le ρ'') : ρ.le ρ'' := fun b u x hx => h' b u x (h b u x hx)

theorem findE_put (hp : Hp) (e : Ent) (b : Nat) : findE (putE hp e) b = if e.name = b then some e else findE hp b := by
  induction hp with
  | nil => simp [putE, findE]
  | cons x r ih =>
    simp only [putE]
    split
    · rename_i h
      simp only [findE]
      by_cases hb : e.name = b
      · simp [hb]
      · simp [hb, show x.name ≠ b by omega]
    · rename_i h
      split
      · simp [findE]
      · simp only [findE, ih]
        by_cases hx : x.name = b
        · simp [hx, show e.name ≠ b by omega]
        · simp [hx]

def putsF (hp : HpF) : List Ent → HpF
  | [] => hp
  | e :: r => putsF (fun b => if e.name = b then some e else hp b) r

theorem findE_puts : ∀ (us : List Ent) (hp : Hp), findE (putsE hp us) = putsF (findE hp) us
  | [], hp => rfl
  | e :: r, hp => by
    simp only [putsE, putsF]
    rw [findE_puts r]
    congr 1
    funext b
    exact findE_put hp e b

theorem objOf_some {hp : HpF} {b u : Nat} {o : SObj} (h : objOf hp b u = some o) : ∃ e, hp b = some e ∧ e.ver = u ∧ e.obj = o := by
  unfold objOf at h
  split at h
  · rename_i e he
    split at h
    · rename_i hv
      exact ⟨e, he, hv, by simpa using h⟩
    · simp at h
  · simp at h

theorem HRel.obj {Fr RO : Nat → Prop} {ρ : Rho} {own : Foot} {hp : HpF} {w : World} (h : HRel Fr RO ρ own hp w) {b u : Nat} {o : SObj} (ho : objOf hp b u = some o) :
    ∃ x, ρ b u = some x ∧ holds ρ x (own b) RO w o := by
  obtain ⟨e, he, rfl, rfl⟩ := objOf_some ho
  exact (h.ent b e he).2

theorem HRel.adv {Fr RO : Nat → Prop} {ρ : Rho} {own : Foot} {hp : HpF} {w w' : World} (h : HRel Fr RO ρ own hp w)
    (ha : Adv (fun k => k < w.heap.size) w w') : HRel Fr RO ρ own hp w' where
  ent b e he := by
    obtain ⟨h1, x, h2, h3⟩ := h.ent b e he
    exact ⟨h1, x, h2, h3.adv (Rho.le_refl _) (fun _ hk => hk) (fun k hk => ha.block k (h.rofr k hk).2) (fun k hk => ha.block k (h.ro b k hk).2.2)⟩
  non := h.non
  dom := h.dom
  one := h.one
  disj := h.disj
  ro b k hk := ⟨(h.ro b k hk).1, (h.ro b k hk).2.1, Nat.lt_of_lt_of_le (h.ro b k hk).2.2 ha.size⟩
  rofr k hk := ⟨(h.rofr k hk).1, Nat.lt_of_lt_of_le (h.rofr k hk).2 ha.size⟩
  fr k hk := Nat.lt_of_lt_of_le (h.fr k hk) ha.size

def Rho.set (ρ : Rho) (b u : Nat) (x : Value) : Rho := fun b' u' => if b' = b ∧ u' = u then some x else ρ b' u'

theorem Rho.le_set {ρ : Rho} {b u : Nat} {x : Value} (h : ρ b u = none ∨ ρ b u = some x) : ρ.le (ρ.set b u x) := by
  intro b' u' y hy
  unfold Rho.set
  split
  · rename_i hh
    obtain ⟨rfl, rfl⟩ := hh
    rcases h with h | h
    · rw [h] at hy; cases hy
    · rw [h] at hy; exact hy
  · exact hy

theorem HRel.upd {Fr RO : Nat → Prop} {ρ : Rho} {own : Foot} {hp : HpF} {w w' : World} (h : HRel Fr RO ρ own hp w) (b u : Nat) (o : SObj) (x : Value) (own' : Nat → Prop)
    (hu : ρ b u = some x ∨ u = nextOf hp b) (hver : ∀ e, hp b = some e → e.ver ≤ u)
    (ha : Adv (fun k => k < w.heap.size ∧ ¬ own b k) w w')
    (ho : holds (ρ.set b u x) x own' RO w' o)
    (hown : ∀ k, own' k → (own b k ∨ w.heap.size ≤ k) ∧ k < w'.heap.size) :
    HRel Fr RO (ρ.set b u x) (fun b' => if b' = b then own' else own b') (fun b' => if b = b' then some ⟨b, u, o⟩ else hp b') w' ∧ ρ.le (ρ.set b u x) := by
  have hle : ρ.le (ρ.set b u x) := Rho.le_set (by
    rcases hu with hu | hu
    · exact .inr hu
    · cases hx : ρ b u with
      | none => exact .inl rfl
      | some y => exact absurd (h.dom b u (by simp [hx])) (by omega))
  refine ⟨⟨?_, ?_, ?_, ?_, ?_, ?_, ?_, ?_⟩, hle⟩
  · intro b' e he
    by_cases hb : b = b'
    · subst hb
      simp only [if_true] at he
      cases he
      exact ⟨rfl, x, by simp [Rho.set], by simpa using ho⟩
    · simp only [if_neg hb] at he
      obtain ⟨h1, y, h2, h3⟩ := h.ent b' e he
      refine ⟨h1, y, hle _ _ _ h2, ?_⟩
      rw [if_neg (fun e => hb e.symm)]
      refine h3.adv hle (fun _ hk => hk) (fun k hk => ha.block k ⟨(h.rofr k hk).2, fun hc => (h.ro b k hc).1 hk⟩) (fun k hk => ha.block k ⟨(h.ro b' k hk).2.2, fun hc => hb (h.disj _ _ _ hc hk)⟩)
  · intro b' hb' k
    by_cases hb : b = b'
    · simp [hb] at hb'
    · simp only [if_neg hb] at hb'
      rw [if_neg (fun e => hb e.symm)]
      exact h.non b' hb' k
  · intro b' u' hne
    unfold nextOf
    by_cases hb : b = b'
    · subst hb
      simp only [if_true]
      unfold Rho.set at hne
      by_cases hu' : u' = u
      · omega
      · rw [if_neg (by simp [hu'])] at hne
        have := h.dom b u' hne
        unfold nextOf at this
        cases hbe : hp b with
        | none => rw [hbe] at this; simp only at this; omega
        | some e => rw [hbe] at this; simp only at this; have := hver e hbe; omega
    · simp only [if_neg hb]
      have hne' : ρ b' u' ≠ none := by
        unfold Rho.set at hne
        rwa [if_neg (fun e => hb e.1.symm)] at hne
      have := h.dom b' u' hne'
      unfold nextOf at this
      exact this
  · intro b' u' y hy
    unfold Rho.set at hy
    split at hy
    · cases hy
      exact ho.one
    · exact h.one b' u' y hy
  · intro b1 b2 k h1 h2
    by_cases e1 : b1 = b
    · by_cases e2 : b2 = b
      · rw [e1, e2]
      · simp only [e1, if_true] at h1
        simp only [if_neg e2] at h2
        rcases (hown k h1).1 with hc | hc
        · exact absurd (h.disj _ _ _ hc h2) (fun e => e2 e.symm)
        · exact absurd (h.ro b2 k h2).2.2 (by omega)
    · simp only [if_neg e1] at h1
      by_cases e2 : b2 = b
      · simp only [e2, if_true] at h2
        rcases (hown k h2).1 with hc | hc
        · exact absurd (h.disj _ _ _ h1 hc) (fun e => e1 e)
        · exact absurd (h.ro b1 k h1).2.2 (by omega)
      · simp only [if_neg e2] at h2
        exact h.disj _ _ _ h1 h2
  · intro b' k hk
    by_cases e1 : b' = b
    · simp only [e1, if_true] at hk
      obtain ⟨hc, hl⟩ := hown k hk
      refine ⟨fun hr => ?_, fun hf => ?_, hl⟩
      · rcases hc with hc | hc
        · exact (h.ro b k hc).1 hr
        · have := (h.rofr k hr).2; omega
      · rcases hc with hc | hc
        · exact (h.ro b k hc).2.1 hf
        · have := h.fr k hf; omega
    · simp only [if_neg e1] at hk
      exact ⟨(h.ro b' k hk).1, (h.ro b' k hk).2.1, Nat.lt_of_lt_of_le (h.ro b' k hk).2.2 ha.size⟩
  · intro k hk
    exact ⟨(h.rofr k hk).1, Nat.lt_of_lt_of_le (h.rofr k hk).2 ha.size⟩
  · intro k hk
    exact Nat.lt_of_lt_of_le (h.fr k hk) ha.size

theorem HRel.freeze {Fr RO : Nat → Prop} {ρ : Rho} {own : Foot} {hp : HpF} {w : World} (h : HRel Fr RO ρ own hp w) (b u et sz : Nat) (rw' : Bool) (xs : List (List Cell))
    (he : hp b = some ⟨b, u, .row rw' et sz xs⟩) :
    ∃ RO', (∀ k, RO k → RO' k) ∧ (∀ k, RO' k → RO k ∨ own b k) ∧ HRel Fr RO' ρ (fun b' => if b' = b then fun _ => False else own b') (fun b' => if b = b' then some ⟨b, u, .row false et sz xs⟩ else hp b') w := by
  obtain ⟨_, x, hx, hh⟩ := h.ent b _ he
  simp only at hx hh
  refine ⟨fun k => RO k ∨ own b k, fun k hk => .inl hk, fun k hk => hk, ?_, ?_, ?_, h.one, ?_, ?_, ?_, h.fr⟩
  · intro b' e hb'
    by_cases hb : b = b'
    · subst hb
      simp only [if_true] at hb'
      cases hb'
      refine ⟨rfl, x, hx, ?_⟩
      simp only [if_true]
      cases rw' with
      | false =>
        obtain ⟨vals, h1, h2, _, h4⟩ := hh
        exact ⟨vals, h1.adv (fun _ hk => .inl hk) (fun _ _ => rfl), h2.adv (fun _ hk => .inl hk) (fun _ _ => rfl), fun _ hk => hk, h4⟩
      | true =>
        obtain ⟨vals, h1, h2, h3, h4⟩ := hh
        refine ⟨vals, ?_, h2.adv (fun _ hk => .inl hk) (fun _ _ => rfl), fun _ hk => hk, h4⟩
        rcases h1.2 with ⟨rfl, hn⟩ | ⟨g, cap, cur, rfl, _, hg, hnc, hcm, hcs, ht⟩
        · refine ⟨none, 0, by rw [hn], h1.1, ⟨by omega, by omega⟩, fun hp => by omega⟩
        · refine ⟨_, cap, rfl, h1.1, ⟨by simp only [maxLen] at hcm; omega, hnc⟩, fun _ => ⟨_, rfl, fun _ => .inr ((h3 g).2 rfl), fun j y hj => ?_⟩⟩
          exact World.ownsRow.cells (base := 0) (e := et) (size := sz) ⟨h1.1, .inr ⟨g, cap, cur, rfl, Nat.zero_le _, hg, hnc, hcm, hcs, ht⟩⟩ rfl j y hj
    · simp only [if_neg hb] at hb'
      obtain ⟨h1, y, h2, h3⟩ := h.ent b' e hb'
      refine ⟨h1, y, h2, ?_⟩
      rw [if_neg (fun e => hb e.symm)]
      exact h3.adv (Rho.le_refl _) (fun _ hk => .inl hk) (fun _ _ => rfl) (fun _ _ => rfl)
  · intro b' hb' k
    by_cases hb : b = b'
    · simp [hb] at hb'
    · simp only [if_neg hb] at hb'
      rw [if_neg (fun e => hb e.symm)]
      exact h.non b' hb' k
  · intro b' u' hne
    have := h.dom b' u' hne
    unfold nextOf at this ⊢
    by_cases hb : b = b'
    · subst hb
      rw [he] at this
      simpa using this
    · simpa [if_neg hb] using this
  · intro b1 b2 k h1 h2
    by_cases e1 : b1 = b
    · simp [e1] at h1
    · by_cases e2 : b2 = b
      · simp [e2] at h2
      · simp only [if_neg e1] at h1
        simp only [if_neg e2] at h2
        exact h.disj _ _ _ h1 h2
  · intro b' k hk
    by_cases e1 : b' = b
    · simp [e1] at hk
    · simp only [if_neg e1] at hk
      obtain ⟨r1, r2, r3⟩ := h.ro b' k hk
      refine ⟨fun hc => ?_, r2, r3⟩
      rcases hc with hc | hc
      · exact r1 hc
      · exact e1 (h.disj _ _ _ hk hc)
  · intro k hk
    rcases hk with hk | hk
    · exact h.rofr k hk
    · exact ⟨(h.ro b k hk).2.1, (h.ro b k hk).2.2⟩
end Go.Sx

namespace Go.Sx
theorem ask_drawn {α : Type} : ∀ (k : Ask α) (w : World), w.drawn ≤ (w.ask k).2.drawn
  | .done a, w => Nat.le_refl _
  | .ask what range k, w => by
    simp only [World.ask]
    split
    · exact ask_drawn _ w
    · exact Nat.le_trans (Nat.le_succ _) (ask_drawn _ { w with drawn := w.drawn + 1 })
theorem sys_drawn (w : World) (c : Sys) : w.drawn ≤ (w.sys c).2.drawn := by
  have h := ask_drawn (Kernel.perform c w.os) w
  unfold World.sys
  split
  · exact Nat.le_refl _
  · rename_i hr
    rw [hr] at h
    exact h
theorem viewStore_drawn {p : Program} {w w' : World} {at_ k : Addr} {u : TypeId} {v : Value} {at2 : Bool} {l : List Addr} (h : w.viewStore p at_ u k v at2 = .ok (w', l)) : w'.drawn = w.drawn := by
  unfold World.viewStore at h
  simp only [bind, Except.bind, pure, Except.pure] at h
  repeat' split at h
  all_goals first
    | (cases h; done)
    | (simp only [Except.ok.injEq, Prod.mk.injEq] at h; rw [← h.1])
theorem farStore_drawn {p : Program} {w w' : World} {a : Addr} {v : Value} {at2 : Bool} {l : List Addr} (h : w.farStore p a v at2 = .ok (w', l)) : w'.drawn = w.drawn := by
  unfold World.farStore at h
  split at h
  · split at h
    · rename_i r hr
      cases h
      exact viewStore_drawn hr
    · cases h
  · cases h
def resW {α : Type} : Result α → World
  | .ok _ w => w
  | .halt _ w => w
theorem run_drawn' {α : Type} (p : Program) : ∀ (s : Sem α) (w : World), w.drawn ≤ (resW (s.run p w)).drawn
  | .pure a, w => Nat.le_refl _
  | .load m a k, w => by
    simp only [Sem.run]
    split
    · exact run_drawn' p _ w
    · split
      · exact run_drawn' p _ w
      · exact Nat.le_refl _
  | .store m a v k, w => by
    cases v
    all_goals first
      | exact Nat.le_refl _
      | (simp only [Sem.run]
         split
         · split
           · exact Nat.le_refl _
           · exact Nat.le_trans (Nat.le_of_eq (by simp)) (run_drawn' p k _)
         · split
           · rename_i hf
             rw [← farStore_drawn hf]
             exact run_drawn' p k _
           · exact Nat.le_refl _)
  | .new o k, w => by
    simp only [Sem.run]
    exact run_drawn' p _ { w with heap := w.heap.push o }
  | .shape r k, w => by simp only [Sem.run]; exact run_drawn' p _ w
  | .freeze a n k, w => by
    simp only [Sem.run]
    refine Nat.le_trans (Nat.le_of_eq ?_) (run_drawn' p k _)
    unfold World.freeze
    split <;> rfl
  | .frozen a k, w => by simp only [Sem.run]; exact run_drawn' p _ w
  | .getObj r k, w => by
    simp only [Sem.run]
    split
    · exact Nat.le_refl _
    · exact run_drawn' p _ w
    · exact Nat.le_refl _
  | .setObj r o k, w => by
    simp only [Sem.run]
    split
    · exact Nat.le_refl _
    · exact run_drawn' p _ { w with heap := w.heap.setIfInBounds r o }
    · exact Nat.le_refl _
  | .choose q k, w => by
    simp only [Sem.run]
    split
    · exact run_drawn' p _ w
    · exact Nat.le_trans (Nat.le_succ _) (run_drawn' p _ { w with drawn := w.drawn + 1 })
  | .sys c k, w => by
    simp only [Sem.run]
    exact Nat.le_trans (sys_drawn w c) (run_drawn' p _ _)
  | .program k, w => by simp only [Sem.run]; exact run_drawn' p _ w
  | .mark _ k, w => by simp only [Sem.run]; exact run_drawn' p _ w
  | .halt h, w => Nat.le_refl _
theorem run_drawn {α : Type} {p : Program} {s : Sem α} {w w' : World} {x : α} (h : s.run p w = .ok x w') : w.drawn ≤ w'.drawn := by
  have := run_drawn' p s w
  rw [h] at this
  exact this
end Go.Sx

namespace Go.Sx
def tdOf (P : Program) (t : TypeId) : Option TD := match P.underlying t with
  | some (.int k) => some (.int k)
  | some .bool => some .bool
  | some .string => some .str
  | some (.pointer e) => some (.ptr e)
  | some (.slice e) => some (.slice e)
  | some (.struct fs) => if fs.toList.all (fun f => (P.info? f.type).isSome) then some (.struct (fs.toList.map fun f => (f.offset, f.type))) else none
  | some (.array n e) => some (.arr n e)
  | some (.interface _) => some .iface
  | some _ => some .other
  | none => none

def tiOf (P : Program) (t : TypeId) : Option TI := match P.info? t, tdOf P t with
  | some i, some d => match i.zero with
    | some z => if z.cells.toList.all Value.oneCell' then some ⟨i.size, i.bytes, d, z.cells.toList⟩ else none
    | none => none
  | _, _ => none

structure TyFacts (P : Program) (t : TypeId) (i : TI) where
  info : TypeInfo
  z : Value
  hi : P.info? t = some info
  hz : info.zero = some z
  size : info.size = i.size
  bytes : info.bytes = i.bytes
  zero : z.cells.toList = i.zero
  one : ∀ x ∈ i.zero, x.oneCell' = true
  td : tdOf P t = some i.td

theorem tyFacts {P : Program} {t : TypeId} {i : TI} (h : tiOf P t = some i) : Nonempty (TyFacts P t i) := by
  unfold tiOf at h
  split at h
  · rename_i info d hi hd
    split at h
    · rename_i z hz
      split at h
      · rename_i hall
        cases h
        exact ⟨⟨info, z, hi, hz, rfl, rfl, rfl, fun x hx => List.all_eq_true.1 hall x hx, hd⟩⟩
      · cases h
    · cases h
  · cases h

theorem td_int {P : Program} {t : TypeId} {k : IntKind} (h : tdOf P t = some (.int k)) : P.underlying t = some (.int k) := by
  unfold tdOf at h; split at h <;> first | simp_all | (split at h <;> simp_all)
theorem td_bool {P : Program} {t : TypeId} (h : tdOf P t = some .bool) : P.underlying t = some .bool := by
  unfold tdOf at h; split at h <;> first | simp_all | (split at h <;> simp_all)
theorem td_str {P : Program} {t : TypeId} (h : tdOf P t = some .str) : P.underlying t = some .string := by
  unfold tdOf at h; split at h <;> first | simp_all | (split at h <;> simp_all)
theorem td_ptr {P : Program} {t : TypeId} {e : Nat} (h : tdOf P t = some (.ptr e)) : P.underlying t = some (.pointer e) := by
  unfold tdOf at h; split at h <;> first | simp_all | (split at h <;> simp_all)
theorem td_slice {P : Program} {t : TypeId} {e : Nat} (h : tdOf P t = some (.slice e)) : P.underlying t = some (.slice e) := by
  unfold tdOf at h; split at h <;> first | simp_all | (split at h <;> simp_all)
theorem td_arr {P : Program} {t : TypeId} {n e : Nat} (h : tdOf P t = some (.arr n e)) : P.underlying t = some (.array n e) := by
  unfold tdOf at h; split at h <;> first | simp_all | (split at h <;> simp_all)
theorem td_struct {P : Program} {t : TypeId} {l : List (Nat × Nat)} (h : tdOf P t = some (.struct l)) : ∃ fs, P.underlying t = some (.struct fs) ∧ fs.toList.map (fun f => (f.offset, f.type)) = l ∧ fs.toList.all (fun f => (P.info? f.type).isSome) = true := by
  unfold tdOf at h
  split at h <;> first | (simp only [Option.some.injEq, reduceCtorEq] at h; done) | skip
  rename_i fs hu
  split at h
  · rename_i hall
    simp only [Option.some.injEq, TD.struct.injEq] at h
    exact ⟨fs, hu, h, hall⟩
  · cases h
theorem td_iface {P : Program} {t : TypeId} (h : tdOf P t = some .iface) : ∃ ms, P.underlying t = some (.interface ms) := by
  unfold tdOf at h; split at h <;> first | simp_all | (split at h <;> simp_all)
theorem td_not_iface {P : Program} {t : TypeId} {d : TD} (h : tdOf P t = some d) (hd : d ≠ .iface) : ∃ u, P.underlying t = some u ∧ ∀ ms, u ≠ .interface ms := by
  unfold tdOf at h; split at h <;> first | (split at h <;> simp_all) | simp_all
theorem td_some {P : Program} {t : TypeId} {d : TD} (h : tdOf P t = some d) : ∃ u, P.underlying t = some u := by
  unfold tdOf at h; split at h <;> first | simp_all | (split at h <;> simp_all)

theorem run_isAgg {P : Program} {t : TypeId} {i : TI} (F : TyFacts P t i) (w : World) : (Go.isAgg t).run P w = .ok (isAgg i) w := by
  have h := F.td
  obtain ⟨u, hu⟩ := td_some h
  have hr : (underlying t).run P w = .ok u w := run_underlying hu w
  unfold Go.isAgg
  rw [Sem.run_bind, hr, Result.andThen_ok]
  unfold tdOf at h
  rw [hu] at h
  unfold isAgg
  cases u <;> first | (simp only [Option.some.injEq] at h; rw [← h]; rfl) | (simp only at h; split at h <;> first | (simp only [Option.some.injEq] at h; rw [← h]; rfl) | cases h)

def GL (gl : Glob) (Fr RO : Nat → Prop) (w : World) : Prop := ∀ g o, gl g = some o → (RO g ∨ Fr g) ∧ w.heap[g]? = some o

theorem GL.adv {gl : Glob} {Fr RO Fr' RO' : Nat → Prop} {w w' : World} (h : GL gl Fr RO w) (ha : Adv (fun k => RO k ∨ Fr k) w w') (h1 : ∀ k, RO k → RO' k) (h2 : ∀ k, Fr k → Fr' k) : GL gl Fr' RO' w' :=
  fun g o hg => ⟨(h g o hg).1.imp (h1 g) (h2 g), (ha.block g (h g o hg).1).trans (h g o hg).2⟩

def Str (gl : Glob) : Prop := ∀ g, gl g = none
structure AdvD (q : Prop) (S : Nat → Prop) (w w' : World) : Prop extends Adv S w w' where
  dr : q → w.drawn ≤ w'.drawn
theorem AdvD.refl (q : Prop) (S : Nat → Prop) (w : World) : AdvD q S w w := ⟨Adv.refl S w, fun _ => Nat.le_refl _⟩
theorem AdvD.trans {q : Prop} {S : Nat → Prop} {w w1 w2 : World} (h : AdvD q S w w1) (h' : AdvD q S w1 w2) : AdvD q S w w2 := ⟨h.toAdv.trans h'.toAdv, fun hq => Nat.le_trans (h.dr hq) (h'.dr hq)⟩
theorem AdvD.mono {q : Prop} {S S' : Nat → Prop} {w w' : World} (h : AdvD q S w w') (hs : ∀ k, S' k → S k) : AdvD q S' w w' := ⟨h.toAdv.mono hs, h.dr⟩
theorem AdvD.drewN (q : Prop) (S : Nat → Prop) (w : World) (n : Nat) : AdvD q S w { w with drawn := w.drawn + n } := ⟨Adv.drewN S w n, fun _ => Nat.le_add_right _ _⟩
theorem AdvD.of {q : Prop} {S : Nat → Prop} {w w' : World} (h : Adv S w w') (hd : w.drawn ≤ w'.drawn) : AdvD q S w w' := ⟨h, fun _ => hd⟩
theorem AdvD.loose {q : Prop} {S : Nat → Prop} {w w' : World} (h : Adv S w w') (hq : ¬ q) : AdvD q S w w' := ⟨h, fun h => absurd h hq⟩

def Valid (P : Program) (gl : Glob) (f : FuncId) (s : Summary) : Prop :=
  ∀ (args : List SVal) (ents : List Ent) (p : Prop) (r : SVal) (us : List Ent), s args ents = some (p, r, us) → p →
  ∀ (Fr RO : Nat → Prop) (ρ : Rho) (own : Foot) (w : World) (vals : Array Value),
    GL gl Fr RO w → HRel Fr RO ρ own (findE ents) w → (∀ b u, ρ b u ≠ none → u = 0 ∧ b < ents.length) → (∀ b, (findE ents b).isSome ↔ b < ents.length) → DL ρ args vals.toList →
    Calls P f vals w fun e w' => ∃ v ρ' own' RO', e = .returned v ∧ HRel Fr RO' ρ' own' (putsF (findE ents) us) w' ∧ D ρ' r v ∧
      (∀ b, b < ents.length → (∃ e, putsF (findE ents) us b = some e) ∧ ∀ x, ρ' b 0 = some x → ρ b 0 = some x) ∧ (∀ k, RO k → RO' k) ∧ AdvD (Str gl) (fun k => RO k ∨ Fr k) w w'

def HasBody (P : Program) (f : FuncId) : Prop := ∃ fn, P.funcs[f]? = some fn ∧ (fn.name == "runtime.NumGoroutine") = false ∧ fn.body.isNone = false

def cmpFs (g : TypeId → Option (List LK)) : List LK → List Field → Option (List LK)
  | acc, [] => some acc
  | acc, f :: r => if f.name ≠ "_" ∧ f.offset = acc.length then match g f.type with
    | some l => cmpFs g (acc ++ l) r
    | none => none
    else none

def cmpOk (P : Program) : Nat → TypeId → Option (List LK)
  | 0, _ => none
  | d + 1, t => match P.underlying t with
    | some .bool => some [.b]
    | some (.int _) => some [.i]
    | some .string => some [.s]
    | some (.struct fs) => if P.stoodInHeld t = false then match cmpFs (cmpOk P d) [] fs.toList with
      | some l => if (P.info? t).map (·.size) = some l.length then some l else none
      | none => none
      else none
    | _ => none

def cmpT (P : Program) (t : TypeId) : Option (List LK) := match P.underlying t with
  | some (.struct _) => if P.eqGuardType P.depth t = false then cmpOk P 20 t else none
  | _ => none

structure CtxOK (P : Program) (c : Ctx) : Prop where
  ty : ∀ t i, c.ty t = some i → tiOf P t = some i
  cmp : ∀ t l, c.cmp t = some l → cmpT P t = some l
  sum : ∀ f s, c.sum f = some s → Valid P c.gl f s ∧ HasBody P f

def Step (Dq : Prop) (P : Program) (Fr RO : Nat → Prop) (ρ : Rho) (hp : HpF) (o : Oper) (a : Act) (w : World) (x : SVal) (us : List Ent) : Prop :=
  ∀ (next : Act → World → Prop) (Q : Exit → Act → World → Prop),
    (∀ v w' ρ' own' RO', HRel Fr RO' ρ' own' (putsF hp us) w' → D ρ' x v → ρ.le ρ' → (∀ k, RO k → RO' k) → AdvD Dq (fun k => RO k ∨ Fr k) w w' → next (a.put o.dst v) w') →
    Oper.wp P o a w next Q

section
variable {Dq : Prop} {P : Program} {c : Ctx} {Fr RO : Nat → Prop} {ρ : Rho} {own : Foot} {hp : HpF} {o : Oper} {a : Act} {w : World} {ev : Operand → SVal}
theorem step_value {x : SVal} {us : List Ent} {v : Value} {w' : World} {ρ' : Rho} {own' : Foot} {RO' : Nat → Prop} (hr : (execOp a.eval o).run P w = .ok (.value v) w')
    (H : HRel Fr RO' ρ' own' (putsF hp us) w') (hd : D ρ' x v) (hρ : ρ.le ρ') (hro : ∀ k, RO k → RO' k) (ha : Adv (fun k => RO k ∨ Fr k) w w') : Step Dq P Fr RO ρ hp o a w x us := by
  intro next Q h
  unfold Oper.wp
  rw [hr]
  exact h v w' ρ' own' RO' H hd hρ hro (.of ha (run_drawn hr))

theorem step_pure {x : SVal} {v : Value} (H : HRel Fr RO ρ own hp w) (hr : (execOp a.eval o).run P w = .ok (.value v) w) (hd : D ρ x v) : Step Dq P Fr RO ρ hp o a w x [] :=
  step_value hr H hd (Rho.le_refl _) (fun _ h => h) (Adv.refl _ _)

theorem step_skip {us : List Ent} {w' : World} {ρ' : Rho} {own' : Foot} {RO' : Nat → Prop} (hr : (execOp a.eval o).run P w = .ok .skip w')
    (H : HRel Fr RO' ρ' own' (putsF hp us) w') (hρ : ρ.le ρ') (hro : ∀ k, RO k → RO' k) (ha : Adv (fun k => RO k ∨ Fr k) w w') : Step Dq P Fr RO ρ hp o a w .undef us := by
  intro next Q h
  unfold Oper.wp
  rw [hr]
  exact h undef w' ρ' own' RO' H trivial hρ hro (.of ha (run_drawn hr))

theorem adv_alloc (w : World) (ob : Obj) (S : Nat → Prop) (hS : ∀ k, S k → k < w.heap.size) : Adv S w (w.alloc ob) where
  os := rfl
  tape := rfl
  output := rfl
  size := by simp
  block k hk := heap_alloc_old w ob (hS k hk)

theorem HRel.new (H : HRel Fr RO ρ own hp w) {b : Nat} (hb : hp b = none) (ob : Obj) (so : SObj) (x : Value)
    (ho : ∀ ρ', ρ.le ρ' → holds ρ' x (fun k => k = w.heap.size) RO (w.alloc ob) so) :
    ∃ ρ' own', HRel Fr RO ρ' own' (putsF hp [⟨b, 0, so⟩]) (w.alloc ob) ∧ ρ.le ρ' ∧ ρ' b 0 = some x := by
  have hle : ρ.le (ρ.set b 0 x) := Rho.le_set (.inl (by
    cases hx : ρ b 0 with
    | none => rfl
    | some y => exact absurd (H.dom b 0 (by simp [hx])) (by simp [nextOf, hb])))
  obtain ⟨h1, h2⟩ := H.upd b 0 so x (fun k => k = w.heap.size) (.inr (by simp [nextOf, hb])) (by simp [hb]) (adv_alloc w ob _ (fun k hk => hk.1)) (ho _ hle) (by intro k hk; subst hk; exact ⟨.inr (Nat.le_refl _), by simp⟩)
  exact ⟨_, _, h1, h2, by simp [Rho.set]⟩

theorem adv_frame (H : HRel Fr RO ρ own hp w) {w' : World} (h : Adv (fun k => k < w.heap.size) w w') : Adv (fun k => RO k ∨ Fr k) w w' :=
  h.mono fun k hk => hk.elim (fun h => (H.rofr k h).2) (fun h => H.fr k h)

theorem solid_one (H : HRel Fr RO ρ own hp w) {x : SVal} {v : Value} (hd : D ρ x v) (hs : solid x = true) : v.oneCell' = true := by
  cases x with
  | v y => simp only [D] at hd; subst hd; cases v <;> simp_all [solid, Value.oneCell']
  | ptr b u off => obtain ⟨_, _, rfl⟩ := hd; rfl
  | own b u => exact H.one _ _ _ hd
  | elt b u sz i off => obtain ⟨_, _, _, _, rfl⟩ := hd; rfl
  | agg cs => simp [solid] at hs
  | tup cs => simp [solid] at hs
  | fn f a c => obtain ⟨_, _, rfl, _⟩ := hd; rfl
  | ifc => obtain ⟨_, _, rfl⟩ := hd; rfl
  | undef => simp [solid] at hs

theorem solid_all (H : HRel Fr RO ρ own hp w) : ∀ {xs : List SVal} {vs : List Value}, DL ρ xs vs → allSolid xs = true → ∀ u ∈ vs, u.oneCell' = true
  | [], [], _, _ => by simp
  | x :: xs, v :: vs, ⟨h1, h⟩, hs => by
    simp only [allSolid, Bool.and_eq_true] at hs
    intro u hu
    rcases List.mem_cons.1 hu with rfl | hu
    · exact solid_one H h1 hs.1
    · exact solid_all H h hs.2 u hu
  | [], _ :: _, h, _ => h.elim
  | _ :: _, [], h, _ => h.elim

theorem cells_one {v : Value} (h : v.oneCell' = true) : v.cells.toList = [v] := by
  cases v <;> first | rfl | simp [Value.oneCell'] at h

theorem cells_rel (H : HRel Fr RO ρ own hp w) {x : SVal} {v : Value} (hd : D ρ x v) (hs : allSolid (cellsOf x) = true) : DL ρ (cellsOf x) v.cells.toList ∧ ∀ u ∈ v.cells.toList, u.oneCell' = true := by
  cases x with
  | agg cs =>
    obtain ⟨arr, rfl, h⟩ := hd
    exact ⟨h, solid_all H h hs⟩
  | _ =>
    simp only [cellsOf, allSolid, Bool.and_true] at hs
    have h1 := solid_one H hd hs
    rw [cells_one h1]
    exact ⟨⟨hd, trivial⟩, by simpa using h1⟩

theorem run_zeroValue {P : Program} {t : TypeId} {i : TI} (F : TyFacts P t i) (w : World) : (zeroValue t).run P w = .ok F.z w := by
  simp [zeroValue, typeInfo, F.hi, F.hz]
theorem run_sizeOf {P : Program} {t : TypeId} {i : TI} (F : TyFacts P t i) (w : World) : (sizeOf t).run P w = .ok i.size w := by
  simp [sizeOf, typeInfo, F.hi, F.size]

theorem step_move {x : Operand} (H : HRel Fr RO ρ own hp w) (hev : ∀ x, D ρ (ev x) (a.eval x)) (ho : o.op = .move x ∨ o.op = .assign x) : Step Dq P Fr RO ρ hp o a w (ev x) [] := by
  refine step_pure H (v := a.eval x) ?_ (hev x)
  rcases ho with ho | ho <;> simp [execOp, ho]

theorem step_pick {cc x y : Operand} {t : Bool} (H : HRel Fr RO ρ own hp w) (hev : ∀ x, D ρ (ev x) (a.eval x)) (ho : o.op = .pick cc x y) (ht : ev cc = .v (.bool t)) :
    Step Dq P Fr RO ρ hp o a w (if t then ev x else ev y) [] := by
  have hc : a.eval cc = .bool t := by have := hev cc; rw [ht] at this; exact this
  refine step_pure H (v := if t then a.eval x else a.eval y) ?_ ?_
  · simp [execOp, ho, hc, asBool]
  · cases t
    · exact hev y
    · exact hev x

theorem step_alloc {t : TypeId} {i : TI} (H : HRel Fr RO ρ own hp w) (F : TyFacts P t i) {b : Nat} (hb : hp b = none) (ho : o.op = .alloc t) :
    Step Dq P Fr RO ρ hp o a w (.ptr b 0 0) [⟨b, 0, .cells (i.zero.map .v)⟩] := by
  obtain ⟨ρ', own', h1, h2, h3⟩ := H.new hb (.cells F.z.cells t) (.cells (i.zero.map .v)) (.pointer (some ⟨w.heap.size, 0, none⟩)) (fun ρ' _ => ⟨w.heap.size, _, t, rfl, heap_alloc_new w _, by rw [F.zero]; exact DL.vals _, fun k => Iff.rfl⟩)
  refine step_value (v := .pointer (some ⟨w.heap.size, 0, none⟩)) (w' := w.alloc (.cells F.z.cells t)) ?_ h1 ⟨_, h3, rfl⟩ h2 (fun _ h => h) (adv_frame H (adv_alloc w _ _ (fun k h => h)))
  simp [execOp, ho, Instr.alloc, run_zeroValue F, newVar, newRow]

theorem step_box {t : TypeId} {x : Operand} (H : HRel Fr RO ρ own hp w) (hev : ∀ x, D ρ (ev x) (a.eval x)) {b : Nat} (hb : hp b = none) (ho : o.op = .box t x) (hs : allSolid (cellsOf (ev x)) = true) :
    Step Dq P Fr RO ρ hp o a w (.ptr b 0 0) [⟨b, 0, .cells (cellsOf (ev x))⟩] := by
  obtain ⟨hd, h1⟩ := cells_rel H (hev x) hs
  obtain ⟨ρ', own', h1, h2, h3⟩ := H.new hb (.cells (a.eval x).cells t) (.cells (cellsOf (ev x))) (.pointer (some ⟨w.heap.size, 0, none⟩)) (fun ρ' hle => ⟨w.heap.size, _, t, rfl, heap_alloc_new w _, hd.mono hle, fun k => Iff.rfl⟩)
  refine step_value (v := .pointer (some ⟨w.heap.size, 0, none⟩)) (w' := w.alloc (.cells (a.eval x).cells t)) ?_ h1 ⟨_, h3, rfl⟩ h2 (fun _ h => h) (adv_frame H (adv_alloc w _ _ (fun k h => h)))
  simp [execOp, ho, Instr.box, newVar, newRow]

theorem step_nilCheck {x : Operand} (H : HRel Fr RO ρ own hp w) (hev : ∀ x, D ρ (ev x) (a.eval x)) (ho : o.op = .nilCheck x) (hx : (∃ b u off, ev x = .ptr b u off) ∨ ∃ f l m, ev x = .fn f l m) :
    Step Dq P Fr RO ρ hp o a w (ev x) [] := by
  refine step_pure H (v := a.eval x) ?_ (hev x)
  have h := hev x
  rcases hx with ⟨b, u, off, hx⟩ | ⟨f, l, m, hx⟩
  · rw [hx] at h
    obtain ⟨ad, _, h2⟩ := h
    simp [execOp, ho, h2]
  · rw [hx] at h
    obtain ⟨fa, ca, h2, _⟩ := h
    simp [execOp, ho, h2]

theorem step_extract {t : Operand} {i : Nat} {vs : List SVal} (H : HRel Fr RO ρ own hp w) (hev : ∀ x, D ρ (ev x) (a.eval x)) (ho : o.op = .extract t i) (ht : ev t = .tup vs) (hi : i < vs.length) :
    Step Dq P Fr RO ρ hp o a w (nth vs i) [] := by
  have h := hev t
  rw [ht] at h
  obtain ⟨arr, h1, h2⟩ := h
  obtain ⟨y, h3, h4⟩ := h2.nth i hi
  refine step_pure H (v := y) ?_ h4
  have : arr[i]? = some y := by simpa using h3
  simp [execOp, ho, h1, Instr.extract, this]

theorem step_makeFunc {f : FuncId} {first captured : Array Operand} (H : HRel Fr RO ρ own hp w) (hev : ∀ x, D ρ (ev x) (a.eval x)) (ho : o.op = .makeFunc (.func f) first captured) :
    Step Dq P Fr RO ρ hp o a w (.fn f (first.toList.map ev) (captured.toList.map ev)) [] := by
  have hl : ∀ l : List Operand, DL ρ (l.map ev) (l.map a.eval) := by
    intro l
    induction l with
    | nil => exact trivial
    | cons x r ih => exact ⟨hev x, ih⟩
  refine step_pure H (v := .func (.func f) (first.map a.eval) (captured.map a.eval)) ?_ ⟨_, _, rfl, by simpa using hl _, by simpa using hl _⟩
  simp [execOp, ho, Instr.makeFunc]
end
end Go.Sx

namespace Go.Sx
section
variable {Dq : Prop} {P : Program} {c : Ctx} {Fr RO : Nat → Prop} {ρ : Rho} {own : Foot} {hp : HpF} {o : Oper} {a : Act} {w : World} {ev : Operand → SVal}
theorem binS_run {op : BinOp} {t : TypeId} {x y : Operand} {X Y : Value} {sx sy r : SVal} {p : Prop} {us : List Ent} (hX : D ρ sx X) (hY : D ρ sy Y) (h : binS op sx sy = some (p, r, us)) (hp' : p) :
    us = [] ∧ ∃ v, (do eqGuard op t x y X Y; binOp op t X Y : Sem Value).run P w = .ok v w ∧ D ρ r v := by
  unfold binS at h
  split at h
  · rename_i k n k' m
    simp only [D] at hX hY
    subst hX hY
    have hg : (eqGuard op t x y (.int k n) (.int k' m)).run P w = .ok () w := by
      unfold eqGuard
      cases op <;> rfl
    cases op with
    | shl =>
      simp only [Option.some.injEq, Prod.mk.injEq] at h
      obtain ⟨rfl, rfl, rfl⟩ := h
      exact ⟨rfl, _, by rw [Sem.run_bind, hg, Result.andThen_ok]; simp [binOp, Op.shift, show ¬ m < 0 by omega], rfl⟩
    | shr =>
      simp only [Option.some.injEq, Prod.mk.injEq] at h
      obtain ⟨rfl, rfl, rfl⟩ := h
      exact ⟨rfl, _, by rw [Sem.run_bind, hg, Result.andThen_ok]; simp [binOp, Op.shift, show ¬ m < 0 by omega], rfl⟩
    | quo =>
      simp only at h
      split at h
      · rename_i hk
        subst hk
        simp only [Option.some.injEq, Prod.mk.injEq] at h
        obtain ⟨rfl, rfl, rfl⟩ := h
        exact ⟨rfl, _, by rw [Sem.run_bind, hg, Result.andThen_ok]; simp [binOp, Op.intDiv, hp'], rfl⟩
      · cases h
    | rem =>
      simp only at h
      split at h
      · rename_i hk
        subst hk
        simp only [Option.some.injEq, Prod.mk.injEq] at h
        obtain ⟨rfl, rfl, rfl⟩ := h
        exact ⟨rfl, _, by rw [Sem.run_bind, hg, Result.andThen_ok]; simp [binOp, Op.intDiv, hp'], rfl⟩
      · cases h
    | _ =>
      simp only at h
      split at h
      · rename_i hk
        subst hk
        simp only [ret, Option.some.injEq, Prod.mk.injEq] at h
        obtain ⟨_, rfl, rfl⟩ := h
        exact ⟨rfl, _, by rw [Sem.run_bind, hg, Result.andThen_ok]; simp [binOp, Op.intArith, Op.intBits, Op.intCmp, intBits], rfl⟩
      · cases h
  · rename_i n m
    simp only [D] at hX hY
    subst hX hY
    have hg : (eqGuard op t x y (.string n) (.string m)).run P w = .ok () w := by
      unfold eqGuard
      cases op <;> rfl
    cases op with
    | add =>
      simp only [Option.some.injEq, Prod.mk.injEq] at h
      obtain ⟨rfl, rfl, rfl⟩ := h
      refine ⟨rfl, _, ?_, rfl⟩
      rw [Sem.run_bind, hg, Result.andThen_ok]
      have hle : ¬ ((n.size + m.size : Nat) : Int) > IntKind.i64.max := by
        have : IntKind.i64.max = 9223372036854775807 := by decide
        rw [this]; omega
      simp only [binOp, Op.stringOp]
      rw [if_neg hle]
      rfl
    | eql =>
      simp only [ret, Option.some.injEq, Prod.mk.injEq] at h
      obtain ⟨_, rfl, rfl⟩ := h
      exact ⟨rfl, _, by rw [Sem.run_bind, hg, Result.andThen_ok]; simp [binOp, Op.stringOp], rfl⟩
    | neq =>
      simp only [ret, Option.some.injEq, Prod.mk.injEq] at h
      obtain ⟨_, rfl, rfl⟩ := h
      exact ⟨rfl, _, by rw [Sem.run_bind, hg, Result.andThen_ok]; simp [binOp, Op.stringOp], rfl⟩
    | _ => cases h
  · cases h

theorem eqS_run {op : BinOp} {t : TypeId} {i : TI} (F : TyFacts P t i) {x y : Operand} {X Y : Value} {sx sy r : SVal} {p : Prop} {us : List Ent} (hX : D ρ sx X) (hY : D ρ sy Y) (h : eqS i op sx sy = some (p, r, us)) (hp' : p) :
    us = [] ∧ ∃ v, (do eqGuard op t x y X Y; binOp op t X Y : Sem Value).run P w = .ok v w ∧ D ρ r v := by
  have htd := F.td
  unfold eqS at h
  split at h
  · rename_i b1 b2 ht
    rw [ht] at htd
    have hu := td_bool htd
    simp only [D] at hX hY
    subst hX hY
    have hg : (eqGuard op t x y (.bool b1) (.bool b2)).run P w = .ok () w := by
      unfold eqGuard
      cases op <;> rfl
    have he : (Op.equal t (.bool b1) (.bool b2)).run P w = .ok (b1 == b2) w := by
      unfold Op.equal Op.maxDepth Op.equalIn
      rw [Sem.run_bind, run_underlying hu w, Result.andThen_ok]
      rfl
    cases op <;> simp only [ret, Option.some.injEq, Prod.mk.injEq] at h <;> first | (cases h; done) | skip
    · obtain ⟨_, rfl, rfl⟩ := h
      exact ⟨rfl, _, by rw [Sem.run_bind, hg, Result.andThen_ok]; simp [binOp, he], rfl⟩
    · obtain ⟨_, rfl, rfl⟩ := h
      exact ⟨rfl, _, by rw [Sem.run_bind, hg, Result.andThen_ok]; simp [binOp, he], rfl⟩
  · rename_i e b u off ht
    rw [ht] at htd
    have hu := td_ptr htd
    obtain ⟨ad, _, rfl⟩ := hX
    simp only [D] at hY
    subst hY
    have hg : (eqGuard op t x y (.pointer (some (ad.add off))) (.pointer none)).run P w = .ok () w := by
      unfold eqGuard
      cases op <;> rfl
    have he : (Op.equal t (.pointer (some (ad.add off))) (.pointer none)).run P w = .ok false w := by
      unfold Op.equal Op.maxDepth Op.equalIn
      rw [Sem.run_bind, run_underlying hu w, Result.andThen_ok]
      rfl
    cases op <;> simp only [ret, Option.some.injEq, Prod.mk.injEq] at h <;> first | (cases h; done) | skip
    · obtain ⟨_, rfl, rfl⟩ := h
      exact ⟨rfl, _, by rw [Sem.run_bind, hg, Result.andThen_ok]; simp [binOp, he], rfl⟩
    · obtain ⟨_, rfl, rfl⟩ := h
      exact ⟨rfl, _, by rw [Sem.run_bind, hg, Result.andThen_ok]; simp [binOp, he], rfl⟩
  · rename_i e ht
    rw [ht] at htd
    have hu := td_ptr htd
    simp only [D] at hX hY
    subst hX hY
    have hg : (eqGuard op t x y (.pointer none) (.pointer none)).run P w = .ok () w := by
      unfold eqGuard
      cases op <;> rfl
    have he : (Op.equal t (.pointer none) (.pointer none)).run P w = .ok true w := by
      unfold Op.equal Op.maxDepth Op.equalIn
      rw [Sem.run_bind, run_underlying hu w, Result.andThen_ok]
      rfl
    cases op <;> simp only [ret, Option.some.injEq, Prod.mk.injEq] at h <;> first | (cases h; done) | skip
    · obtain ⟨_, rfl, rfl⟩ := h
      exact ⟨rfl, _, by rw [Sem.run_bind, hg, Result.andThen_ok]; simp [binOp, he], rfl⟩
    · obtain ⟨_, rfl, rfl⟩ := h
      exact ⟨rfl, _, by rw [Sem.run_bind, hg, Result.andThen_ok]; simp [binOp, he], rfl⟩
  · exact binS_run hX hY h hp'

theorem step_binOp {op : BinOp} {t ty : TypeId} {i : TI} {x y : Operand} {r : SVal} {p : Prop} {us : List Ent} (H : HRel Fr RO ρ own hp w) (hev : ∀ x, D ρ (ev x) (a.eval x)) (F : TyFacts P t i)
    (ho : o.op = .binOp op t x y ty) (h : eqS i op (ev x) (ev y) = some (p, r, us)) (hp' : p) : Step Dq P Fr RO ρ hp o a w r us := by
  obtain ⟨rfl, v, h1, h2⟩ := eqS_run (P := P) (w := w) F (x := x) (y := y) (hev x) (hev y) h hp'
  refine step_pure H (v := v) ?_ h2
  simp only [execOp, ho]
  rw [Sem.run_bind, h1, Result.andThen_ok]
  rfl

theorem nil_run {op : BinOp} {t : TypeId} {e : TypeId} (hu : P.underlying t = some (.slice e)) {x y : Operand} {ad : Addr} {n c : Nat} (hop : op = .eql ∨ op = .neq) :
    (do eqGuard op t x y (.slice (some ad) n c) (.slice none 0 0); binOp op t (.slice (some ad) n c) (.slice none 0 0) : Sem Value).run P w = .ok (.bool (op == .neq)) w := by
  have hg : (eqGuard op t x y (.slice (some ad) n c) (.slice none 0 0)).run P w = .ok () w := by
    unfold eqGuard
    cases op <;> rfl
  have he : (Op.equal t (.slice (some ad) n c) (.slice none 0 0)).run P w = .ok false w := by
    unfold Op.equal Op.maxDepth Op.equalIn
    rw [Sem.run_bind, run_underlying hu w, Result.andThen_ok]
    rfl
  rcases hop with rfl | rfl
  · rw [Sem.run_bind, hg, Result.andThen_ok]; simp [binOp, he]
  · rw [Sem.run_bind, hg, Result.andThen_ok]; simp [binOp, he]
theorem holds_some {b et sz : Nat} {rw' : Bool} {xs : List (List Cell)} {X : Value} {ow : Nat → Prop} (h : holds ρ X ow RO w (.row rw' et sz xs)) (hne : xs ≠ []) : ∃ ad n c, X = .slice (some ad) n c := by
  have hl : 0 < xs.length := List.length_pos_iff.2 hne
  cases rw' with
  | true =>
    obtain ⟨vals, h1, _⟩ := h
    rcases h1.2 with ⟨_, h0⟩ | ⟨g, cap, cur, h2, _⟩
    · omega
    · exact ⟨_, _, _, h2⟩
  | false =>
    obtain ⟨vals, ⟨a, c, h1, _, _, h3⟩, _⟩ := h
    obtain ⟨ad, rfl, _⟩ := h3 hl
    exact ⟨_, _, _, h1⟩
theorem step_nilCmp {op : BinOp} {t ty e : TypeId} {i : TI} {x y : Operand} {r : SVal} {p : Prop} {us : List Ent} (H : HRel Fr RO ρ own hp w) (hev : ∀ x, D ρ (ev x) (a.eval x)) (F : TyFacts P t i) (hi : i.td = .slice e)
    (ho : o.op = .binOp op t x y ty) (h : nilCmp hp op (ev x) (ev y) = some (p, r, us)) (hp' : p) : Step Dq P Fr RO ρ hp o a w r us := by
  have htd := F.td
  rw [hi] at htd
  have hu := td_slice htd
  have hX := hev x
  have hY := hev y
  unfold nilCmp at h
  split at h
  · rename_i b u hx
    rw [hx] at hX
    simp only [D] at hX
    unfold nilE at h
    split at h
    · rename_i nm v rw' et sz xs hb hy
      rw [hy] at hY
      simp only [D] at hY
      split at h
      · rename_i hv
        subst hv
        obtain ⟨_, X', hX', hh⟩ := H.ent b _ hb
        have hXX : X' = a.eval x := Option.some.inj (hX'.symm.trans hX)
        subst hXX
        cases op <;> simp only [Option.some.injEq, Prod.mk.injEq] at h <;> first | (cases h; done) | skip
        · obtain ⟨rfl, rfl, rfl⟩ := h
          obtain ⟨ad, n, c, hs⟩ := holds_some (b := b) hh hp'
          refine step_pure H (v := .bool false) ?_ rfl
          simp only [execOp, ho]
          rw [hs, hY, Sem.run_bind, nil_run hu (.inl rfl), Result.andThen_ok]
          rfl
        · obtain ⟨rfl, rfl, rfl⟩ := h
          obtain ⟨ad, n, c, hs⟩ := holds_some (b := b) hh hp'
          refine step_pure H (v := .bool true) ?_ rfl
          simp only [execOp, ho]
          rw [hs, hY, Sem.run_bind, nil_run hu (.inr rfl), Result.andThen_ok]
          rfl
      · cases h
    · cases h
  · cases h

theorem step_not {t : TypeId} {x : Operand} {b : Bool} (H : HRel Fr RO ρ own hp w) (hev : ∀ x, D ρ (ev x) (a.eval x)) (ho : o.op = .unOp .not t x) (hx : ev x = .v (.bool b)) :
    Step Dq P Fr RO ρ hp o a w (.v (.bool !b)) [] := by
  have h := hev x
  rw [hx] at h
  simp only [D] at h
  exact step_pure H (v := .bool !b) (by simp [execOp, ho, h, Op.unary]) rfl
theorem step_neg {t : TypeId} {x : Operand} {k : IntKind} {n : Int} (H : HRel Fr RO ρ own hp w) (hev : ∀ x, D ρ (ev x) (a.eval x)) (ho : o.op = .unOp .neg t x) (hx : ev x = .v (.int k n)) :
    Step Dq P Fr RO ρ hp o a w (.v (.int k (k.wrap (0 - n)))) [] := by
  have h := hev x
  rw [hx] at h
  simp only [D] at h
  exact step_pure H (v := .int k (k.wrap (0 - n))) (by simp [execOp, ho, h, Op.unary, Op.intArith]) rfl
theorem step_xor {t : TypeId} {x : Operand} {k : IntKind} {n : Int} (H : HRel Fr RO ρ own hp w) (hev : ∀ x, D ρ (ev x) (a.eval x)) (ho : o.op = .unOp .xor t x) (hx : ev x = .v (.int k n)) :
    Step Dq P Fr RO ρ hp o a w (.v (.int k (intBits k (BitVec.ofInt k.bits (if k.signed then -1 else k.max) ^^^ BitVec.ofInt k.bits n)))) [] := by
  have h := hev x
  rw [hx] at h
  simp only [D] at h
  exact step_pure H (v := .int k (intBits k (BitVec.ofInt k.bits (if k.signed then -1 else k.max) ^^^ BitVec.ofInt k.bits n))) (by simp [execOp, ho, h, Op.unary, Op.intBits, intBits]) rfl

theorem step_convInt {s t : TypeId} {i j : TI} {x : Operand} {k k' : IntKind} {n : Int} (H : HRel Fr RO ρ own hp w) (hev : ∀ x, D ρ (ev x) (a.eval x)) (F : TyFacts P s i) (F' : TyFacts P t j) (hj : j.td = .int k)
    (ho : o.op = .convert s t x) (hx : ev x = .v (.int k' n)) : Step Dq P Fr RO ρ hp o a w (.v (.int k (k.wrap n))) [] := by
  have h := hev x
  rw [hx] at h
  simp only [D] at h
  obtain ⟨u, hu⟩ := td_some F.td
  have ht := F'.td
  rw [hj] at ht
  have hu' := td_int ht
  refine step_pure H (v := .int k (k.wrap n)) ?_ rfl
  simp only [execOp, ho, h]
  rw [Sem.run_bind]
  have : (convert s t (.int k' n)).run P w = .ok (.int k (k.wrap n)) w := by
    unfold convert
    rw [Sem.run_bind, run_underlying hu w, Result.andThen_ok, Sem.run_bind, run_underlying hu' w, Result.andThen_ok]
    cases u <;> rfl
  rw [this]
  rfl

theorem step_convStr {s t : TypeId} {i j : TI} {x : Operand} {z : ByteArray} (H : HRel Fr RO ρ own hp w) (hev : ∀ x, D ρ (ev x) (a.eval x)) (F : TyFacts P s i) (F' : TyFacts P t j) (hi : i.td = .str) (hj : j.td = .str)
    (ho : o.op = .convert s t x) (hx : ev x = .v (.string z)) : Step Dq P Fr RO ρ hp o a w (.v (.string z)) [] := by
  have h := hev x
  rw [hx] at h
  simp only [D] at h
  have hs := F.td
  rw [hi] at hs
  have hu := td_str hs
  have ht := F'.td
  rw [hj] at ht
  have hu' := td_str ht
  refine step_pure H (v := .string z) ?_ rfl
  simp only [execOp, ho, h]
  rw [Sem.run_bind]
  have : (convert s t (.string z)).run P w = .ok (.string z) w := by
    unfold convert
    rw [Sem.run_bind, run_underlying hu w, Result.andThen_ok, Sem.run_bind, run_underlying hu' w, Result.andThen_ok]
    rfl
  rw [this]
  rfl

theorem step_indexStr {t : TypeId} {i : TI} {x y : Operand} {s : ByteArray} {k : IntKind} {n : Int} (H : HRel Fr RO ρ own hp w) (hev : ∀ x, D ρ (ev x) (a.eval x)) (F : TyFacts P t i) (hi : i.td = .str)
    (ho : o.op = .index t x y) (hx : ev x = .v (.string s)) (hy : ev y = .v (.int k n)) (h0 : 0 ≤ n) (h1 : n < s.size) :
    Step Dq P Fr RO ρ hp o a w (.v (.int .u8 (s.data.toList.getD n.toNat 0).toNat)) [] := by
  have hX := hev x
  rw [hx] at hX
  have hY := hev y
  rw [hy] at hY
  simp only [D] at hX hY
  have hs := F.td
  rw [hi] at hs
  have hu := td_str hs
  refine step_pure H (v := .int .u8 (s.data.toList.getD n.toNat 0).toNat) ?_ rfl
  have hlt : n.toNat < s.size := by omega
  have hget : s[n.toNat]? = some (s.data.toList.getD n.toNat 0) := by
    rw [ByteArray.getElem?_lt' s _ hlt]
    congr 1
    rw [List.getD_eq_getElem?_getD, List.getElem?_eq_getElem (by simpa using hlt)]
    rfl
  simp only [execOp, ho, hX, hY]
  rw [Sem.run_bind]
  have : (Instr.index t (.string s) (.int k n)).run P w = .ok (.int .u8 (s.data.toList.getD n.toNat 0).toNat) w := by
    unfold Instr.index
    rw [Sem.run_bind]
    simp only [asIntOf, Sem.run_pure, Result.andThen_ok]
    rw [Sem.run_bind, run_underlying hu w, Result.andThen_ok]
    simp only [if_pos h0, hget, Sem.run_pure]
  rw [this]
  rfl

theorem step_sliceStr {t : TypeId} {i : TI} {x : Operand} {lo hi : Option Operand} {s : ByteArray} {A B : Int} (H : HRel Fr RO ρ own hp w) (hev : ∀ x, D ρ (ev x) (a.eval x)) (F : TyFacts P t i) (hi' : i.td = .str)
    (ho : o.op = .slice t x lo hi none) (hx : ev x = .v (.string s))
    (hlo : (lo = none ∧ A = 0) ∨ ∃ l k, lo = some l ∧ ev l = .v (.int k A)) (hhi : (hi = none ∧ B = s.size) ∨ ∃ l k, hi = some l ∧ ev l = .v (.int k B)) (h0 : 0 ≤ A) (h1 : A ≤ B) (h2 : B ≤ s.size) :
    Step Dq P Fr RO ρ hp o a w (.v (.string (s.extract A.toNat B.toNat))) [] := by
  have hX := hev x
  rw [hx] at hX
  simp only [D] at hX
  have hs := F.td
  rw [hi'] at hs
  have hu := td_str hs
  refine step_pure H (v := .string (s.extract A.toNat B.toNat)) ?_ rfl
  simp only [execOp, ho, hX]
  rw [Sem.run_bind]
  have hbd : (Instr.sliceBounds false s.size s.size (lo.map a.eval) (hi.map a.eval) none).run P w = .ok (A.toNat, B.toNat, s.size) w := by
    have sb : ∀ (l : Operand) (k : IntKind) (n : Int) (y : Nat) (code : BoundsCode), ev l = .v (.int k n) → 0 ≤ n → n ≤ y → (Instr.sliceBound (a.eval l) y code).run P w = .ok n.toNat w := by
      intro l k n y code hl hn hy
      have := hev l
      rw [hl] at this
      simp only [D] at this
      rw [this]
      exact run_sliceBound w k n y code hn hy
    rcases hhi with ⟨rfl, rfl⟩ | ⟨l, k, rfl, hl⟩ <;> rcases hlo with ⟨rfl, rfl⟩ | ⟨l', k', rfl, hl'⟩
    · simp [Instr.sliceBounds]
    · simp [Instr.sliceBounds, sb l' k' A s.size .sliceB hl' h0 (by omega)]
    · simp [Instr.sliceBounds, sb l k B s.size .sliceAlen hl (by omega) h2]
    · simp [Instr.sliceBounds, sb l k B s.size .sliceAlen hl (by omega) h2, sb l' k' A B.toNat .sliceB hl' h0 (by omega)]
  have : (Instr.sliceAt t (.string s) (lo.map a.eval) (hi.map a.eval) none).run P w = .ok (.string (s.extract A.toNat B.toNat)) w := by
    unfold Instr.sliceAt
    rw [Sem.run_bind, run_underlying hu w, Result.andThen_ok]
    simp only
    unfold Instr.slice
    rw [Sem.run_bind, run_underlying hu w, Result.andThen_ok]
    simp only [Option.isSome_none, Bool.false_eq_true, if_false]
    simp [hbd]
  rw [Option.map_none, this]
  rfl
end
end Go.Sx

namespace Go.Sx
section
variable {P : Program} {c : Ctx} {Fr RO : Nat → Prop} {ρ : Rho} {own : Foot} {hp : HpF} {o : Oper} {a : Act} {w : World} {ev : Operand → SVal}
theorem add_lit (g o j : Nat) : (⟨g, o, none⟩ : Addr).add j = ⟨g, o + j, none⟩ := by unfold Addr.add; split <;> simp_all
theorem add_add (a : Addr) (i j : Nat) : (a.add i).add j = a.add (i + j) := by
  unfold Addr.add
  by_cases hi : i = 0
  · subst hi; simp
  · by_cases hj : j = 0
    · subst hj; simp [hi]
    · simp [hi, hj, Nat.add_assoc]

theorem row_cells {val : Value} {own : Nat → Prop} {b : Bool} {et sz : Nat} {xs : List (List Cell)} (h : holds ρ val own RO w (.row b et sz xs)) :
    ∃ vals, CellsAre RO w xs.flatten vals ∧ vals.length = xs.length * sz ∧ (∀ l ∈ xs, l.length = sz) ∧ (∃ ad c, val = .slice ad xs.length c) ∧
      (∀ ad n c, val = .slice (some ad) n c → ∀ j x, vals[j]? = some x → w.cell? (ad.add j) = some x) ∧ (0 < xs.length → ∃ ad c, val = .slice (some ad) xs.length c) := by
  cases b with
  | true =>
    obtain ⟨vals, h1, h2, h3, h4⟩ := h
    refine ⟨vals, h2, h1.1, h4, ?_, ?_, ?_⟩
    · rcases h1.2 with ⟨e, hn⟩ | ⟨g, cap, cur, e, _⟩
      · exact ⟨none, 0, by rw [e, hn]⟩
      · exact ⟨_, cap, e⟩
    · intro ad n c e j x hj
      rcases h1.2 with ⟨e', _⟩ | ⟨g, cap, cur, e', _⟩
      · rw [e'] at e; cases e
      · rw [e'] at e
        cases e
        exact h1.cells (g := g) (by rw [e']; rfl) j x hj
    · intro hn
      rcases h1.2 with ⟨e', h0⟩ | ⟨g, cap, cur, e', _⟩
      · omega
      · exact ⟨_, cap, e'⟩
  | false =>
    obtain ⟨vals, ⟨ad, c, e, hl, hm, hc⟩, h2, h3, h4⟩ := h
    refine ⟨vals, h2, hl, h4, ⟨ad, c, e⟩, ?_, ?_⟩
    · intro ad' n c' e' j x hj
      rw [e] at e'
      cases e'
      by_cases hn : 0 < xs.length
      · obtain ⟨ad2, e2, _, h5⟩ := hc hn
        cases e2
        exact h5 j x hj
      · have : vals.length = 0 := by rw [hl]; simp [show xs.length = 0 by omega]
        have := List.eq_nil_of_length_eq_zero this
        subst this
        simp at hj
    · intro hn
      obtain ⟨ad2, rfl, _⟩ := hc hn
      exact ⟨ad2, c, e⟩

theorem flatten_at {α : Type} {sz : Nat} : ∀ {xs : List (List α)} (i : Nat), (∀ l ∈ xs, l.length = sz) → i < xs.length → (xs.flatten.drop (i * sz)).take sz = xs.getD i []
  | x :: xs, 0, h, _ => by
    have := h x (by simp)
    simp [← this]
  | x :: xs, i + 1, h, hi => by
    have hx := h x (by simp)
    have := flatten_at (xs := xs) i (fun l hl => h l (by simp [hl])) (by simpa using hi)
    rw [List.flatten_cons, Nat.add_mul, Nat.one_mul, Nat.add_comm, ← List.drop_drop]
    rw [List.drop_append_of_le_length (by omega)]
    rw [← hx, List.drop_length, List.nil_append, hx]
    simpa using this
  | [], _, _, hi => by simp at hi

theorem flatten_part {α : Type} {sz : Nat} {xs : List (List α)} (i off n : Nat) (h : ∀ l ∈ xs, l.length = sz) (hi : i < xs.length) (ho : off + n ≤ sz) :
    (xs.flatten.drop (i * sz + off)).take n = ((xs.getD i []).drop off).take n := by
  rw [← flatten_at i h hi, List.drop_take, List.drop_drop, List.take_take, Nat.min_eq_left (by omega)]

theorem open_names (d : Nat) : ∀ (cs : List Cell) (k : Nat) (e : Ent), e ∈ (openCells d k cs).2 → ∃ j, k ≤ j ∧ e.name = callName d j
  | [], k, e, h => by simp [openCells] at h
  | .v x :: r, k, e, h => by
    simp only [openCells] at h
    exact open_names d r k e h
  | .s et sz xs :: r, k, e, h => by
    simp only [openCells, List.mem_cons] at h
    rcases h with rfl | h
    · exact ⟨k, Nat.le_refl _, rfl⟩
    · obtain ⟨j, h1, h2⟩ := open_names d r (k + 1) e h
      exact ⟨j, by omega, h2⟩

theorem plain_cells1 (RO : Nat → Prop) (w : World) : ∀ (l : List Value), (∀ x ∈ l, x.oneCell' = true) → CellsAre RO w (l.map Cell.v) l
  | [], _ => trivial
  | x :: r, h => ⟨⟨rfl, h x (by simp)⟩, plain_cells1 RO w r (fun x hx => h x (by simp [hx]))⟩
theorem plain_cells (RO : Nat → Prop) (w : World) : ∀ (l : List (List Value)), (∀ x ∈ l.flatten, x.oneCell' = true) → CellsAre RO w (l.map fun l => l.map Cell.v).flatten l.flatten
  | [], _ => trivial
  | x :: r, h => by
    simp only [List.map_cons, List.flatten_cons]
    rw [List.flatten_cons] at h
    exact CellsAre.append (plain_cells1 RO w x fun y hy => h y (by simp only [List.mem_append]; exact .inl hy)) (plain_cells RO w r fun y hy => h y (by simp only [List.mem_append]; exact .inr hy))

theorem open_sound (d : Nat) : ∀ (cs : List Cell) (k : Nat) (ys : List Value) (ρ : Rho) (own : Foot) (hp : HpF), HRel Fr RO ρ own hp w → CellsAre RO w cs ys → (∀ e ∈ (openCells d k cs).2, hp e.name = none) →
    ∃ ρ' own', HRel Fr RO ρ' own' (putsF hp (openCells d k cs).2) w ∧ DL ρ' (openCells d k cs).1 ys ∧ ρ.le ρ'
  | [], k, [], ρ, own, hp, H, _, _ => ⟨ρ, own, H, trivial, Rho.le_refl _⟩
  | .v x :: r, k, y :: ys, ρ, own, hp, H, ⟨h1, h2⟩, hn => by
    obtain ⟨ρ', own', H', hd, hle⟩ := open_sound d r k ys ρ own hp H h2 hn
    exact ⟨ρ', own', H', ⟨h1.1, hd⟩, hle⟩
  | .s et sz xs :: r, k, y :: ys, ρ, own, hp, H, ⟨h1, h2⟩, hn => by
    have hb : hp (callName d k) = none := hn ⟨callName d k, 0, .row false et sz (xs.map fun l => l.map .v)⟩ (by simp [openCells])
    obtain ⟨H1, hle1⟩ := H.upd (callName d k) 0 (.row false et sz (xs.map fun l => l.map .v)) y (fun _ => False) (.inr (by simp [nextOf, hb])) (by simp [hb])
      (Adv.refl _ _) ⟨xs.flatten, by simpa using h1.1, plain_cells _ _ xs h1.2.2, fun _ h => h, by simpa using h1.2.1⟩ (fun k h => h.elim)
    have hn' : ∀ e ∈ (openCells d (k + 1) r).2, (fun b' => if callName d k = b' then some (⟨callName d k, 0, .row false et sz (xs.map fun l => l.map .v)⟩ : Ent) else hp b') e.name = none := by
      intro e he
      obtain ⟨j, h3, h4⟩ := open_names d r (k + 1) e he
      have hne : callName d k ≠ e.name := by rw [h4]; unfold callName; omega
      simp only [if_neg hne]
      exact hn e (by simp [openCells, he])
    obtain ⟨ρ', own', H', hd, hle⟩ := open_sound d r (k + 1) ys _ _ _ H1 h2 hn'
    refine ⟨ρ', own', H', ⟨hle _ _ _ (by simp [Rho.set]), hd⟩, Rho.le_trans hle1 hle⟩
  | [], _, _ :: _, _, _, _, _, h, _ => h.elim
  | .v _ :: _, _, [], _, _, _, _, h, _ => h.elim
  | .s _ _ _ :: _, _, [], _, _, _, _, h, _ => h.elim
end
end Go.Sx

namespace Go.Sx
section
variable {Dq : Prop} {P : Program} {c : Ctx} {Fr RO : Nat → Prop} {ρ : Rho} {own : Foot} {hp : HpF} {o : Oper} {a : Act} {w : World} {ev : Operand → SVal}
theorem load_run {t : TypeId} {i : TI} (F : TyFacts P t i) (ad : Addr) (sv : List SVal) (vals : List Value) (hd : DL ρ sv vals) (hl : i.size ≤ vals.length)
    (hc : ∀ j v, j < i.size → vals[j]? = some v → w.cell? (ad.add j) = some v) {r : SVal} (hp : pack i sv = some r) (h0 : vals ≠ [] → w.cell? ad = vals[0]?) :
    ∃ v, (Instr.loadAt t (.pointer (some ad))).run P w = .ok v w ∧ D ρ r v := by
  unfold pack at hp
  cases hA : isAgg i with
  | true =>
    rw [hA] at hp
    simp only [if_true, Option.some.injEq] at hp
    subst hp
    refine ⟨.agg (vals.take i.size).toArray, ?_, ⟨_, rfl, hd.take _⟩⟩
    have hr := run_loadCells_list (P := P) w ad (vals.take i.size) (fun j v hj => by
      rw [List.getElem?_take] at hj
      split at hj
      · rename_i h; exact hc j v h hj
      · cases hj)
    rw [List.length_take, Nat.min_eq_left hl] at hr
    unfold Instr.loadAt Instr.sureAddr loadVar
    rw [Sem.run_bind]
    simp only [Sem.run_pure, Result.andThen_ok]
    rw [Sem.run_bind, run_isAgg F, Result.andThen_ok, hA]
    simp only [if_true]
    rw [Sem.run_bind, run_sizeOf F, Result.andThen_ok, Sem.run_bind, hr, Result.andThen_ok]
    rfl
  | false =>
    rw [hA] at hp
    cases sv with
    | nil => simp at hp
    | cons x rest =>
      simp only [Bool.false_eq_true, if_false, Option.some.injEq] at hp
      subst hp
      cases vals with
      | nil => exact hd.elim
      | cons v vs =>
        refine ⟨v, ?_, hd.1⟩
        have h1 := h0 (by simp)
        unfold Instr.loadAt Instr.sureAddr loadVar
        rw [Sem.run_bind]
        simp only [Sem.run_pure, Result.andThen_ok]
        rw [Sem.run_bind, run_isAgg F, Result.andThen_ok, hA]
        simp only [Bool.false_eq_true, if_false]
        rw [run_load, h1]
        rfl

theorem step_load {gl : Glob} (hgl : ∀ g o, gl g = some o → w.heap[g]? = some o) {t : TypeId} {i : TI} {x : Operand} {r : SVal} {p : Prop} {us : List Ent} {d : Nat} (H : HRel Fr RO ρ own hp w) (hev : ∀ x, D ρ (ev x) (a.eval x)) (F : TyFacts P t i) (ho : o.op = .load t x)
    (h : loadS gl i hp d (ev x) = some (p, r, us)) (hp' : p) : Step Dq P Fr RO ρ hp o a w r us := by
  have hx := hev x
  unfold loadS at h
  split at h
  · rename_i g off hx'
    rw [hx'] at hx
    split at h
    · rename_i arr ty hg0
      split at h
      · rename_i y hy
        simp only [Option.some.injEq, Prod.mk.injEq] at h
        obtain ⟨rfl, rfl, rfl⟩ := h
        have hg := hgl _ _ hg0
        have hcell : ∀ j v, (arr.toList.drop off)[j]? = some v → w.cell? ((⟨g, off, none⟩ : Addr).add j) = some v := by
          intro j v hj
          rw [add_lit]
          rw [List.getElem?_drop] at hj
          simp only [World.cell?, hg]
          simpa using hj
        obtain ⟨v, hv, hdv⟩ := load_run F (⟨g, off, none⟩ : Addr) ((arr.toList.drop off).map .v) (arr.toList.drop off) (DL.vals (ρ := ρ) _) (by rw [List.length_drop, Array.length_toList]; omega) (fun j v _ hj => hcell j v hj) hy (by
          intro hne
          cases hq : arr.toList.drop off with
          | nil => exact absurd hq hne
          | cons z zs =>
            have := hcell 0 z (by rw [hq]; rfl)
            rw [add_lit, Nat.add_zero] at this
            simpa using this)
        refine step_pure H (v := v) ?_ hdv
        simp only [execOp, ho]
        rw [show a.eval x = _ from hx, Sem.run_bind, hv]
        rfl
      · cases h
    · cases h
  · rename_i b u off hx'
    rw [hx'] at hx
    obtain ⟨ad, hρ, hax⟩ := hx
    split at h
    · rename_i cs hcs
      split at h
      · rename_i y hy
        simp only [Option.some.injEq, Prod.mk.injEq] at h
        obtain ⟨rfl, rfl, rfl⟩ := h
        obtain ⟨val, h1, g, arr, ty, rfl, hg, hd, _⟩ := H.obj hcs
        rw [hρ] at h1
        cases h1
        have hlen := hd.length
        have hcell : ∀ j v, (arr.toList.drop off)[j]? = some v → w.cell? (((⟨g, 0, none⟩ : Addr).add off).add j) = some v := by
          intro j v hj
          rw [add_add, add_lit, Nat.zero_add]
          rw [List.getElem?_drop] at hj
          simp only [World.cell?, hg]
          simpa using hj
        obtain ⟨v, hv, hdv⟩ := load_run F ((⟨g, 0, none⟩ : Addr).add off) (cs.drop off) (arr.toList.drop off) (hd.drop off) (by rw [List.length_drop, ← hlen]; omega) (fun j v _ hj => hcell j v hj) hy (by
          intro hne
          cases hq : arr.toList.drop off with
          | nil => exact absurd hq hne
          | cons z zs =>
            have := hcell 0 z (by rw [hq]; rfl)
            rw [add_add, Nat.add_zero] at this
            simpa using this)
        refine step_pure H (v := v) ?_ hdv
        simp only [execOp, ho, hax]
        rw [Sem.run_bind, hv]
        rfl
      · cases h
    · cases h
  · rename_i b u sz j off hx'
    rw [hx'] at hx
    obtain ⟨ad, n, cp, hρ, hax⟩ := hx
    split at h
    · rename_i et rw_ sz' xs hcs
      split at h
      · rename_i y hy
        split at h
        · rename_i hcond
          simp only [Bool.and_eq_true, decide_eq_true_eq] at hcond
          obtain ⟨⟨rfl, hten⟩, habs⟩ := hcond
          simp only [Option.some.injEq, Prod.mk.injEq] at h
          obtain ⟨rfl, rfl, rfl⟩ := h
          obtain ⟨hj, hoff⟩ := hp'
          obtain ⟨val, h1, hh⟩ := H.obj hcs
          rw [hρ] at h1
          cases h1
          obtain ⟨vals, hca, hvl, hall, _, hcell, _⟩ := row_cells hh
          have hpart := flatten_part j off i.size hall hj hoff
          have hcs2 : CellsAre RO w (((xs.getD j []).drop off).take i.size) ((vals.drop (j * sz + off)).take i.size) := by
            rw [← hpart]; exact (hca.drop _).take _
          have hel : (xs.getD j []).length = sz := by
            rw [List.getD_eq_getElem?_getD, List.getElem?_eq_getElem hj]
            exact hall _ (List.getElem_mem hj)
          have hlv : ((vals.drop (j * sz + off)).take i.size).length = i.size := by
            rw [← hcs2.length, List.length_take, List.length_drop, hel]; omega
          obtain ⟨ρ', own', H', hd', hle⟩ := open_sound d _ 0 _ ρ own hp H hcs2 (by
            have key : ∀ (es : List Ent), absentAll hp es = true → ∀ e ∈ es, hp e.name = none := by
              intro es
              induction es with
              | nil => simp
              | cons e r ih =>
                intro hh e' he'
                simp only [absentAll, Bool.and_eq_true, Option.isNone_iff_eq_none] at hh
                rcases List.mem_cons.1 he' with rfl | he'
                · exact hh.1
                · exact ih hh.2 e' he'
            exact key _ habs)
          have hc2 : ∀ q v, ((vals.drop (j * sz + off)).take i.size)[q]? = some v → w.cell? ((ad.add (j * sz + off)).add q) = some v := by
            intro q v hq
            rw [List.getElem?_take] at hq
            split at hq
            · rw [List.getElem?_drop] at hq
              rw [add_add]
              exact hcell ad n cp rfl _ v hq
            · cases hq
          obtain ⟨v, hv, hdv⟩ := load_run (ρ := ρ') F (ad.add (j * sz + off)) _ _ hd' (by omega) (fun q v _ hq => hc2 q v hq) hy (by
            intro hne
            cases hq : (vals.drop (j * sz + off)).take i.size with
            | nil => exact absurd hq hne
            | cons z zs =>
              have := hc2 0 z (by rw [hq]; rfl)
              rw [add_add, Nat.add_zero] at this
              simpa using this)
          refine step_value (v := v) (w' := w) ?_ H' hdv hle (fun _ h => h) (Adv.refl _ _)
          simp only [execOp, ho, hax]
          rw [Sem.run_bind, hv]
          rfl
        · cases h
      · cases h
    · cases h
  · cases h

theorem shut_plain : ∀ {l : List SVal} {cs : List Cell} {us : List Ent} {vs : List Value} {ρ : Rho}, shutCells (fun _ => none) l = some (cs, us) → DL ρ l vs → (∀ v ∈ vs, v.oneCell' = true) → us = [] ∧ CellsAre RO w cs vs
  | [], cs, us, [], ρ, h, _, _ => by simp [shutCells] at h; obtain ⟨rfl, rfl⟩ := h; exact ⟨rfl, trivial⟩
  | .v x :: r, cs, us, v :: vs, ρ, h, ⟨h1, h2⟩, h1c => by
    unfold shutCells at h
    split at h
    · rename_i l u hr
      simp only [Option.some.injEq, Prod.mk.injEq] at h
      obtain ⟨rfl, rfl⟩ := h
      obtain ⟨h3, h4⟩ := shut_plain hr h2 (fun v hv => h1c v (by simp [hv]))
      have h5 := h1c v (by simp)
      simp only [D] at h1
      exact ⟨h3, ⟨h1, h1 ▸ h5⟩, h4⟩
    · cases h
  | .own b u :: r, cs, us, v :: vs, ρ, h, _, _ => by simp [shutCells, objOf] at h
  | .ptr _ _ _ :: r, cs, us, v :: vs, ρ, h, _, _ => by simp [shutCells] at h
  | .elt _ _ _ _ _ :: r, cs, us, v :: vs, ρ, h, _, _ => by simp [shutCells] at h
  | .agg _ :: r, cs, us, v :: vs, ρ, h, _, _ => by simp [shutCells] at h
  | .tup _ :: r, cs, us, v :: vs, ρ, h, _, _ => by simp [shutCells] at h
  | .fn _ _ _ :: r, cs, us, v :: vs, ρ, h, _, _ => by simp [shutCells] at h
  | .ifc :: r, cs, us, v :: vs, ρ, h, _, _ => by simp [shutCells] at h
  | .undef :: r, cs, us, v :: vs, ρ, h, _, _ => by simp [shutCells] at h
  | [], _, _, _ :: _, _, _, h, _ => h.elim
  | _ :: _, _, _, [], _, _, h, _ => h.elim

theorem splice_append {α : Type} (x f y : List α) (k : Nat) : splice (x ++ f) (x.length + k) y = x ++ splice f k y := by
  unfold splice
  rw [List.take_length_add_append, Nat.add_assoc, List.drop_length_add_append, List.append_assoc]

theorem flatten_set {α : Type} {sz : Nat} : ∀ {xs : List (List α)} (i : Nat) (y : List α), (∀ l ∈ xs, l.length = sz) → i < xs.length → y.length = sz → (xs.set i y).flatten = splice xs.flatten (i * sz) y
  | x :: xs, 0, y, h, _, hy => by
    have := h x (by simp)
    simp [splice, hy, ← this]
  | x :: xs, i + 1, y, h, hi, hy => by
    have hx := h x (by simp)
    have ih := flatten_set (xs := xs) i y (fun l hl => h l (by simp [hl])) (by simpa using hi) hy
    simp only [List.set_cons_succ, List.flatten_cons, ih]
    rw [Nat.add_mul, Nat.one_mul, Nat.add_comm (i * sz) sz, ← hx]
    exact (splice_append x xs.flatten y _).symm
  | [], _, _, _, hi, _ => by simp at hi

theorem splice_splice {α : Type} (xs : List α) (b off sz : Nat) (l : List α) (h1 : b + sz ≤ xs.length) (h2 : off + l.length ≤ sz) :
    splice xs b (splice ((xs.drop b).take sz) off l) = splice xs (b + off) l := by
  obtain ⟨p, q, rfl, hp⟩ : ∃ p q, xs = p ++ q ∧ p.length = b := ⟨xs.take b, xs.drop b, (List.take_append_drop b xs).symm, by rw [List.length_take]; omega⟩
  subst hp
  rw [splice_append]
  have e0 : splice (p ++ q) p.length (splice (((p ++ q).drop p.length).take sz) off l) = p ++ splice q 0 (splice (((p ++ q).drop p.length).take sz) off l) := by
    have := splice_append p q (splice (((p ++ q).drop p.length).take sz) off l) 0
    simpa using this
  rw [e0]
  congr 1
  rw [List.drop_left]
  obtain ⟨m, r, rfl, hm⟩ : ∃ m r, q = m ++ r ∧ m.length = sz := ⟨q.take sz, q.drop sz, (List.take_append_drop sz q).symm, by rw [List.length_append] at h1; rw [List.length_take]; omega⟩
  subst hm
  rw [List.take_left]
  unfold splice
  have hl : (List.take off m ++ (l ++ List.drop (off + l.length) m)).length = m.length := by simp; omega
  rw [hl, Nat.zero_add, List.drop_left, List.take_zero, List.nil_append, List.take_append_of_le_length (by omega), List.drop_append_of_le_length (by omega)]
  simp

theorem adv_setRow (w : World) (g : Nat) (cs : Array Value) (S : Nat → Prop) (hS : ∀ k, S k → k ≠ g) : Adv S w (w.setRow g cs) :=
  ⟨rfl, rfl, rfl, by simp, fun k hk => setRow_other w g k cs (hS k hk)⟩

theorem store_run {t : TypeId} {i : TI} (F : TyFacts P t i) (g off : Nat) (arr : Array Value) (ty : TypeId) (v : Value) (hg : w.heap[g]? = some (.cells arr ty (0, 0))) (hs : v.cells.toList.length = i.size)
    (hf : off + i.size ≤ arr.size) (h1 : ∀ u ∈ v.cells.toList, u.oneCell' = true) :
    (Instr.storeAt t (.pointer (some ⟨g, off, none⟩)) v).run P w = .ok () (w.setRow g (splice arr.toList off v.cells.toList).toArray) := by
  have hst := run_storeCells_at P g off ty v.cells.toList 0 arr w hg (by omega) h1
  unfold Instr.storeAt Instr.sureAddr storeVar
  rw [Sem.run_bind]
  simp only [Sem.run_pure, Result.andThen_ok]
  rw [Sem.run_bind, run_sizeOf F, Result.andThen_ok]
  have : ¬ v.cells.size ≠ i.size := by simpa using hs
  simp only [if_neg this]
  rw [hst]
  simp [splice]
end
end Go.Sx

namespace Go.Sx
section
variable {Dq : Prop} {P : Program} {c : Ctx} {Fr RO : Nat → Prop} {ρ : Rho} {own : Foot} {hp : HpF} {o : Oper} {a : Act} {w : World} {ev : Operand → SVal}
theorem Rho.set_self {ρ : Rho} {b u : Nat} {x : Value} (h : ρ b u = some x) : ρ.set b u x = ρ := by
  funext b' u'
  unfold Rho.set
  split
  · rename_i hh; rw [hh.1, hh.2, h]
  · rfl

theorem splice_prefix {α : Type} (A B l : List α) (off : Nat) (h : off + l.length ≤ A.length) : splice (A ++ B) off l = splice A off l ++ B := by
  unfold splice
  rw [List.take_append_of_le_length (by omega), List.drop_append_of_le_length h]
  simp

theorem splice_length {α : Type} (A l : List α) (off : Nat) (h : off + l.length ≤ A.length) : (splice A off l).length = A.length := by
  simp only [splice, List.length_append, List.length_take, List.length_drop]; omega

theorem take_splice {α : Type} (cur l : List α) (off n : Nat) (h : off + l.length ≤ n) (hn : n ≤ cur.length) : (splice cur off l).take n = splice (cur.take n) off l := by
  have hA : (cur.take n).length = n := by rw [List.length_take]; omega
  have : splice cur off l = splice (cur.take n) off l ++ cur.drop n := by
    rw [← splice_prefix _ _ _ _ (by omega), List.take_append_drop]
  rw [this]
  have hl : (splice (cur.take n) off l).length = n := by rw [splice_length _ _ _ (by omega)]; exact hA
  rw [List.take_append_of_le_length (by omega), List.take_of_length_le (by omega)]

theorem CellsAre.splice {RO : Nat → Prop} {w : World} {xs xs' : List Cell} {ys ys' : List Value} (off : Nat) (h : CellsAre RO w xs ys) (h' : CellsAre RO w xs' ys') : CellsAre RO w (splice xs off xs') (splice ys off ys') := by
  unfold Sx.splice
  rw [h'.length]
  exact (h.take off).append (h'.append (h.drop _))

theorem step_store {t : TypeId} {i : TI} {x y : Operand} {r : SVal} {p : Prop} {us : List Ent} (H : HRel Fr RO ρ own hp w) (hev : ∀ x, D ρ (ev x) (a.eval x)) (F : TyFacts P t i) (ho : o.op = .store t x y)
    (h : storeS i hp (ev x) (ev y) = some (p, r, us)) (hp' : p) : Step Dq P Fr RO ρ hp o a w r us := by
  have hx := hev x
  unfold storeS at h
  split at h
  · rename_i hsol
    simp only [Bool.and_eq_true, beq_iff_eq] at hsol
    obtain ⟨hdl, hone⟩ := cells_rel H (hev y) hsol.1
    have hlen : (a.eval y).cells.toList.length = i.size := by rw [← hdl.length]; exact hsol.2
    split at h
    · rename_i b u off hx'
      rw [hx'] at hx
      obtain ⟨ad, hρ, hax⟩ := hx
      split at h
      · rename_i cs hcs
        simp only [Option.some.injEq, Prod.mk.injEq] at h
        obtain ⟨rfl, rfl, rfl⟩ := h
        obtain ⟨e, he, hu, heo⟩ := objOf_some hcs
        obtain ⟨hn, val, h1, hh⟩ := H.ent b e he
        rw [heo] at hh
        obtain ⟨g, arr, ty, rfl, hg, hd, hown⟩ := hh
        rw [hu, hρ] at h1
        cases h1
        have hf : off + i.size ≤ arr.size := by have := hd.length; simp at this; omega
        have hr := store_run F g off arr ty (a.eval y) hg hlen hf hone
        have hax' : a.eval x = .pointer (some ⟨g, off, none⟩) := by rw [hax, add_lit, Nat.zero_add]
        obtain ⟨H', hle⟩ := H.upd (w' := w.setRow g (splice arr.toList off (a.eval y).cells.toList).toArray) b u (.cells (splice cs off (cellsOf (ev y)))) (.pointer (some ⟨g, 0, none⟩)) (own b) (.inl hρ) (fun e' he' => by rw [he] at he'; cases he'; omega)
          (adv_setRow w g _ _ (fun k hk hkg => hk.2 ((hown k).2 hkg)))
          ⟨g, _, ty, rfl, setRow_heap w g arr _ ty _ hg, by
            rw [Rho.set_self hρ]
            exact hd.splice off hdl, hown⟩
          (fun k hk => ⟨.inl hk, by have := (hown k).1 hk; subst this; simp; exact (Array.getElem?_eq_some_iff.1 hg).1⟩)
        rw [Rho.set_self hρ] at H' hle
        refine step_skip (w' := w.setRow g (splice arr.toList off (a.eval y).cells.toList).toArray) ?_ H' hle (fun _ h => h) (adv_setRow w g _ _ (fun k hk hkg => by
          have hog := (hown k).2 hkg
          rcases hk with hk | hk
          · exact (H.ro b k hog).1 hk
          · exact (H.ro b k hog).2.1 hk))
        simp only [execOp, ho, hax']
        rw [Sem.run_bind, hr]
        rfl
      · cases h
    · rename_i b u sz j off hx'
      rw [hx'] at hx
      obtain ⟨ad, n, cp, hρ, hax⟩ := hx
      split at h
      · rename_i et sz' xs l us' hcs hsh
        split at h
        · rename_i hsz
          subst hsz
          simp only [Option.some.injEq, Prod.mk.injEq] at h
          obtain ⟨rfl, rfl, rfl⟩ := h
          obtain ⟨hj, hoff⟩ := hp'
          obtain ⟨e, he, hu, heo⟩ := objOf_some hcs
          obtain ⟨hn, val, h1, hh⟩ := H.ent b e he
          rw [heo] at hh
          rw [hu, hρ] at h1
          cases h1
          obtain ⟨vals, hrow, hca, hown, hall⟩ := hh
          have hcl := (shut_plain (w := w) (RO := RO) hsh hdl hone).2
          have hll : l.length = i.size := by rw [hcl.length]; exact hlen
          rcases hrow.2 with ⟨e', _⟩ | ⟨g, cap, cur, e', hB, hg, hnc, hcm, hcs', htk⟩
          · cases e'
          · cases e'
            have hax' : a.eval x = .pointer (some ⟨g, j * sz + off, none⟩) := by rw [hax, add_lit, Nat.zero_add]
            have hjs : j * sz + sz ≤ xs.length * sz := by
              have : (j + 1) * sz ≤ xs.length * sz := Nat.mul_le_mul_right _ hj
              rwa [Nat.add_mul, Nat.one_mul] at this
            have hcapl : xs.length * sz ≤ cp * sz := Nat.mul_le_mul_right _ hnc
            have hf : j * sz + off + i.size ≤ cur.size := by omega
            have hr := store_run F g (j * sz + off) cur et (a.eval y) hg hlen hf hone
            have hel : (xs.getD j []).length = sz := by
              rw [List.getD_eq_getElem?_getD, List.getElem?_eq_getElem hj]
              exact hall _ (List.getElem_mem hj)
            have hspl : (splice (xs.getD j []) off l).length = sz := by simp only [splice, List.length_append, List.length_take, List.length_drop]; omega
            have hfl : (xs.set j (splice (xs.getD j []) off l)).flatten = splice xs.flatten (j * sz + off) l := by
              have hfl' : xs.flatten.length = xs.length * sz := by rw [hca.length, hrow.1]
              rw [flatten_set j _ hall hj hspl, ← flatten_at j hall hj, splice_splice _ _ _ _ _ (by omega) (by omega)]
            have hvl : vals.length = xs.length * sz := hrow.1
            have hv' : CellsAre RO (w.setRow g (splice cur.toList (j * sz + off) (a.eval y).cells.toList).toArray) (splice xs.flatten (j * sz + off) l) (splice vals (j * sz + off) (a.eval y).cells.toList) := by
              have hstay : ∀ k, RO k → (w.setRow g (splice cur.toList (j * sz + off) (a.eval y).cells.toList).toArray).heap[k]? = w.heap[k]? := fun k hk => setRow_other w g k _ (fun hkg => (H.ro b k ((hown k).2 (by simp [Value.ownBlock, hkg]))).1 hk)
              have hA := hca.adv (RO' := RO) (w' := w.setRow g (splice cur.toList (j * sz + off) (a.eval y).cells.toList).toArray) (fun _ h => h) hstay
              have hB' := hcl.adv (RO' := RO) (w' := w.setRow g (splice cur.toList (j * sz + off) (a.eval y).cells.toList).toArray) (fun _ h => h) hstay
              exact hA.splice _ hB'
            obtain ⟨H', hle⟩ := H.upd (w' := w.setRow g (splice cur.toList (j * sz + off) (a.eval y).cells.toList).toArray) b u (.row true et sz (xs.set j (splice (xs.getD j []) off l))) (.slice (some ⟨g, 0, none⟩) xs.length cp) (own b) (.inl hρ) (fun e' he' => by rw [he] at he'; cases he'; omega)
              (adv_setRow w g _ _ (fun k hk hkg => hk.2 ((hown k).2 (by simp [Value.ownBlock, hkg]))))
              ⟨splice vals (j * sz + off) (a.eval y).cells.toList, ⟨by rw [List.length_set, splice_length _ _ _ (by rw [hlen]; omega)]; exact hvl, .inr ⟨g, cp, _, by rw [List.length_set], hB, setRow_heap w g cur _ et _ hg, by rw [List.length_set]; exact hnc, hcm, by
                  rw [List.size_toArray, splice_length _ _ _ (by rw [hlen]; simpa using hf)]; simpa using hcs', by
                  rw [List.length_set, List.toList_toArray, ← htk]
                  exact take_splice _ _ _ _ (by omega) (by simp; omega)⟩⟩,
                by rw [hfl]; exact hv', hown, by
                  intro l' hl'
                  rcases List.mem_or_eq_of_mem_set hl' with h | h
                  · exact hall _ h
                  · rw [h]; exact hspl⟩
              (fun k hk => ⟨.inl hk, by have := (hown k).1 hk; simp only [Value.ownBlock, Option.some.injEq] at this; subst this; simp; exact (Array.getElem?_eq_some_iff.1 hg).1⟩)
            rw [Rho.set_self hρ] at H' hle
            refine step_skip (w' := w.setRow g (splice cur.toList (j * sz + off) (a.eval y).cells.toList).toArray) ?_ H' hle (fun _ h => h) (adv_setRow w g _ _ (fun k hk hkg => by
              have hog := (hown k).2 (by simp [Value.ownBlock, hkg])
              rcases hk with hk | hk
              · exact (H.ro b k hog).1 hk
              · exact (H.ro b k hog).2.1 hk))
            simp only [execOp, ho, hax']
            rw [Sem.run_bind, hr]
            rfl
        · cases h
      · cases h
    · cases h
  · cases h
end
end Go.Sx

namespace Go.Sx
section
variable {Dq : Prop} {P : Program} {c : Ctx} {Fr RO : Nat → Prop} {ρ : Rho} {own : Foot} {hp : HpF} {o : Oper} {a : Act} {w : World} {ev : Operand → SVal}
theorem fieldAt_get : ∀ (l : List (Nat × Nat)) (i : Nat), fieldAt l i = l[i]?
  | [], i => by simp [fieldAt]
  | x :: r, 0 => rfl
  | x :: r, i + 1 => by simp [fieldAt, fieldAt_get r i]

theorem struct_field {t : TypeId} {i : TI} (F : TyFacts P t i) {fs : List (Nat × Nat)} (hi : i.td = .struct fs) {f o u : Nat} (hf : fieldAt fs f = some (o, u)) :
    ∃ gs fl, P.underlying t = some (.struct gs) ∧ gs[f]? = some fl ∧ fl.offset = o ∧ fl.type = u := by
  have ht := F.td
  rw [hi] at ht
  obtain ⟨gs, hu, hg, _⟩ := td_struct ht
  rw [fieldAt_get, ← hg, List.getElem?_map] at hf
  cases hgf : gs[f]? with
  | none => simp [hgf] at hf
  | some fl =>
    simp [hgf] at hf
    exact ⟨gs, fl, hu, hgf, hf.1, hf.2⟩

theorem step_fieldAddr {t : TypeId} {i j : TI} {x : Operand} {f o' u' : Nat} {fs : List (Nat × Nat)} (H : HRel Fr RO ρ own hp w) (hev : ∀ x, D ρ (ev x) (a.eval x)) (F : TyFacts P t i) (hi : i.td = .struct fs)
    (hf : fieldAt fs f = some (o', u')) (F' : TyFacts P u' j) (hj : 0 < j.size) (ho : o.op = .fieldAddr t x f) {r : SVal}
    (hx : (∃ b u off, ev x = .ptr b u off ∧ r = .ptr b u (off + o')) ∨ ∃ b u sz k off, ev x = .elt b u sz k off ∧ r = .elt b u sz k (off + o')) : Step Dq P Fr RO ρ hp o a w r [] := by
  obtain ⟨gs, fl, hu, hgf, h1, h2⟩ := struct_field F hi hf
  have hrun : ∀ ad : Addr, (Instr.fieldAt t (.pointer (some ad)) f).run P w = .ok (.pointer (some (ad.add o'))) w := by
    intro ad
    unfold Instr.fieldAt
    rw [Sem.run_bind, run_underlying hu w, Result.andThen_ok]
    simp only [hgf]
    unfold Instr.sureAddr
    rw [Sem.run_bind]
    simp only [Sem.run_pure, Result.andThen_ok]
    rw [Sem.run_bind]
    unfold fieldPlace
    rw [Sem.run_bind, h2, run_sizeOf F', Result.andThen_ok, if_neg (by omega), h1]
    rfl
  have hx0 := hev x
  rcases hx with ⟨b, u, off, hx, rfl⟩ | ⟨b, u, sz, k, off, hx, rfl⟩
  · rw [hx] at hx0
    obtain ⟨ad, hρ, hax⟩ := hx0
    refine step_pure H (v := .pointer (some (ad.add (off + o')))) ?_ ⟨ad, hρ, rfl⟩
    simp only [execOp, ho, hax]
    rw [Sem.run_bind, hrun, add_add]
    rfl
  · rw [hx] at hx0
    obtain ⟨ad, n, cp, hρ, hax⟩ := hx0
    refine step_pure H (v := .pointer (some (ad.add (k * sz + (off + o'))))) ?_ ⟨ad, n, cp, hρ, rfl⟩
    simp only [execOp, ho, hax]
    rw [Sem.run_bind, hrun, add_add, Nat.add_assoc]
    rfl

theorem part_run {t : TypeId} {i : TI} (F : TyFacts P t i) (arr : Array Value) (cs : List SVal) (off : Nat) {r : SVal} (hd : DL ρ cs arr.toList) (hp : pack i (cs.drop off) = some r) (hl : off + i.size ≤ cs.length) :
    ∃ v, (part t arr off).run P w = .ok v w ∧ D ρ r v := by
  have hlen := hd.length
  unfold part
  unfold pack at hp
  cases hA : isAgg i with
  | true =>
    rw [hA] at hp
    simp only [if_true, Option.some.injEq] at hp
    subst hp
    refine ⟨.agg (arr.extract off (off + i.size)), ?_, ⟨_, rfl, ?_⟩⟩
    · rw [Sem.run_bind, run_isAgg F, Result.andThen_ok, hA]
      simp only [if_true]
      rw [Sem.run_bind, run_sizeOf F, Result.andThen_ok]
      rfl
    · have := (hd.drop off).take i.size
      have e : (arr.extract off (off + i.size)).toList = (arr.toList.drop off).take i.size := by
        rw [Array.toList_extract, List.extract_eq_take_drop]
        congr 1
        omega
      rw [e]
      exact this
  | false =>
    rw [hA] at hp
    cases hq : cs.drop off with
    | nil => rw [hq] at hp; simp at hp
    | cons x rest =>
      rw [hq] at hp
      simp only [Bool.false_eq_true, if_false, Option.some.injEq] at hp
      subst hp
      have hd' := hd.drop off
      rw [hq] at hd'
      cases hv : arr.toList.drop off with
      | nil => rw [hv] at hd'; exact hd'.elim
      | cons v vs =>
        rw [hv] at hd'
        refine ⟨v, ?_, hd'.1⟩
        rw [Sem.run_bind, run_isAgg F, Result.andThen_ok, hA]
        have : arr[off]? = some v := by
          have h0 : (arr.toList.drop off)[0]? = some v := by rw [hv]; rfl
          rw [List.getElem?_drop] at h0
          simpa using h0
        simp [this]

theorem step_field {t : TypeId} {i j : TI} {x : Operand} {f o' u' : Nat} {fs : List (Nat × Nat)} {cs : List SVal} {r : SVal} (H : HRel Fr RO ρ own hp w) (hev : ∀ x, D ρ (ev x) (a.eval x)) (F : TyFacts P t i) (hi : i.td = .struct fs)
    (hf : fieldAt fs f = some (o', u')) (F' : TyFacts P u' j) (ho : o.op = .field t x f) (hx : ev x = .agg cs) (hr : pack j (cs.drop o') = some r) (hl : o' + j.size ≤ cs.length) : Step Dq P Fr RO ρ hp o a w r [] := by
  obtain ⟨gs, fl, hu, hgf, h1, h2⟩ := struct_field F hi hf
  have hx0 := hev x
  rw [hx] at hx0
  obtain ⟨arr, hax, hd⟩ := hx0
  obtain ⟨v, hv, hdv⟩ := part_run (w := w) F' arr cs o' hd hr hl
  refine step_pure H (v := v) ?_ hdv
  simp only [execOp, ho, hax]
  rw [Sem.run_bind]
  have : (Instr.field t (.agg arr) f).run P w = .ok v w := by
    unfold Instr.field
    rw [Sem.run_bind, run_underlying hu w, Result.andThen_ok]
    simp only [hgf, h1, h2, asAgg]
    rw [Sem.run_bind]
    simp only [Sem.run_pure, Result.andThen_ok]
    exact hv
  rw [this]
  rfl

theorem step_indexArr {t e : TypeId} {i j : TI} {x y : Operand} {m : Nat} {k : IntKind} {n : Int} {cs : List SVal} {r : SVal} (H : HRel Fr RO ρ own hp w) (hev : ∀ x, D ρ (ev x) (a.eval x)) (F : TyFacts P t i) (hi : i.td = .arr m e)
    (F' : TyFacts P e j) (ho : o.op = .index t x y) (hx : ev x = .agg cs) (hy : ev y = .v (.int k n)) (hr : pack j (cs.drop (n.toNat * j.size)) = some r) (h0 : 0 ≤ n) (h1 : n < m) (hl : n.toNat * j.size + j.size ≤ cs.length) :
    Step Dq P Fr RO ρ hp o a w r [] := by
  have ht := F.td
  rw [hi] at ht
  have hu := td_arr ht
  have hx0 := hev x
  rw [hx] at hx0
  obtain ⟨arr, hax, hd⟩ := hx0
  have hy0 := hev y
  rw [hy] at hy0
  simp only [D] at hy0
  obtain ⟨v, hv, hdv⟩ := part_run (w := w) F' arr cs (n.toNat * j.size) hd hr hl
  refine step_pure H (v := v) ?_ hdv
  simp only [execOp, ho, hax, hy0]
  rw [Sem.run_bind]
  have : (Instr.index t (.agg arr) (.int k n)).run P w = .ok v w := by
    unfold Instr.index
    rw [Sem.run_bind]
    simp only [asIntOf, Sem.run_pure, Result.andThen_ok]
    rw [Sem.run_bind, run_underlying hu w, Result.andThen_ok]
    simp only [if_pos (show 0 ≤ n ∧ n < m from ⟨h0, h1⟩)]
    rw [Sem.run_bind, run_sizeOf F', Result.andThen_ok]
    exact hv
  rw [this]
  rfl

theorem step_indexSlice {t e : TypeId} {i j : TI} {x y : Operand} {k : IntKind} {n : Int} {b u et sz : Nat} {rw' : Bool} {xs : List (List Cell)} (H : HRel Fr RO ρ own hp w) (hev : ∀ x, D ρ (ev x) (a.eval x)) (F : TyFacts P t i) (hi : i.td = .slice e)
    (F' : TyFacts P e j) (hsz : sz = j.size) (ho : o.op = .indexAddr t x y) (hx : ev x = .own b u) (hy : ev y = .v (.int k n)) (hob : objOf hp b u = some (.row rw' et sz xs)) (h0 : 0 ≤ n) (h1 : n < xs.length) :
    Step Dq P Fr RO ρ hp o a w (.elt b u sz n.toNat 0) [] := by
  have ht := F.td
  rw [hi] at ht
  have hu := td_slice ht
  have hx0 := hev x
  rw [hx] at hx0
  simp only [D] at hx0
  have hy0 := hev y
  rw [hy] at hy0
  simp only [D] at hy0
  obtain ⟨val, hv, hh⟩ := H.obj hob
  rw [hx0] at hv
  cases hv
  obtain ⟨vals, _, _, _, _, _, hpos⟩ := row_cells hh
  obtain ⟨ad, cp, hval⟩ := hpos (by omega)
  rw [hval] at hx0
  refine step_pure H (v := .pointer (some (ad.add (n.toNat * sz)))) ?_ ⟨ad, _, cp, hx0, rfl⟩
  simp only [execOp, ho, hval, hy0]
  rw [Sem.run_bind]
  have : (Instr.indexAt t (.slice (some ad) xs.length cp) (.int k n)).run P w = .ok (.pointer (some (ad.add (n.toNat * sz)))) w := by
    unfold Instr.indexAt
    simp [asIntOf, run_underlying hu, h0, h1, run_sizeOf F', hsz]
  rw [this]
  rfl

theorem step_indexArrAddr {t e : TypeId} {i j : TI} {x y : Operand} {k : IntKind} {n : Int} {m b u off : Nat} (H : HRel Fr RO ρ own hp w) (hev : ∀ x, D ρ (ev x) (a.eval x)) (F : TyFacts P t i) (hi : i.td = .arr m e)
    (F' : TyFacts P e j) (ho : o.op = .indexAddr t x y) (hx : ev x = .ptr b u off) (hy : ev y = .v (.int k n)) (h0 : 0 ≤ n) (h1 : n < m) :
    Step Dq P Fr RO ρ hp o a w (.ptr b u (off + n.toNat * j.size)) [] := by
  have ht := F.td
  rw [hi] at ht
  have hu := td_arr ht
  have hx0 := hev x
  rw [hx] at hx0
  obtain ⟨ad, hρ, hax⟩ := hx0
  have hy0 := hev y
  rw [hy] at hy0
  simp only [D] at hy0
  refine step_pure H (v := .pointer (some (ad.add (off + n.toNat * j.size)))) ?_ ⟨ad, hρ, rfl⟩
  simp only [execOp, ho, hax, hy0]
  rw [Sem.run_bind]
  have : (Instr.indexAt t (.pointer (some (ad.add off))) (.int k n)).run P w = .ok (.pointer (some (ad.add (off + n.toNat * j.size)))) w := by
    unfold Instr.indexAt
    simp [asIntOf, run_underlying hu, h0, h1, run_sizeOf F', Instr.sureAddr, add_add]
  rw [this]
  rfl

theorem step_range {t : TypeId} {i : TI} {x : Operand} {s : ByteArray} {b : Nat} (H : HRel Fr RO ρ own hp w) (hev : ∀ x, D ρ (ev x) (a.eval x)) (F : TyFacts P t i) (hi : i.td = .str) (hb : hp b = none)
    (ho : o.op = .range t x) (hx : ev x = .v (.string s)) : Step Dq P Fr RO ρ hp o a w (.ptr b 0 0) [⟨b, 0, .str s 0⟩] := by
  have ht := F.td
  rw [hi] at ht
  have hu := td_str ht
  have hx0 := hev x
  rw [hx] at hx0
  simp only [D] at hx0
  obtain ⟨ρ', own', h1, h2, h3⟩ := H.new hb (.stringIter s 0) (.str s 0) (.pointer (some ⟨w.heap.size, 0, none⟩)) (fun ρ' _ => ⟨w.heap.size, rfl, heap_alloc_new w _, fun k => Iff.rfl⟩)
  refine step_value (v := .pointer (some ⟨w.heap.size, 0, none⟩)) (w' := w.alloc (.stringIter s 0)) ?_ h1 ⟨_, h3, rfl⟩ h2 (fun _ h => h) (adv_frame H (adv_alloc w _ _ (fun k h => h)))
  simp only [execOp, ho, hx0]
  rw [Sem.run_bind]
  have : (Instr.range t (.string s)).run P w = .ok (.pointer (some ⟨w.heap.size, 0, none⟩)) (w.alloc (.stringIter s 0)) := by
    unfold Instr.range
    simp [run_underlying hu]
  rw [this]
  rfl

theorem made_list (z : Array Value) (hz : 0 < z.size) : ∀ q : Nat, (List.range (q * z.size)).map (fun i => z[i % z.size]!) = (List.replicate q z.toList).flatten
  | 0 => by simp
  | q + 1 => by
    rw [Nat.add_mul, Nat.one_mul, List.range_add, List.map_append, made_list z hz q, List.replicate_succ', List.flatten_append]
    congr 1
    simp only [List.map_map, List.flatten_cons, List.flatten_nil, List.append_nil]
    apply List.ext_getElem
    · simp
    · intro i h1 h2
      have hi : i < z.size := by simpa using h2
      simp [Nat.mul_add_mod_of_lt, Nat.mod_eq_of_lt hi, hi, Nat.mul_comm q z.size]

theorem step_makeSlice {t e : TypeId} {i j : TI} {x y : Operand} {k k' : IntKind} {n m : Int} {b : Nat} (H : HRel Fr RO ρ own hp w) (hev : ∀ x, D ρ (ev x) (a.eval x)) (F : TyFacts P t i) (hi : i.td = .slice e)
    (F' : TyFacts P e j) (hb : hp b = none) (ho : o.op = .makeSlice t x y) (hx : ev x = .v (.int k n)) (hy : ev y = .v (.int k' m)) (h0 : 0 ≤ n) (h1 : n ≤ m) (hs : 0 < j.size) (hby : 0 < j.bytes) (hz : j.zero.length = j.size)
    (hm : j.bytes * m ≤ 140737488355328) : Step Dq P Fr RO ρ hp o a w (.own b 0) [⟨b, 0, .row true e j.size (List.replicate n.toNat (j.zero.map .v))⟩] := by
  have ht := F.td
  rw [hi] at ht
  have hu := td_slice ht
  have hx0 := hev x
  rw [hx] at hx0
  have hy0 := hev y
  rw [hy] at hy0
  simp only [D] at hx0 hy0
  have hmb : m ≤ 140737488355328 := by
    have : (1 : Int) * m ≤ j.bytes * m := Int.mul_le_mul_of_nonneg_right (by omega) (by omega)
    omega
  have hr := run_make (P := P) w t e F'.info F'.z hu F'.hi F'.hz k k' n m h0 h1 (by rw [F'.bytes]; omega) (by omega)
  have hzc : F'.z.cells.size = j.size := by have := F'.zero; rw [← Array.length_toList, this, hz]
  have hml : (madeCells F'.z.cells (m.toNat * F'.info.size)).size = m.toNat * j.size := by rw [F'.size]; simp [madeCells]
  have hcells : ∀ q, q ≤ m.toNat → ((madeCells F'.z.cells (m.toNat * F'.info.size)).toList.take (q * j.size)) = (List.replicate q F'.z.cells.toList).flatten := by
    intro q hq
    have hle : q * j.size ≤ m.toNat * j.size := Nat.mul_le_mul_right _ hq
    have : (madeCells F'.z.cells (m.toNat * F'.info.size)).toList = (List.range (m.toNat * j.size)).map (fun i => F'.z.cells[i % F'.z.cells.size]!) := by
      rw [F'.size]; simp [madeCells]
    rw [this, ← List.map_take, List.take_range, Nat.min_eq_left hle, ← hzc]
    exact made_list _ (by omega) q
  obtain ⟨ρ', own', h2, h3, h4⟩ := H.new hb (.cells (madeCells F'.z.cells (m.toNat * F'.info.size)) e) (.row true e j.size (List.replicate n.toNat (j.zero.map .v))) (.slice (some ⟨w.heap.size, 0, none⟩) n.toNat m.toNat)
    (fun ρ' _ => ⟨(List.replicate n.toNat F'.z.cells.toList).flatten, ⟨by simp [hzc], .inr ⟨w.heap.size, m.toNat, _, by simp, Nat.zero_le _, heap_alloc_new w _, by simp; omega, by simp [maxLen]; omega, hml, by
      rw [List.length_replicate]; exact hcells _ (by omega)⟩⟩, by
        rw [F'.zero]
        have := plain_cells RO (w.alloc (.cells (madeCells F'.z.cells (m.toNat * F'.info.size)) e)) (List.replicate n.toNat j.zero) (fun x hx => by
            simp only [List.mem_flatten, List.mem_replicate] at hx
            obtain ⟨l, ⟨_, rfl⟩, hx⟩ := hx
            exact F'.one x hx)
        simpa using this, fun k => by simp [Value.ownBlock, eq_comm], by
        intro l hl
        rw [List.mem_replicate] at hl
        rw [hl.2, List.length_map, hz]⟩)
  refine step_value (v := .slice (some ⟨w.heap.size, 0, none⟩) n.toNat m.toNat) (w' := w.alloc (.cells (madeCells F'.z.cells (m.toNat * F'.info.size)) e)) ?_ h2 h4 h3 (fun _ h => h) (adv_frame H (adv_alloc w _ _ (fun k h => h)))
  simp only [execOp, ho, hx0, hy0]
  rw [Sem.run_bind, hr]
  rfl
end
end Go.Sx

namespace Go.Sx
section
variable {Dq : Prop} {P : Program} {c : Ctx} {Fr RO : Nat → Prop} {ρ : Rho} {own : Foot} {hp : HpF} {o : Oper} {a : Act} {w : World} {ev : Operand → SVal}
theorem foldl_set : ∀ (l : List Value) (off k : Nat) (cells : Array Value), off + k + l.length ≤ cells.size →
    ((l.zipIdx k).foldl (fun (cs : Array Value) (x : Value × Nat) => cs.setIfInBounds (off + x.2) x.1) cells).toList = splice cells.toList (off + k) l
  | [], off, k, cells, _ => by simp [splice]
  | x :: l, off, k, cells, h => by
    simp only [List.zipIdx_cons, List.foldl_cons]
    rw [foldl_set l off (k + 1) _ (by simp at h ⊢; omega)]
    simp only [Array.toList_setIfInBounds]
    simp only [List.length_cons] at h
    obtain ⟨p, y, q, hpq, hl⟩ : ∃ p y q, cells.toList = p ++ y :: q ∧ p.length = off + k := by
      refine ⟨cells.toList.take (off + k), cells.toList[off + k]'(by simp; omega), cells.toList.drop (off + k + 1), ?_, by rw [List.length_take]; simp; omega⟩
      rw [List.getElem_cons_drop, List.take_append_drop]
    rw [hpq]
    unfold splice
    rw [← Nat.add_assoc, ← hl]
    simp [List.set_append, Nat.add_assoc, Nat.add_comm 1, List.drop_append, List.take_append]
    exact List.take_of_length_le (by omega)

theorem fill_build (c : Ctx) (t : TI) (place : Nat → Option (Nat × Nat)) (hpl : ∀ i o n, partAt c t i = some (o, n) → place i = some (o, n)) (H : HRel Fr RO ρ own hp w) :
    ∀ (ps : List (Nat × SVal)) (vs : List (Nat × Value)) (cs cs' : List SVal) (cells : Array Value), ps.length = vs.length → (∀ i (h : i < ps.length) (h' : i < vs.length), ps[i].1 = vs[i].1 ∧ D ρ ps[i].2 vs[i].2) → DL ρ cs cells.toList →
      buildCells c t cs ps = some cs' → ∃ cells', Instr.fill place cells vs = some cells' ∧ DL ρ cs' cells'.toList
  | [], [], cs, cs', cells, _, _, hd, h => by
    simp only [buildCells, Option.some.injEq] at h
    subst h
    exact ⟨cells, rfl, hd⟩
  | (i, x) :: ps, (i', v) :: vs, cs, cs', cells, hl, hall, hd, h => by
    have h0 := hall 0 (by simp) (by simp)
    simp only [List.getElem_cons_zero] at h0
    obtain ⟨rfl, hdx⟩ := h0
    unfold buildCells at h
    split at h
    · rename_i o n hpa
      split at h
      · rename_i hc
        obtain ⟨h1, h2, h3⟩ := hc
        obtain ⟨hdl, _⟩ := cells_rel H hdx h3
        have hvl : v.cells.size = n := by rw [← Array.length_toList, ← hdl.length, h1]
        have hcl : cs.length = cells.size := by rw [hd.length]; simp
        unfold Instr.fill
        rw [hpl _ _ _ hpa]
        simp only
        rw [if_neg (by simp; omega)]
        refine fill_build c t place hpl H ps vs _ cs' _ (by simpa using hl) (fun j hj hj' => ?_) ?_ h
        · have := hall (j + 1) (by simpa using hj) (by simpa using hj')
          simpa using this
        · have e := foldl_set v.cells.toList o 0 cells (by simp; omega)
          rw [← Array.foldl_toList, Array.toList_zipIdx]
          rw [e, Nat.add_zero]
          exact hd.splice o hdl
      · cases h
    · cases h
  | [], _ :: _, _, _, _, h, _, _, _ => by simp at h
  | _ :: _, [], _, _, _, h, _, _, _ => by simp at h

theorem parts_rel (hev : ∀ x, D ρ (ev x) (a.eval x)) (l : List (Nat × Operand)) :
    ∀ i (h : i < (l.map fun p => (p.1, ev p.2)).length) (h' : i < (l.map fun p => (p.1, a.eval p.2)).length),
      (l.map fun p => (p.1, ev p.2))[i].1 = (l.map fun p => (p.1, a.eval p.2))[i].1 ∧ D ρ (l.map fun p => (p.1, ev p.2))[i].2 (l.map fun p => (p.1, a.eval p.2))[i].2 := by
  intro i h h'
  simp only [List.getElem_map]
  exact ⟨trivial, hev _⟩

theorem parts_map (a : Act) (parts : Array (Nat × Operand)) : (parts.map fun (i, x) => (i, a.eval x)).toList = parts.toList.map fun p => (p.1, a.eval p.2) := by
  rw [Array.toList_map]

theorem places_of : ∀ (gs : List Field), gs.all (fun f => (P.info? f.type).isSome) = true → ∃ places, gs.mapM (fun f => (P.info? f.type).map fun i => (f.offset, i.size)) = some places ∧ places.length = gs.length ∧
    ∀ (j : Nat) (f : Field), gs[j]? = some f → ∃ i, P.info? f.type = some i ∧ places[j]? = some (f.offset, i.size)
  | [], _ => ⟨[], rfl, rfl, by simp⟩
  | g :: gs, h => by
    simp only [List.all_cons, Bool.and_eq_true] at h
    obtain ⟨i, hi⟩ := Option.isSome_iff_exists.1 h.1
    obtain ⟨places, h1, h2, h3⟩ := places_of gs h.2
    refine ⟨(g.offset, i.size) :: places, by simp [List.mapM_cons, hi, h1], by simp [h2], ?_⟩
    intro j f hj
    cases j with
    | zero => simp at hj; subst hj; exact ⟨i, hi, rfl⟩
    | succ j => simpa using h3 j f (by simpa using hj)

theorem step_build {t : TypeId} {i : TI} {parts : Array (Nat × Operand)} {cs : List SVal} (hc : ∀ t i, c.ty t = some i → tiOf P t = some i) (H : HRel Fr RO ρ own hp w) (hev : ∀ x, D ρ (ev x) (a.eval x)) (F : TyFacts P t i)
    (hagg : isAgg i = true) (hae : eltKnown c i = true) (ho : o.op = .build t parts) (h : buildCells c i (i.zero.map .v) (parts.toList.map fun p => (p.1, ev p.2)) = some cs) : Step Dq P Fr RO ρ hp o a w (.agg cs) [] := by
  have hz : DL ρ (i.zero.map .v) F.z.cells.toList := by rw [F.zero]; exact DL.vals _
  have htd := F.td
  have fin : ∀ cells', P.built t (parts.toList.map fun p => (p.1, a.eval p.2)) = some cells' → DL ρ cs cells'.toList → Step Dq P Fr RO ρ hp o a w (.agg cs) [] := by
    intro cells' hb hd
    refine step_pure H (v := .agg cells') ?_ ⟨_, rfl, hd⟩
    simp only [execOp, ho]
    rw [Sem.run_bind, run_build w t _ cells' (by rw [parts_map]; exact hb)]
    rfl
  cases hd : i.td with
  | arr n e =>
    rw [hd] at htd
    have hu := td_arr htd
    unfold eltKnown at hae
    rw [hd] at hae
    obtain ⟨j, hj⟩ := Option.isSome_iff_exists.1 hae
    obtain ⟨Fe⟩ := tyFacts (hc e j hj)
    obtain ⟨cells', h1, h2⟩ := fill_build (w := w) c i (fun q => some (q * Fe.info.size, Fe.info.size)) (by
      intro q o' n' hq
      unfold partAt at hq
      rw [hd] at hq
      simp only [hj] at hq
      split at hq
      · simp only [Option.some.injEq, Prod.mk.injEq] at hq
        rw [Fe.size, ← hq.1, ← hq.2]
      · cases hq) H _ _ _ cs F.z.cells (by simp) (parts_rel hev parts.toList) hz h
    refine fin cells' ?_ h2
    unfold Program.built
    simp only [F.hi, hu, F.hz, Fe.hi]
    exact h1
  | struct fs =>
    rw [hd] at htd
    obtain ⟨gs, hu, hg, hall⟩ := td_struct htd
    obtain ⟨places, hp1, hp2, hp3⟩ := places_of gs.toList hall
    obtain ⟨cells', h1, h2⟩ := fill_build (w := w) c i (places.toArray[·]?) (by
      intro q o' n' hq
      unfold partAt at hq
      rw [hd] at hq
      simp only at hq
      split at hq
      · rename_i o2 u2 hfa
        split at hq
        · rename_i j hj
          simp only [Option.some.injEq, Prod.mk.injEq] at hq
          obtain ⟨rfl, rfl⟩ := hq
          rw [fieldAt_get, ← hg, List.getElem?_map] at hfa
          cases hgq : gs.toList[q]? with
          | none => simp [hgq] at hfa
          | some fl =>
            simp only [hgq, Option.map_some, Option.some.injEq, Prod.mk.injEq] at hfa
            obtain ⟨ii, hii, hpq⟩ := hp3 q fl hgq
            obtain ⟨Fj⟩ := tyFacts (hc u2 j hj)
            have : ii = Fj.info := by rw [hfa.2, Fj.hi] at hii; exact (Option.some.inj hii).symm
            simp only [List.getElem?_toArray, hpq, hfa.1, this, Fj.size]
        · cases hq
      · cases hq) H _ _ _ cs F.z.cells (by simp) (parts_rel hev parts.toList) hz h
    refine fin cells' ?_ h2
    unfold Program.built
    simp only [F.hi, hu, F.hz, hp1]
    exact h1
  | _ => simp [isAgg, hd] at hagg
end
end Go.Sx

namespace Go.Sx
section
variable {Dq : Prop} {P : Program} {c : Ctx} {Fr RO : Nat → Prop} {ρ : Rho} {own : Foot} {hp : HpF} {o : Oper} {a : Act} {w : World} {ev : Operand → SVal}
theorem plainRow_rel : ∀ {l : List Cell} {ys : List Value} {vs : List Value}, plainRow l = some ys → CellsAre RO w l vs → vs = ys ∧ l.length = ys.length
  | [], ys, [], h, _ => by simp [plainRow] at h; subst h; exact ⟨rfl, rfl⟩
  | .v x :: r, ys, v :: vs, h, ⟨h1, h2⟩ => by
    unfold plainRow at h
    split at h
    · rename_i l hl
      simp only [Option.some.injEq] at h
      subst h
      obtain ⟨h3, h4⟩ := plainRow_rel hl h2
      exact ⟨by rw [h3]; exact congrArg (· :: l) h1.1, by simp [h4]⟩
    · cases h
  | .s _ _ _ :: r, ys, vs, h, _ => by simp [plainRow] at h
  | [], _, _ :: _, _, h => h.elim
  | .v _ :: _, _, [], _, h => h.elim

theorem CellsAre.split {RO : Nat → Prop} {w : World} : ∀ {xs ys : List Cell} {vs : List Value}, CellsAre RO w (xs ++ ys) vs → ∃ a b, vs = a ++ b ∧ CellsAre RO w xs a ∧ CellsAre RO w ys b
  | [], ys, vs, h => ⟨[], vs, rfl, trivial, h⟩
  | x :: xs, ys, v :: vs, ⟨h1, h⟩ => by
    obtain ⟨a, b, rfl, h2, h3⟩ := CellsAre.split h
    exact ⟨v :: a, b, rfl, ⟨h1, h2⟩, h3⟩
  | _ :: _, _, [], h => h.elim

theorem plainRows_rel : ∀ {l : List (List Cell)} {ys : List (List Value)} {vs : List Value}, plainRows l = some ys → CellsAre RO w l.flatten vs → vs = ys.flatten ∧ l.length = ys.length ∧ ∀ sz, (∀ x ∈ l, x.length = sz) → ∀ y ∈ ys, y.length = sz
  | [], ys, vs, h, hc => by
    simp [plainRows] at h
    subst h
    cases vs with
    | nil => exact ⟨rfl, rfl, by simp⟩
    | cons _ _ => exact hc.elim
  | x :: r, ys, vs, h, hc => by
    unfold plainRows at h
    split at h
    · rename_i y l hy hl
      simp only [Option.some.injEq] at h
      subst h
      rw [List.flatten_cons] at hc
      obtain ⟨a, b, rfl, h1, h2⟩ := hc.split
      obtain ⟨h3, h4⟩ := plainRow_rel hy h1
      obtain ⟨h5, h6, h7⟩ := plainRows_rel hl h2
      refine ⟨by rw [h3, h5]; rfl, by simp [h6], fun sz hsz z hz => ?_⟩
      rcases List.mem_cons.1 hz with rfl | hz
      · rw [← h4]; exact hsz x (by simp)
      · exact h7 sz (fun x hx => hsz x (by simp [hx])) z hz
    · cases h

def Fz (hp hp' : HpF) : Prop := ∀ b, hp' b = hp b ∨ ∃ u et sz xs rw, hp b = some ⟨b, u, .row rw et sz xs⟩ ∧ hp' b = some ⟨b, u, .row false et sz xs⟩

theorem shut_sound : ∀ (l : List SVal) (cs : List Cell) (us : List Ent) (vs : List Value) (hp' : HpF) (RO : Nat → Prop) (own : Foot), shutCells hp l = some (cs, us) → HRel Fr RO ρ own hp' w → Fz hp hp' → DL ρ l vs → (∀ v ∈ vs, v.oneCell' = true) →
    ∃ RO' own', (∀ k, RO k → RO' k) ∧ HRel Fr RO' ρ own' (putsF hp' us) w ∧ Fz hp (putsF hp' us) ∧ CellsAre RO' w cs vs
  | [], cs, us, [], hp', RO, own, h, H, hF, _, _ => by
    simp [shutCells] at h
    obtain ⟨rfl, rfl⟩ := h
    exact ⟨RO, own, fun _ h => h, H, hF, trivial⟩
  | .v x :: r, cs, us, v :: vs, hp', RO, own, h, H, hF, ⟨h1, h2⟩, h1c => by
    unfold shutCells at h
    split at h
    · rename_i l u hr
      simp only [Option.some.injEq, Prod.mk.injEq] at h
      obtain ⟨rfl, rfl⟩ := h
      obtain ⟨RO', own', h3, h4, h5, h6⟩ := shut_sound r l u vs hp' RO own hr H hF h2 (fun v hv => h1c v (by simp [hv]))
      have h7 := h1c v (by simp)
      simp only [D] at h1
      exact ⟨RO', own', h3, h4, h5, ⟨h1, h1 ▸ h7⟩, h6⟩
    · cases h
  | .own b u :: r, cs, us, v :: vs, hp', RO, own, h, H, hF, ⟨h1, h2⟩, h1c => by
    unfold shutCells at h
    split at h
    · rename_i rw' et sz xs hob
      split at h
      · rename_i ys l us' hys hr
        simp only [Option.some.injEq, Prod.mk.injEq] at h
        obtain ⟨rfl, rfl⟩ := h
        obtain ⟨e, he, hu, heo⟩ := objOf_some hob
        have hcur : ∃ rw2, hp' b = some ⟨b, u, .row rw2 et sz xs⟩ := by
          rcases hF b with hb | ⟨u', et', sz', xs', rw2, hb1, hb2⟩
          · rw [he] at hb
            have hn := (H.ent b e hb).1
            exact ⟨rw', by rw [hb]; cases e; simp only at hn hu heo; subst hn hu heo; rfl⟩
          · rw [he] at hb1
            cases hb1
            simp only at hu heo
            subst hu
            cases heo
            exact ⟨false, hb2⟩
        obtain ⟨rw2, hcur⟩ := hcur
        obtain ⟨RO1, hs1, hs2, H1⟩ := H.freeze b u et sz rw2 xs hcur
        have hF1 : Fz hp (fun b' => if b = b' then some ⟨b, u, .row false et sz xs⟩ else hp' b') := by
          intro b'
          by_cases hb : b = b'
          · subst hb
            have hne : e = ⟨b, u, .row rw' et sz xs⟩ := by
              rcases hF b with hb | ⟨u', et', sz', xs', rw3, hb1, hb2⟩
              · rw [he] at hb
                have hn := (H.ent b e hb).1
                cases e; simp only at hn hu heo; subst hn hu heo; rfl
              · rw [he] at hb1
                cases hb1
                simp only at hu heo
                subst hu
                cases heo
                rfl
            exact .inr ⟨u, et, sz, xs, rw', by rw [he, hne], by simp⟩
          · simp only [if_neg hb]
            exact hF b'
        obtain ⟨RO', own', h3, h4, h5, h6⟩ := shut_sound r l us' vs _ RO1 _ hr H1 hF1 h2 (fun v hv => h1c v (by simp [hv]))
        refine ⟨RO', own', fun k hk => h3 k (hs1 k hk), h4, h5, ?_, h6⟩
        have hent := H1.ent b ⟨b, u, .row false et sz xs⟩ (by simp)
        obtain ⟨_, x, hx, vals, hR, hca, _, hall⟩ := hent
        simp only at hx
        rw [h1] at hx
        cases hx
        obtain ⟨h7, h8, h9⟩ := plainRows_rel hys hca
        subst h7
        rw [h8] at hR
        exact ⟨hR.adv h3 (fun _ _ => rfl), h9 sz hall, hca.one⟩
      · cases h
    · cases h
  | .ptr _ _ _ :: r, cs, us, v :: vs, hp', RO, own, h, _, _, _, _ => by simp [shutCells] at h
  | .elt _ _ _ _ _ :: r, cs, us, v :: vs, hp', RO, own, h, _, _, _, _ => by simp [shutCells] at h
  | .agg _ :: r, cs, us, v :: vs, hp', RO, own, h, _, _, _, _ => by simp [shutCells] at h
  | .tup _ :: r, cs, us, v :: vs, hp', RO, own, h, _, _, _, _ => by simp [shutCells] at h
  | .fn _ _ _ :: r, cs, us, v :: vs, hp', RO, own, h, _, _, _, _ => by simp [shutCells] at h
  | .ifc :: r, cs, us, v :: vs, hp', RO, own, h, _, _, _, _ => by simp [shutCells] at h
  | .undef :: r, cs, us, v :: vs, hp', RO, own, h, _, _, _, _ => by simp [shutCells] at h
  | [], _, _, _ :: _, _, _, _, _, _, _, h, _ => h.elim
  | _ :: _, _, _, [], _, _, _, _, _, _, h, _ => h.elim

theorem putsF_append : ∀ (us vs : List Ent) (hp : HpF), putsF hp (us ++ vs) = putsF (putsF hp us) vs
  | [], vs, hp => rfl
  | e :: r, vs, hp => putsF_append r vs _

theorem buildRow_sound (te : TI) : ∀ (n i : Nat) (ps : List (Nat × SVal)) (vs : List (Nat × Value)) (xs : List (List Cell)) (us : List Ent) (hp' : HpF) (RO : Nat → Prop) (own : Foot), evOp.buildRow hp te n i ps = some (xs, us) →
    HRel Fr RO ρ own hp' w → Fz hp hp' → ps.length = vs.length → (∀ j (h : j < ps.length) (h' : j < vs.length), ps[j].1 = vs[j].1 ∧ D ρ ps[j].2 vs[j].2) →
    ∃ RO' own', (∀ k, RO k → RO' k) ∧ HRel Fr RO' ρ own' (putsF hp' us) w ∧ Fz hp (putsF hp' us) ∧ CellsAre RO' w xs.flatten (vs.flatMap fun v => v.2.cells.toList) ∧ xs.length = n ∧ (∀ l ∈ xs, l.length = te.size) ∧
      vs.length = n ∧ (∀ j (h : j < vs.length), vs[j].1 = i + j ∧ vs[j].2.cells.size = te.size)
  | 0, i, [], [], xs, us, hp', RO, own, h, H, hF, _, _ => by
    simp [evOp.buildRow] at h
    obtain ⟨rfl, rfl⟩ := h
    exact ⟨RO, own, fun _ h => h, H, hF, trivial, rfl, by simp, rfl, by simp⟩
  | n + 1, i, (j, x) :: ps, (j', v) :: vs, xs, us, hp', RO, own, h, H, hF, hl, hall => by
    have h0 := hall 0 (by simp) (by simp)
    simp only [List.getElem_cons_zero] at h0
    obtain ⟨rfl, hdx⟩ := h0
    unfold evOp.buildRow at h
    split at h
    · rename_i hc
      obtain ⟨rfl, hlen, _, hsol⟩ := hc
      split at h
      · rename_i l us1 xs1 vs1 hsh hbr
        simp only [Option.some.injEq, Prod.mk.injEq] at h
        obtain ⟨rfl, rfl⟩ := h
        obtain ⟨hdl, hone⟩ := cells_rel H hdx hsol
        obtain ⟨RO1, own1, k1, k2, k3, k4⟩ := shut_sound _ _ _ _ hp' RO own hsh H hF hdl hone
        obtain ⟨RO2, own2, m1, m2, m3, m4, m5, m6, m7, m8⟩ := buildRow_sound te n (i + 1) ps vs xs1 vs1 _ RO1 own1 hbr k2 k3 (by simpa using hl) (fun q hq hq' => by
          have := hall (q + 1) (by simpa using hq) (by simpa using hq')
          simpa using this)
        refine ⟨RO2, own2, fun k hk => m1 k (k1 k hk), by rw [putsF_append]; exact m2, by rw [putsF_append]; exact m3, ?_, by simp [m5], ?_, by simp [m7], ?_⟩
        · rw [List.flatten_cons, List.flatMap_cons]
          exact (k4.adv m1 (fun _ _ => rfl)).append m4
        · intro l' hl'
          rcases List.mem_cons.1 hl' with rfl | hl'
          · rw [k4.length, ← hdl.length]; exact hlen
          · exact m6 l' hl'
        · intro q hq
          cases q with
          | zero => simp only [List.getElem_cons_zero, Nat.add_zero, true_and]; rw [← Array.length_toList, ← hdl.length]; exact hlen
          | succ q =>
            have := m8 q (by simpa using hq)
            simp only [List.getElem_cons_succ]
            exact ⟨by omega, this.2⟩
      · cases h
    · cases h
  | 0, i, _ :: _, vs, xs, us, hp', RO, own, h, _, _, _, _ => by simp [evOp.buildRow] at h
  | _ + 1, i, [], vs, xs, us, hp', RO, own, h, _, _, _, _ => by simp [evOp.buildRow] at h
  | 0, i, [], _ :: _, xs, us, hp', RO, own, _, _, _, h, _ => by simp at h
  | _ + 1, i, _ :: _, [], xs, us, hp', RO, own, _, _, _, h, _ => by simp at h

theorem fill_dense (size : Nat) : ∀ (vs : List (Nat × Value)) (k : Nat) (cells : Array Value), (∀ j (h : j < vs.length), vs[j].1 = k + j ∧ vs[j].2.cells.size = size) → cells.size = (k + vs.length) * size →
    ∃ cells', Instr.fill (fun i => some (i * size, size)) cells vs = some cells' ∧ cells'.toList = cells.toList.take (k * size) ++ vs.flatMap (fun v => v.2.cells.toList)
  | [], k, cells, _, hs => ⟨cells, rfl, by
      simp only [List.flatMap_nil, List.append_nil]
      rw [List.take_of_length_le (by simp only [Array.length_toList]; rw [hs]; simp)]⟩
  | (i, v) :: vs, k, cells, hall, hs => by
    have h0 := hall 0 (by simp)
    simp only [List.getElem_cons_zero, Nat.add_zero] at h0
    obtain ⟨rfl, hv⟩ := h0
    have hle : i * size + size ≤ cells.size := by
      rw [hs]
      have : (i + 1) * size ≤ (i + (vs.length + 1)) * size := Nat.mul_le_mul_right _ (by omega)
      simpa [Nat.add_mul] using this
    unfold Instr.fill
    simp only
    rw [if_neg (by simp [hv]; omega)]
    have e := foldl_set v.cells.toList (i * size) 0 cells (by simp [hv]; omega)
    rw [Nat.add_zero] at e
    have e2 : (v.cells.zipIdx.foldl (fun cs x => match x with | (c, j) => cs.setIfInBounds (i * size + j) c) cells).toList = splice cells.toList (i * size) v.cells.toList := by
      rw [← Array.foldl_toList, Array.toList_zipIdx]; exact e
    obtain ⟨cells', h1, h2⟩ := fill_dense size vs (i + 1) (v.cells.zipIdx.foldl (fun cs x => match x with | (c, j) => cs.setIfInBounds (i * size + j) c) cells) (fun j h => by
      have := hall (j + 1) (by simpa using h)
      simp only [List.getElem_cons_succ] at this
      exact ⟨by omega, this.2⟩) (by
        rw [← Array.length_toList, e2, splice_length _ _ _ (by simp [hv]; omega)]
        simp only [Array.length_toList, hs, List.length_cons]
        congr 1
        omega)
    refine ⟨cells', h1, ?_⟩
    rw [h2, e2, List.flatMap_cons]
    have hlen : v.cells.toList.length = size := by simpa using hv
    obtain ⟨p, q, hpq, hp⟩ : ∃ p q, cells.toList = p ++ q ∧ p.length = i * size := ⟨cells.toList.take (i * size), cells.toList.drop (i * size), (List.take_append_drop _ _).symm, by rw [List.length_take]; simp; omega⟩
    rw [hpq]
    unfold splice
    rw [← hp, List.take_left, Nat.add_mul, Nat.one_mul, ← hp, List.take_length_add_append, ← List.append_assoc]
    congr 2
    rw [← hlen, List.take_left]

theorem step_buildSlice {t e : TypeId} {i te : TI} {len : Nat} {parts : Array (Nat × Operand)} {xs : List (List Cell)} {us : List Ent} {b : Nat} (H : HRel Fr RO ρ own hp w) (hev : ∀ x, D ρ (ev x) (a.eval x)) (F : TyFacts P t i) (hi : i.td = .slice e)
    (F' : TyFacts P e te) (hz : te.zero.length = te.size) (hsz : 0 < te.size) (hsm : len * te.size ≤ 16777216) (hb : hp b = none) (ho : o.op = .buildSlice t len parts)
    (h : evOp.buildRow hp te len 0 (parts.toList.map fun p => (p.1, ev p.2)) = some (xs, us)) : Step Dq P Fr RO ρ hp o a w (.own b 0) (us ++ [⟨b, 0, .row true e te.size xs⟩]) := by
  have htd := F.td
  rw [hi] at htd
  have hu := td_slice htd
  obtain ⟨RO', own', k1, H', hF, hca, hxl, hall, hvl, hvs⟩ := buildRow_sound te len 0 _ _ xs us hp RO own h H (fun b => .inl rfl) (by simp) (parts_rel hev parts.toList)
  have hb' : putsF hp us b = none := by
    rcases hF b with e1 | ⟨u, et, sz, xs', rw', e1, _⟩
    · rw [e1, hb]
    · rw [hb] at e1; cases e1
  have hzc : F'.z.cells.size = te.size := by rw [← Array.length_toList, F'.zero, hz]
  obtain ⟨cells', hf, hcl⟩ := fill_dense te.size (parts.toList.map fun p => (p.1, a.eval p.2)) 0 ((Array.range (len * te.size)).map (F'.z.cells[· % F'.z.cells.size]!)) (fun j h => by have := hvs j h; exact ⟨by omega, this.2⟩) (by simp; rw [← hvl]; simp)
  have hcl' : cells'.toList = (parts.toList.map fun p => (p.1, a.eval p.2)).flatMap (fun v => v.2.cells.toList) := by rw [hcl]; simp
  have hrun : (Instr.buildSlice t len (parts.map fun (i, x) => (i, a.eval x))).run P w = .ok (.slice (some ⟨w.heap.size, 0, none⟩) len len) (w.alloc (.cells cells' e)) := by
    have hf' : Instr.fill (fun i => some (i * F'.info.size, F'.info.size)) ((Array.range (len * F'.info.size)).map (F'.z.cells[· % F'.z.cells.size]!)) (parts.map fun (i, x) => (i, a.eval x)).toList = some cells' := by
      rw [F'.size, parts_map]; exact hf
    have hvl' : (parts.map fun (i, x) => (i, a.eval x)).toList.length = len := by rw [parts_map]; exact hvl
    generalize (parts.map fun (i, x) => (i, a.eval x)) = pv at hf' hvl' ⊢
    by_cases hl0 : len * te.size = 0
    · have hnil : pv.toList = [] := by
        have : len = 0 := by
          rcases Nat.mul_eq_zero.1 hl0 with h | h
          · exact h
          · omega
        rw [this] at hvl'
        exact List.eq_nil_of_length_eq_zero hvl'
      have hc0 : cells' = #[] := by
        rw [hnil, F'.size, hl0] at hf'
        simp only [Instr.fill, Option.some.injEq] at hf'
        rw [← hf']
        apply Array.ext'
        simp
      subst hc0
      have hpv : pv = #[] := by cases pv; simp at hnil; rw [hnil]
      subst hpv
      simp [Instr.buildSlice, run_underlying hu, sizeOf, typeInfo, F'.hi, F'.size, hl0, Instr.fill, newRow]
      congr 2
      apply Array.ext'
      simp
    · have hpos : ¬ len * F'.info.size = 0 := by rw [F'.size]; exact hl0
      have hsmall : ¬ len * F'.info.size > 2 ^ 24 := by rw [F'.size]; omega
      simp [Instr.buildSlice, run_underlying hu, sizeOf, typeInfo, zeroValue, F'.hi, F'.hz, hsmall, hpos, newRow, hf']
  have hcsz : cells'.size = len * te.size := by
    have : xs.flatten.length = cells'.toList.length := by rw [hca.length, hcl']
    rw [← Array.length_toList, ← this, ← hxl]
    have : ∀ (l : List (List Cell)), (∀ x ∈ l, x.length = te.size) → l.flatten.length = l.length * te.size := by
      intro l
      induction l with
      | nil => simp
      | cons x r ih =>
        intro hh
        rw [List.flatten_cons, List.length_append, ih (fun x hx => hh x (by simp [hx])), hh x (by simp), List.length_cons, Nat.add_mul, Nat.one_mul, Nat.add_comm]
    exact this xs hall
  obtain ⟨ρ', own2, h2, h3, h4⟩ := H'.new hb' (.cells cells' e) (.row true e te.size xs) (.slice (some ⟨w.heap.size, 0, none⟩) len len)
    (fun ρ' _ => ⟨cells'.toList, ⟨by rw [Array.length_toList, hcsz, hxl], .inr ⟨w.heap.size, len, cells', by rw [hxl], Nat.zero_le _, heap_alloc_new w _, by omega, by
        have : len ≤ len * te.size := Nat.le_mul_of_pos_right _ hsz
        simp only [maxLen]; omega, hcsz, by rw [hxl, ← hcsz, ← Array.length_toList, List.take_length]⟩⟩, by
        rw [hcl']
        exact hca.adv (fun _ h => h) (fun k hk => heap_alloc_old w _ (H'.rofr k hk).2), fun k => by simp [Value.ownBlock, eq_comm], hall⟩)
  refine step_value (v := .slice (some ⟨w.heap.size, 0, none⟩) len len) (w' := w.alloc (.cells cells' e)) ?_ (by rw [putsF_append]; exact h2) h4 h3 k1 (adv_frame H (adv_alloc w _ _ (fun k h => h)))
  simp only [execOp, ho]
  rw [Sem.run_bind, hrun]
  rfl
end
end Go.Sx

namespace Go.Sx
section
variable {Dq : Prop} {P : Program} {c : Ctx} {Fr RO : Nat → Prop} {ρ : Rho} {own : Foot} {hp : HpF} {o : Oper} {a : Act} {w : World} {ev : Operand → SVal}
theorem builtin_run {b : Builtin} {args : Array Operand} {at_ : Array TypeId} {v : Value} {w' : World} (ho : o.op = .call { callee := .builtin b, args := args, argTypes := at_ })
    (hb : b ≠ .panic ∧ b ≠ .print ∧ b ≠ .println ∧ b ≠ .recover ∧ b ≠ .make ∧ b ≠ .new) (hr : (builtin b at_ o.type (args.map fun | .const _ => true | _ => false) (args.map a.eval)).run P w = .ok (.value v) w') :
    (execOp a.eval o).run P w = .ok (.value v) w' := by
  simp only [execOp, ho]
  rw [Sem.run_bind]
  simp only [resolve, Sem.run_pure, Result.andThen_ok]
  exact hr

theorem len_run {t : TypeId} {at_ : Array TypeId} {ty : TypeId} {v : Value} {n : Int} (h0 : at_[0]? = some t) (hv : (P.underlying t = some .string ∧ ∃ s, v = .string s ∧ n = s.size) ∨ ∃ e ad m cp, P.underlying t = some (.slice e) ∧ v = .slice ad m cp ∧ n = m) :
    (Builtin.len_ at_ ty #[v]).run P w = .ok (.int .i64 n) w := by
  unfold Builtin.len_
  rw [h0]
  simp only [List.getElem?_toArray, List.getElem?_cons_zero]
  rcases hv with ⟨hu, s, rfl, rfl⟩ | ⟨e, ad, m, cp, hu, rfl, rfl⟩
  · rw [Sem.run_bind, run_underlying hu w, Result.andThen_ok]; rfl
  · rw [Sem.run_bind, run_underlying hu w, Result.andThen_ok]; rfl

theorem args_one {args : Array Operand} {x : SVal} (h : args.toList.map ev = [x]) : ∃ y, args = #[y] ∧ ev y = x := by
  cases args with
  | mk l =>
    simp only at h
    match l, h with
    | [y], h => exact ⟨y, rfl, by simpa using h⟩
theorem args_two {args : Array Operand} {x x' : SVal} (h : args.toList.map ev = [x, x']) : ∃ y y', args = #[y, y'] ∧ ev y = x ∧ ev y' = x' := by
  cases args with
  | mk l =>
    simp only at h
    match l, h with
    | [y, y'], h => exact ⟨y, y', rfl, by simpa using h⟩

theorem step_lenV {args : Array Operand} {at_ : Array TypeId} {x : SVal} {n : Int} {t : TypeId} {i : TI} (H : HRel Fr RO ρ own hp w) (hev : ∀ x, D ρ (ev x) (a.eval x)) (F : TyFacts P t i) (h0' : at_[0]? = some t)
    (ho : o.op = .call { callee := .builtin .len, args := args, argTypes := at_ }) (hx : args.toList.map ev = [x]) (hxv : ∀ y, D ρ x y → (i.td = .str ∧ ∃ s, y = .string s ∧ n = s.size) ∨ ∃ e ad m cp, i.td = .slice e ∧ y = .slice ad m cp ∧ n = m) :
    Step Dq P Fr RO ρ hp o a w (.v (.int .i64 n)) [] := by
  obtain ⟨y, rfl, hy⟩ := args_one hx
  have hd := hev y
  rw [hy] at hd
  have htd := F.td
  refine step_pure H (v := .int .i64 n) (builtin_run ho (by decide) ?_) rfl
  simp only [builtin]
  rw [Sem.run_bind]
  have := len_run (P := P) (w := w) (at_ := at_) (ty := o.type) (v := a.eval y) (n := n) h0' (by
    rcases hxv _ hd with ⟨h1, h2⟩ | ⟨e, ad, m, cp, h1, h2, h3⟩
    · rw [h1] at htd; exact .inl ⟨td_str htd, h2⟩
    · rw [h1] at htd; exact .inr ⟨e, ad, m, cp, td_slice htd, h2, h3⟩)
  have e : (#[y].map a.eval) = #[a.eval y] := by simp
  rw [e, this]
  rfl

theorem append_run {t e : TypeId} {te : TI} (hu : P.underlying t = some (.slice e)) (F : TyFacts P e te) (hz : te.zero.length = te.size) (hs : 0 < te.size) (v : Value) (vals : List Value) (n : Nat) (hown : w.ownsRow 0 e te.size v n vals)
    (y : Value) (own2 : Nat → Prop) (b2 : Bool) (et2 : Nat) (ys : List (List Cell)) (hy : holds ρ y own2 RO w (.row b2 et2 te.size ys))
    (hb : (n + ys.length) * te.bytes ≤ 140737488355328) (hby : 0 < te.bytes) (ty : TypeId) :
    ∃ v' w' news, (Builtin.append_ #[t, t] ty #[v, y]).run P w = .ok v' w' ∧ w'.ownsRow 0 e te.size v' (n + ys.length) (vals ++ news) ∧ w.grownBy w' v.ownBlock ∧ CellsAre RO w ys.flatten news ∧
      (v'.ownBlock = v.ownBlock ∨ ∃ g, v'.ownBlock = some g ∧ w.heap.size ≤ g) := by
  obtain ⟨news, hca, hnl, hall, ⟨ad, cp, hyv⟩, hcell, hpos⟩ := row_cells hy
  have hzc : F.z.cells.size = te.size := by rw [← Array.length_toList, F.zero, hz]
  have hlen : n + ys.length ≤ 140737488355328 := Nat.le_trans (Nat.le_mul_of_pos_right _ hby) hb
  cases ad with
  | some ad =>
    obtain ⟨v', w', h1, h2, h3, _, h5⟩ := run_append_own_at (P := P) w 0 t ty e F.info F.z te.size te.bytes hu F.hi F.hz F.size F.bytes hzc hs v n vals hown ad ys.length cp news hnl (hcell ad _ cp hyv) hca.one (by simp only [maxLen]; omega) hb (Nat.zero_le _)
    refine ⟨v', w', news, by rw [hyv]; exact h1, h2, h3, hca, ?_⟩
    rcases h5 with h5 | h5
    · exact .inl h5
    · exact .inr ⟨_, h5, Nat.le_refl _⟩
  | none =>
    have hy0 : ys.length = 0 := by
      rcases Nat.eq_zero_or_pos ys.length with h | h
      · exact h
      · obtain ⟨ad2, c2, h2⟩ := hpos h
        rw [hyv] at h2
        cases h2
    have hn0 : news = [] := List.eq_nil_of_length_eq_zero (by rw [hnl, hy0]; simp)
    refine ⟨v, w, [], ?_, by rw [hy0, Nat.add_zero, List.append_nil]; exact hown, ⟨rfl, rfl, rfl, Nat.le_refl _, fun _ _ _ => rfl⟩, by rw [← hn0]; exact hca, .inl rfl⟩
    rw [hyv, hy0]
    rcases hown.2 with ⟨rfl, rfl⟩ | ⟨g, cap, cur, rfl, _, _, hnc, _⟩
    · simp [Builtin.append_, run_underlying hu, sizeOf, typeInfo, F.hi, Builtin.lenOf, Builtin.firstCells]
    · simp [Builtin.append_, run_underlying hu, sizeOf, typeInfo, F.hi, Builtin.lenOf, Builtin.firstCells, hnc, storeCells]

theorem adv_grown {w w' : World} {row : Option Nat} (h : w.grownBy w' row) (S : Nat → Prop) (hS : ∀ k, S k → k < w.heap.size ∧ some k ≠ row) : Adv S w w' :=
  ⟨h.os, h.tape, h.output, h.size, fun k hk => h.block k (hS k hk).1 (hS k hk).2⟩
end
end Go.Sx

namespace Go.Sx
section
variable {Dq : Prop} {P : Program} {c : Ctx} {Fr RO : Nat → Prop} {ρ : Rho} {own : Foot} {hp : HpF} {o : Oper} {a : Act} {w : World} {ev : Operand → SVal}
theorem objOf_ent (H : HRel Fr RO ρ own hp w) {b u : Nat} {ob : SObj} (h : objOf hp b u = some ob) : hp b = some ⟨b, u, ob⟩ := by
  obtain ⟨e, he, hu, ho⟩ := objOf_some h
  have hn := (H.ent b e he).1
  rw [he]
  cases e
  simp only at hn hu ho
  subst hn hu ho
  rfl

theorem len_all {sz : Nat} {xs ys : List (List Cell)} (h : ∀ l ∈ xs, l.length = sz) (h' : ∀ l ∈ ys, l.length = sz) : ∀ l ∈ xs ++ ys, l.length = sz := by
  intro l hl
  rcases List.mem_append.1 hl with hl | hl
  · exact h l hl
  · exact h' l hl

theorem step_append {args : Array Operand} {at_ : Array TypeId} {t e : TypeId} {te i : TI} {b u b' u' et' : Nat} {rw' : Bool} {xs ys : List (List Cell)} (H : HRel Fr RO ρ own hp w) (hev : ∀ x, D ρ (ev x) (a.eval x)) (F : TyFacts P t i) (hi : i.td = .slice e)
    (F' : TyFacts P e te) (hz : te.zero.length = te.size) (hs : 0 < te.size) (hby : 0 < te.bytes) (hat : at_.toList = [t, t]) (ho : o.op = .call { callee := .builtin .append, args := args, argTypes := at_ })
    (hx : args.toList.map ev = [.own b u, .own b' u']) (hb : objOf hp b u = some (.row true e te.size xs)) (hb' : objOf hp b' u' = some (.row rw' et' te.size ys)) (hroom : (xs.length + ys.length) * te.bytes ≤ 140737488355328) :
    Step Dq P Fr RO ρ hp o a w (.own b (u + 1)) [⟨b, u + 1, .row true e te.size (xs ++ ys)⟩] := by
  obtain ⟨x, y, rfl, hx1, hy1⟩ := args_two hx
  have hdx := hev x
  have hdy := hev y
  rw [hx1] at hdx
  rw [hy1] at hdy
  simp only [D] at hdx hdy
  have htd := F.td
  rw [hi] at htd
  have hu := td_slice htd
  have hbe := objOf_ent H hb
  obtain ⟨vx, hvx, hh⟩ := H.obj hb
  rw [hdx] at hvx
  cases hvx
  obtain ⟨vy, hvy, hhy⟩ := H.obj hb'
  rw [hdy] at hvy
  cases hvy
  obtain ⟨vals, hrow, hca, hown, hall⟩ := hh
  obtain ⟨v', w', news, h1, h2, h3, h4, h5⟩ := append_run (P := P) hu F' hz hs _ vals xs.length hrow _ _ _ _ ys hhy hroom hby o.type
  have hally := (row_cells hhy)
  obtain ⟨_, _, _, hally, _⟩ := hally
  have hlt := h2.lt
  have hadv : Adv (fun k => k < w.heap.size ∧ ¬ own b k) w w' := adv_grown h3 _ (fun k hk => ⟨hk.1, fun e => hk.2 ((hown k).2 e.symm)⟩)
  have hro : ∀ k, RO k → w'.heap[k]? = w.heap[k]? := fun k hk => hadv.block k ⟨(H.rofr k hk).2, fun hc => (H.ro b k hc).1 hk⟩
  obtain ⟨H', hle⟩ := H.upd b (u + 1) (.row true e te.size (xs ++ ys)) v' (fun k => v'.ownBlock = some k) (.inr (by simp [nextOf, hbe])) (by simp [hbe]) hadv
    ⟨vals ++ news, by rw [List.length_append]; exact h2, by rw [List.flatten_append]; exact (hca.adv (fun _ h => h) hro).append (h4.adv (fun _ h => h) hro), fun k => Iff.rfl, len_all hall hally⟩
    (fun k hk => ⟨by
      rcases h5 with h5 | ⟨g, h5, h6⟩
      · exact .inl ((hown k).2 (by rw [← h5]; exact hk))
      · rw [h5] at hk; cases hk; exact .inr h6, (hlt k hk).2⟩)
  refine step_value (v := v') (w' := w') (builtin_run ho (by decide) ?_) H' (by simp [D, Rho.set]) hle (fun _ h => h) (hadv.mono fun k hk => ?_)
  · have hat' : at_ = #[t, t] := by cases at_; simp only at hat; rw [hat]
    simp only [builtin, hat']
    rw [Sem.run_bind]
    have e2 : (#[x, y].map a.eval) = #[a.eval x, a.eval y] := by simp
    rw [e2, h1]
    rfl
  · rcases hk with hk | hk
    · exact ⟨(H.rofr k hk).2, fun hc => (H.ro b k hc).1 hk⟩
    · exact ⟨H.fr k hk, fun hc => (H.ro b k hc).2.1 hk⟩

theorem step_appendNil {args : Array Operand} {at_ : Array TypeId} {t e : TypeId} {te i : TI} {b b' u' et' : Nat} {rw' : Bool} {ys : List (List Cell)} (H : HRel Fr RO ρ own hp w) (hev : ∀ x, D ρ (ev x) (a.eval x)) (F : TyFacts P t i) (hi : i.td = .slice e)
    (F' : TyFacts P e te) (hz : te.zero.length = te.size) (hs : 0 < te.size) (hby : 0 < te.bytes) (hat : at_.toList = [t, t]) (ho : o.op = .call { callee := .builtin .append, args := args, argTypes := at_ })
    (hx : args.toList.map ev = [.v (.slice none 0 0), .own b' u']) (hb : hp b = none) (hb' : objOf hp b' u' = some (.row rw' et' te.size ys)) (hroom : ys.length * te.bytes ≤ 140737488355328) :
    Step Dq P Fr RO ρ hp o a w (.own b 0) [⟨b, 0, .row true e te.size ys⟩] := by
  obtain ⟨x, y, rfl, hx1, hy1⟩ := args_two hx
  have hdx := hev x
  have hdy := hev y
  rw [hx1] at hdx
  rw [hy1] at hdy
  simp only [D] at hdx hdy
  have htd := F.td
  rw [hi] at htd
  have hu := td_slice htd
  obtain ⟨vy, hvy, hhy⟩ := H.obj hb'
  rw [hdy] at hvy
  cases hvy
  obtain ⟨v', w', news, h1, h2, h3, h4, h5⟩ := append_run (P := P) hu F' hz hs _ [] 0 (World.ownsRow_nil w 0 e te.size) _ _ _ _ ys hhy (by simpa using hroom) hby o.type
  obtain ⟨_, _, _, hally, _⟩ := (row_cells hhy)
  have hlt := h2.lt
  have hadv : Adv (fun k => k < w.heap.size) w w' := adv_grown h3 _ (fun k hk => ⟨hk, by simp [Value.ownBlock]⟩)
  have hro : ∀ k, RO k → w'.heap[k]? = w.heap[k]? := fun k hk => hadv.block k (H.rofr k hk).2
  obtain ⟨H', hle⟩ := H.upd b 0 (.row true e te.size ys) v' (fun k => v'.ownBlock = some k) (.inr (by simp [nextOf, hb])) (by simp [hb]) (hadv.mono fun k hk => hk.1)
    ⟨news, by simpa using h2, h4.adv (fun _ h => h) hro, fun k => Iff.rfl, hally⟩
    (fun k hk => ⟨by
      rcases h5 with h5 | ⟨g, h5, h6⟩
      · rw [h5] at hk; cases hk
      · rw [h5] at hk; cases hk; exact .inr h6, (hlt k hk).2⟩)
  refine step_value (v := v') (w' := w') (builtin_run ho (by decide) ?_) H' (by simp [D, Rho.set]) hle (fun _ h => h) (adv_frame H hadv)
  have hat' : at_ = #[t, t] := by cases at_; simp only at hat; rw [hat]
  simp only [builtin, hat']
  rw [Sem.run_bind]
  have e2 : (#[x, y].map a.eval) = #[a.eval x, a.eval y] := by simp
  rw [e2, hdx, h1]
  rfl

theorem step_minmax {args : Array Operand} {at_ : Array TypeId} {k : IntKind} {k' : IntKind} {m n : Int} {bi : Builtin} (hbi : bi = .max ∨ bi = .min) (H : HRel Fr RO ρ own hp w) (hev : ∀ x, D ρ (ev x) (a.eval x))
    (ho : o.op = .call { callee := .builtin bi, args := args, argTypes := at_ }) (hx : args.toList.map ev = [.v (.int k m), .v (.int k' n)]) :
    Step Dq P Fr RO ρ hp o a w (.v (.int k (if (if bi = .max then n > m else n < m) then n else m))) [] := by
  obtain ⟨x, y, rfl, hx1, hy1⟩ := args_two hx
  have hdx := hev x
  have hdy := hev y
  rw [hx1] at hdx
  rw [hy1] at hdy
  simp only [D] at hdx hdy
  have e2 : (#[x, y].map a.eval) = #[a.eval x, a.eval y] := by simp
  rcases hbi with rfl | rfl
  · refine step_pure H (v := .int k (if n > m then n else m)) (builtin_run ho (by decide) ?_) rfl
    simp only [builtin]
    rw [Sem.run_bind, e2, hdx, hdy]
    rfl
  · refine step_pure H (v := .int k (if n < m then n else m)) (builtin_run ho (by decide) ?_) rfl
    simp only [builtin]
    rw [Sem.run_bind, e2, hdx, hdy]
    rfl

theorem take_flatten {α : Type} {sz : Nat} : ∀ {xs : List (List α)} (n : Nat), (∀ l ∈ xs, l.length = sz) → (xs.take n).flatten = xs.flatten.take (n * sz)
  | [], n, _ => by simp
  | x :: xs, 0, _ => by simp
  | x :: xs, n + 1, h => by
    have hx := h x (by simp)
    rw [List.take_succ_cons, List.flatten_cons, List.flatten_cons, take_flatten n (fun l hl => h l (by simp [hl])), Nat.add_mul, Nat.one_mul, Nat.add_comm (n * sz), ← hx, List.take_length_add_append]
theorem drop_flatten {α : Type} {sz : Nat} : ∀ {xs : List (List α)} (n : Nat), (∀ l ∈ xs, l.length = sz) → (xs.drop n).flatten = xs.flatten.drop (n * sz)
  | [], n, _ => by simp
  | x :: xs, 0, _ => by simp
  | x :: xs, n + 1, h => by
    have hx := h x (by simp)
    rw [List.drop_succ_cons, List.flatten_cons, drop_flatten n (fun l hl => h l (by simp [hl])), Nat.add_mul, Nat.one_mul, Nat.add_comm (n * sz), ← hx, List.drop_length_add_append]

theorem step_copy {args : Array Operand} {at_ : Array TypeId} {t e : TypeId} {te i : TI} {b u b' u' et et' : Nat} {rw' : Bool} {xs ys : List (List Cell)} (H : HRel Fr RO ρ own hp w) (hev : ∀ x, D ρ (ev x) (a.eval x)) (F : TyFacts P t i) (hi : i.td = .slice e)
    (F' : TyFacts P e te) (hs : 0 < te.size) (h0' : ∃ t2, at_ = #[t, t2]) (ho : o.op = .call { callee := .builtin .copy, args := args, argTypes := at_ })
    (hx : args.toList.map ev = [.own b u, .own b' u']) (hb : objOf hp b u = some (.row true et te.size xs)) (hb' : objOf hp b' u' = some (.row rw' et' te.size ys)) :
    Step Dq P Fr RO ρ hp o a w (.v (.int .i64 (min ys.length xs.length : Nat))) [⟨b, u, .row true et te.size (ys.take (min ys.length xs.length) ++ xs.drop (min ys.length xs.length))⟩] := by
  obtain ⟨x, y, rfl, hx1, hy1⟩ := args_two hx
  have hdx := hev x
  have hdy := hev y
  rw [hx1] at hdx
  rw [hy1] at hdy
  simp only [D] at hdx hdy
  have htd := F.td
  rw [hi] at htd
  have hu := td_slice htd
  have hbe := objOf_ent H hb
  have hρ := hdx
  obtain ⟨vx, hvx, hh⟩ := H.obj hb
  rw [hdx] at hvx
  cases hvx
  obtain ⟨vy, hvy, hhy⟩ := H.obj hb'
  rw [hdy] at hvy
  cases hvy
  obtain ⟨vals, hrow, hca, hown, hall⟩ := hh
  obtain ⟨news, hcay, hnl, hally, ⟨ad, cpy, hyv⟩, hcell, hpos⟩ := row_cells hhy
  have hn : (ys.take (min ys.length xs.length)).length = min ys.length xs.length := by rw [List.length_take]; omega
  have hsrc : CellsAre RO w (ys.take (min ys.length xs.length)).flatten (news.take (min ys.length xs.length * te.size)) := by rw [take_flatten _ hally]; exact hcay.take _
  have hsl : (news.take (min ys.length xs.length * te.size)).length = min ys.length xs.length * te.size := by
    rw [List.length_take, hnl]
    have : min ys.length xs.length * te.size ≤ ys.length * te.size := Nat.mul_le_mul_right _ (Nat.min_le_left _ _)
    omega
  have hrl : (ys.take (min ys.length xs.length) ++ xs.drop (min ys.length xs.length)).length = xs.length := by rw [List.length_append, hn, List.length_drop]; omega
  obtain ⟨t2, rfl⟩ := h0'
  have e2 : (#[x, y].map a.eval) = #[a.eval x, a.eval y] := by simp
  rcases hrow.2 with ⟨ex, hx0⟩ | ⟨g, cap, cur, ex, hB, hg, hnc, hcm, hcs, htk⟩
  · have hxs : xs = [] := List.eq_nil_of_length_eq_zero hx0
    subst hxs
    obtain ⟨H', hle⟩ := H.upd (w' := w) b u (.row true et te.size (ys.take (min ys.length ([] : List (List Cell)).length) ++ ([] : List (List Cell)).drop (min ys.length ([] : List (List Cell)).length))) (a.eval x) (own b) (.inl hρ) (by simp [hbe]) (Adv.refl _ _)
      ⟨vals, by simpa using hrow, by simpa using hca, hown, by simp⟩ (fun k hk => ⟨.inl hk, (H.ro b k hk).2.2⟩)
    rw [Rho.set_self hρ] at H' hle
    refine step_value (v := .int .i64 (min ys.length ([] : List (List Cell)).length : Nat)) (w' := w) (builtin_run ho (by decide) ?_) H' rfl hle (fun _ h => h) (Adv.refl _ _)
    simp only [builtin]
    rw [Sem.run_bind, e2, ex, hyv]
    have : (Builtin.copy_ #[t, t2] o.type #[.slice none 0 0, .slice ad ys.length cpy]).run P w = .ok (.int .i64 (min ys.length ([] : List (List Cell)).length : Nat)) w := by
      cases ad <;> simp [Builtin.copy_, run_underlying hu, Builtin.lenOf, Builtin.firstCells, sizeOf, typeInfo, F'.hi, goInt, loadCells, loadCellsFrom, Nat.min_def]
    rw [this]
    rfl
  · have hcapl : xs.length * te.size ≤ cap * te.size := Nat.mul_le_mul_right _ hnc
    have hml : min ys.length xs.length * te.size ≤ xs.length * te.size := Nat.mul_le_mul_right _ (Nat.min_le_right _ _)
    have hst := run_storeCells_at P g 0 et (news.take (min ys.length xs.length * te.size)) 0 cur w hg (by rw [hsl, hcs]; omega) hsrc.one
    generalize hW : w.setRow g (cur.toList.take (0 + 0) ++ news.take (min ys.length xs.length * te.size) ++ cur.toList.drop (0 + 0 + (news.take (min ys.length xs.length * te.size)).length)).toArray = W at hst
    have hWg : W.heap[g]? = some (.cells (news.take (min ys.length xs.length * te.size) ++ cur.toList.drop (min ys.length xs.length * te.size)).toArray et (0, 0)) := by
      rw [← hW, setRow_heap w g cur _ et _ hg]
      simp [hsl]
    have hWa : Adv (fun k => k ≠ g) w W := by rw [← hW]; exact adv_setRow w g _ _ (fun k hk => hk)
    have hWro : ∀ k, RO k → W.heap[k]? = w.heap[k]? := fun k hk => hWa.block k (fun hkg => (H.ro b k ((hown k).2 (by rw [ex, hkg]; rfl))).1 hk)
    have hWs : W.heap.size = w.heap.size := by rw [← hW]; simp
    obtain ⟨H', hle⟩ := H.upd (w' := W) b u (.row true et te.size (ys.take (min ys.length xs.length) ++ xs.drop (min ys.length xs.length))) (a.eval x) (own b) (.inl hρ) (by simp [hbe])
      (hWa.mono fun k hk hkg => hk.2 ((hown k).2 (by rw [ex, hkg]; rfl)))
      ⟨news.take (min ys.length xs.length * te.size) ++ vals.drop (min ys.length xs.length * te.size), ⟨by rw [hrl, List.length_append, hsl, List.length_drop, hrow.1]; omega, .inr ⟨g, cap, _, by rw [hrl, ex], hB, hWg, by rw [hrl]; exact hnc, hcm, by
          simp only [List.size_toArray, List.length_append, hsl, List.length_drop, Array.length_toList]; omega, by
          rw [hrl, List.toList_toArray, List.take_append, hsl, List.take_of_length_le (by omega), ← htk, List.drop_take]⟩⟩, by
        rw [List.flatten_append, drop_flatten _ hall]
        exact (hsrc.adv (fun _ h => h) hWro).append ((hca.drop _).adv (fun _ h => h) hWro), hown, len_all (fun l hl => hally l (List.mem_of_mem_take hl)) (fun l hl => hall l (List.mem_of_mem_drop hl))⟩
      (fun k hk => ⟨.inl hk, by rw [hWs]; exact (H.ro b k hk).2.2⟩)
    rw [Rho.set_self hρ] at H' hle
    refine step_value (v := .int .i64 (min ys.length xs.length : Nat)) (w' := W) (builtin_run ho (by decide) ?_) H' rfl hle (fun _ h => h) (hWa.mono fun k hk hkg => by
      have hog := (hown k).2 (by rw [ex, hkg]; rfl)
      rcases hk with hk | hk
      · exact (H.ro b k hog).1 hk
      · exact (H.ro b k hog).2.1 hk)
    simp only [builtin]
    rw [Sem.run_bind, e2, ex, hyv]
    have hmin : Nat.min ys.length xs.length = min ys.length xs.length := rfl
    have hld : (Builtin.firstCells te.size (min ys.length xs.length) (.slice ad ys.length cpy)).run P w = .ok (news.take (min ys.length xs.length * te.size)).toArray w := by
      cases ad with
      | some ad =>
        have hr := run_loadCells_list (P := P) w ad (news.take (min ys.length xs.length * te.size)) (fun j v hj => by
          rw [List.getElem?_take] at hj
          split at hj
          · exact hcell ad _ cpy hyv j v hj
          · cases hj)
        rw [hsl] at hr
        exact hr
      | none =>
        have hy0 : ys.length = 0 := by
          rcases Nat.eq_zero_or_pos ys.length with h | h
          · exact h
          · obtain ⟨ad2, c2, h2⟩ := hpos h
            rw [hyv] at h2
            cases h2
        simp [Builtin.firstCells, hy0]
    have : (Builtin.copy_ #[t, t2] o.type #[.slice (some ⟨g, 0, none⟩) xs.length cap, .slice ad ys.length cpy]).run P w = .ok (.int .i64 (min ys.length xs.length : Nat)) W := by
      simp [Builtin.copy_, run_underlying hu, Builtin.lenOf, sizeOf, typeInfo, F'.hi, F'.size, goInt, hmin, hld, hst]
    rw [this]
    rfl

theorem step_next {x : Operand} {b u : Nat} {s : ByteArray} {pos : Nat} (H : HRel Fr RO ρ own hp w) (hev : ∀ x, D ρ (ev x) (a.eval x)) (ho : o.op = .next x true) (hx : ev x = .ptr b u 0) (hb : objOf hp b u = some (.str s pos)) (hp' : pos < s.size) :
    Step Dq P Fr RO ρ hp o a w (.tup [.v (.bool true), .v (.int .i64 pos), .v (.int .i32 (Utf8.decode s pos).1)]) [⟨b, u, .str s (pos + (Utf8.decode s pos).2)⟩] := by
  have hd := hev x
  rw [hx] at hd
  obtain ⟨ad, hρ, hax⟩ := hd
  have hbe := objOf_ent H hb
  obtain ⟨v, hv, g, rfl, hg, hown⟩ := H.obj hb
  rw [hρ] at hv
  cases hv
  have hlt : g < w.heap.size := (Array.getElem?_eq_some_iff.1 hg).1
  have hother : ∀ k, k ≠ g → ({ w with heap := w.heap.setIfInBounds g (.stringIter s (pos + (Utf8.decode s pos).2)) } : World).heap[k]? = w.heap[k]? := fun k hk => by
    simp [Array.getElem?_setIfInBounds, Ne.symm hk]
  have hadv : Adv (fun k => k ≠ g) w { w with heap := w.heap.setIfInBounds g (.stringIter s (pos + (Utf8.decode s pos).2)) } := ⟨rfl, rfl, rfl, by simp, fun k hk => hother k hk⟩
  obtain ⟨H', hle⟩ := H.upd (w' := { w with heap := w.heap.setIfInBounds g (.stringIter s (pos + (Utf8.decode s pos).2)) }) b u (.str s (pos + (Utf8.decode s pos).2)) (.pointer (some ⟨g, 0, none⟩)) (own b) (.inl hρ) (by simp [hbe])
    (hadv.mono fun k hk hkg => hk.2 ((hown k).2 hkg)) ⟨g, rfl, by simp [hlt], hown⟩ (fun k hk => ⟨.inl hk, by have := (hown k).1 hk; subst this; simpa using hlt⟩)
  rw [Rho.set_self hρ] at H' hle
  refine step_value (v := .tuple #[.bool true, .int .i64 pos, .int .i32 (Utf8.decode s pos).1]) (w' := { w with heap := w.heap.setIfInBounds g (.stringIter s (pos + (Utf8.decode s pos).2)) }) ?_ H' ⟨_, rfl, rfl, rfl, rfl, trivial⟩ hle (fun _ h => h) (hadv.mono fun k hk hkg => by
      have hog := (hown k).2 hkg
      rcases hk with hk | hk
      · exact (H.ro b k hog).1 hk
      · exact (H.ro b k hog).2.1 hk)
  have hax' : a.eval x = .pointer (some ⟨g, 0, none⟩) := by rw [hax]; rfl
  simp only [execOp, ho, hax']
  rw [Sem.run_bind]
  have : (Instr.next (.pointer (some ⟨g, 0, none⟩)) true o.type).run P w = .ok (.tuple #[.bool true, .int .i64 pos, .int .i32 (Utf8.decode s pos).1]) { w with heap := w.heap.setIfInBounds g (.stringIter s (pos + (Utf8.decode s pos).2)) } := by
    unfold Instr.next
    simp only [getObj, setObj, goInt]
    rw [Sem.run_bind]
    simp only [Sem.run, hg, Result.andThen_ok, if_pos hp']
    rw [Sem.run_bind]
    simp only [Sem.run, hg, Result.andThen_ok]
    rfl
  rw [this]
  rfl

theorem step_nextEnd {x : Operand} {b u : Nat} {s : ByteArray} {pos : Nat} (H : HRel Fr RO ρ own hp w) (hev : ∀ x, D ρ (ev x) (a.eval x)) (ho : o.op = .next x true) (hx : ev x = .ptr b u 0) (hb : objOf hp b u = some (.str s pos)) (hp' : ¬ pos < s.size) :
    Step Dq P Fr RO ρ hp o a w (.tup [.v (.bool false)]) [] := by
  have hd := hev x
  rw [hx] at hd
  obtain ⟨ad, hρ, hax⟩ := hd
  obtain ⟨v, hv, g, rfl, hg, hown⟩ := H.obj hb
  rw [hρ] at hv
  cases hv
  refine step_pure H (v := .tuple #[.bool false]) ?_ ⟨_, rfl, rfl, trivial⟩
  have hax' : a.eval x = .pointer (some ⟨g, 0, none⟩) := by rw [hax]; rfl
  simp only [execOp, ho, hax']
  rw [Sem.run_bind]
  have : (Instr.next (.pointer (some ⟨g, 0, none⟩)) true o.type).run P w = .ok (.tuple #[.bool false]) w := by
    unfold Instr.next
    simp only [getObj]
    rw [Sem.run_bind]
    simp only [Sem.run, hg, Result.andThen_ok, if_neg hp']
    rfl
  rw [this]
  rfl
end
end Go.Sx

namespace Go.Sx
section
variable {Dq : Prop} {P : Program} {c : Ctx} {Fr RO : Nat → Prop} {ρ : Rho} {own : Foot} {hp : HpF} {o : Oper} {a : Act} {w : World} {ev : Operand → SVal}
theorem leaf_i {x y : Value} {b : Bool} (h : eqLeaf .i x y = some b) : ∃ k a c, x = .int k a ∧ y = .int k c ∧ b = (a == c) := by
  unfold eqLeaf at h
  split at h
  · rename_i k a k' c hk0
    split at h
    · rename_i hk
      subst hk
      simp only [Option.some.injEq] at h
      exact ⟨_, _, _, rfl, rfl, h.symm⟩
    · cases h
  · rename_i hk; cases hk
  · rename_i hk; cases hk
  · cases h
theorem leaf_s {x y : Value} {b : Bool} (h : eqLeaf .s x y = some b) : ∃ a c, x = .string a ∧ y = .string c ∧ b = (a.toList == c.toList) := by
  unfold eqLeaf at h
  split at h
  · rename_i hk; cases hk
  · rename_i a c _
    simp only [Option.some.injEq] at h
    exact ⟨a, c, rfl, rfl, h.symm⟩
  · rename_i hk; cases hk
  · cases h
theorem leaf_b {x y : Value} {b : Bool} (h : eqLeaf .b x y = some b) : ∃ a c, x = .bool a ∧ y = .bool c ∧ b = (a == c) := by
  unfold eqLeaf at h
  split at h
  · rename_i hk; cases hk
  · rename_i hk; cases hk
  · rename_i a c _
    simp only [Option.some.injEq] at h
    exact ⟨a, c, rfl, rfl, h.symm⟩
  · cases h

theorem eqVals_cons {k : LK} {l : List LK} {x y : Value} {r s : List Value} {b : Bool} (h : eqVals (k :: l) (x :: r) (y :: s) = some b) : ∃ b1 b2, eqLeaf k x y = some b1 ∧ eqVals l r s = some b2 ∧ b = (b1 && b2) := by
  unfold eqVals at h
  split at h
  · rename_i b1 b2 h1 h2
    simp only [Option.some.injEq] at h
    exact ⟨b1, b2, h1, h2, h.symm⟩
  · cases h

theorem eqVals_split : ∀ (n : Nat) (l : List LK) (xs ys : List Value) (b : Bool), eqVals l xs ys = some b → ∃ b1 b2, eqVals (l.take n) (xs.take n) (ys.take n) = some b1 ∧ eqVals (l.drop n) (xs.drop n) (ys.drop n) = some b2 ∧ b = (b1 && b2)
  | 0, l, xs, ys, b, h => ⟨true, b, rfl, h, by simp⟩
  | n + 1, [], [], [], b, h => ⟨true, b, rfl, h, by simp⟩
  | n + 1, k :: l, x :: r, y :: s, b, h => by
    obtain ⟨c1, c2, h1, h2, rfl⟩ := eqVals_cons h
    obtain ⟨d1, d2, h3, h4, rfl⟩ := eqVals_split n l r s c2 h2
    exact ⟨c1 && d1, d2, by simp [eqVals, h1, h3], h4, by rw [Bool.and_assoc]⟩
  | n + 1, [], [], _ :: _, b, h => by simp [eqVals] at h
  | n + 1, [], _ :: _, _, b, h => by simp [eqVals] at h
  | n + 1, _ :: _, [], _, b, h => by simp [eqVals] at h
  | n + 1, _ :: _, _ :: _, [], b, h => by simp [eqVals] at h

theorem eqVals_length : ∀ (l : List LK) (xs ys : List Value) (b : Bool), eqVals l xs ys = some b → xs.length = l.length ∧ ys.length = l.length
  | [], [], [], b, h => ⟨rfl, rfl⟩
  | k :: l, x :: r, y :: s, b, h => by
    obtain ⟨c1, c2, h1, h2, rfl⟩ := eqVals_cons h
    have := eqVals_length l r s c2 h2
    simp [this.1, this.2]
  | [], [], _ :: _, b, h => by simp [eqVals] at h
  | [], _ :: _, _, b, h => by simp [eqVals] at h
  | _ :: _, [], _, b, h => by simp [eqVals] at h
  | _ :: _, _ :: _, [], b, h => by simp [eqVals] at h

def valOf (P : Program) (t : TypeId) (xs : List Value) : Value := match P.underlying t with
  | some (.struct _) => .agg xs.toArray
  | _ => xs.headD undef

theorem part_at {d : Nat} {t : TypeId} {l : List LK} (h : cmpOk P d t = some l) (arr : Array Value) (off : Nat) (hl : off + l.length ≤ arr.size) : (part t arr off).run P w = .ok (valOf P t ((arr.toList.drop off).take l.length)) w := by
  cases d with
  | zero => simp [cmpOk] at h
  | succ d =>
    unfold cmpOk at h
    have one : ∀ u, P.underlying t = some u → (u = .bool ∨ (∃ k, u = .int k) ∨ u = .string) → l.length = 1 → (part t arr off).run P w = .ok (valOf P t ((arr.toList.drop off).take l.length)) w := by
      intro u hu hk hn
      rw [hn] at hl ⊢
      have hlt : off < arr.size := by omega
      have hA : (Go.isAgg t).run P w = .ok false w := by
        unfold Go.isAgg
        rw [Sem.run_bind, run_underlying hu w, Result.andThen_ok]
        rcases hk with rfl | ⟨k, rfl⟩ | rfl <;> rfl
      unfold part
      rw [Sem.run_bind, hA, Result.andThen_ok]
      have hdr : arr.toList.drop off = arr[off] :: arr.toList.drop (off + 1) := by
        rw [List.drop_eq_getElem_cons (by simpa using hlt)]
        rfl
      have hv : valOf P t ((arr.toList.drop off).take 1) = arr[off] := by
        unfold valOf
        rw [hu, hdr]
        rcases hk with rfl | ⟨k, rfl⟩ | rfl <;> rfl
      rw [hv]
      simp [hlt]
    split at h
    · rename_i hu; cases h; exact one _ hu (.inl rfl) rfl
    · rename_i k hu; cases h; exact one _ hu (.inr (.inl ⟨k, rfl⟩)) rfl
    · rename_i hu; cases h; exact one _ hu (.inr (.inr rfl)) rfl
    · rename_i fs hu
      split at h
      · split at h
        · rename_i m hm
          split at h
          · rename_i hsz
            cases h
            have hA : (Go.isAgg t).run P w = .ok true w := by
              unfold Go.isAgg
              rw [Sem.run_bind, run_underlying hu w, Result.andThen_ok]
              rfl
            obtain ⟨inf, hi⟩ : ∃ i, P.info? t = some i := by
              cases hi : P.info? t with
              | none => rw [hi] at hsz; cases hsz
              | some i => exact ⟨i, rfl⟩
            rw [hi] at hsz
            simp only [Option.map_some, Option.some.injEq] at hsz
            have hS : (Go.sizeOf t).run P w = .ok l.length w := by
              simp [Go.sizeOf, typeInfo, hi, hsz]
            unfold part
            rw [Sem.run_bind, hA, Result.andThen_ok]
            simp only [if_true]
            rw [Sem.run_bind, hS, Result.andThen_ok]
            unfold valOf
            rw [hu]
            simp only [Sem.run_pure, Result.ok.injEq, Value.agg.injEq, and_true]
            apply Array.toList_inj.1
            rw [Array.toList_extract, List.extract_eq_take_drop]
            simp
          · cases h
        · cases h
      · cases h
    · cases h

theorem cmpFs_prefix {g : TypeId → Option (List LK)} : ∀ (fs : List Field) (acc m : List LK), cmpFs g acc fs = some m → ∃ r, m = acc ++ r
  | [], acc, m, h => by simp only [cmpFs, Option.some.injEq] at h; exact ⟨[], by simp [h]⟩
  | f :: fs, acc, m, h => by
    unfold cmpFs at h
    split at h
    · split at h
      · obtain ⟨r, hr⟩ := cmpFs_prefix fs _ _ h
        exact ⟨_, by rw [hr, List.append_assoc]⟩
      · cases h
    · cases h

theorem eqFields_run {g : TypeId → Option (List LK)} {d' : Nat} (hg : ∀ t l, g t = some l → ∀ (xs ys : List Value) (b : Bool), eqVals l xs ys = some b → (Op.equalIn d' t (valOf P t xs) (valOf P t ys)).run P w = .ok b w)
    (hp : ∀ t l, g t = some l → ∀ (arr : Array Value) (off : Nat), off + l.length ≤ arr.size → (part t arr off).run P w = .ok (valOf P t ((arr.toList.drop off).take l.length)) w) (xs ys : Array Value) :
    ∀ (fs : List Field) (acc m : List LK) (b : Bool), cmpFs g acc fs = some m → xs.size = m.length → ys.size = m.length → eqVals (m.drop acc.length) (xs.toList.drop acc.length) (ys.toList.drop acc.length) = some b → (Op.eqFields d' xs ys fs).run P w = .ok b w
  | [], acc, m, b, h, hx, hy, hb => by
    simp only [cmpFs, Option.some.injEq] at h
    subst h
    rw [List.drop_eq_nil_of_le (by simp), List.drop_eq_nil_of_le (by simp [hx]), List.drop_eq_nil_of_le (by simp [hy])] at hb
    simp only [eqVals, Option.some.injEq] at hb
    subst hb
    rfl
  | f :: fs, acc, m, b, h, hx, hy, hb => by
    unfold cmpFs at h
    split at h
    · rename_i hn
      split at h
      · rename_i l hgn
        obtain ⟨r, rfl⟩ := cmpFs_prefix fs _ _ h
        have hsz : (acc ++ l ++ r).length = acc.length + l.length + r.length := by simp [Nat.add_assoc]
        obtain ⟨b1, b2, h1, h2, rfl⟩ := eqVals_split l.length _ _ _ _ hb
        rw [List.drop_drop, List.drop_drop, List.drop_drop] at h2
        have hrec := eqFields_run hg hp xs ys fs (acc ++ l) _ b2 h hx hy (by rw [List.length_append]; exact h2)
        have h1' : eqVals l ((xs.toList.drop acc.length).take l.length) ((ys.toList.drop acc.length).take l.length) = some b1 := by
          have e : ((acc ++ l ++ r).drop acc.length).take l.length = l := by rw [List.append_assoc, List.drop_left, List.take_left]
          rw [e] at h1
          exact h1
        unfold Op.eqFields
        rw [if_pos hn.1, Sem.run_bind, hn.2, hp _ _ hgn xs acc.length (by omega), Result.andThen_ok, Sem.run_bind, hp _ _ hgn ys acc.length (by omega), Result.andThen_ok, Sem.run_bind,
          hg _ _ hgn _ _ b1 h1', Result.andThen_ok]
        cases b1 with
        | true => simpa using hrec
        | false => simp
      · cases h
    · cases h

theorem fieldsOf_eq {t : TypeId} {fs : Array Field} (h : P.underlying t = some (.struct fs)) : P.fieldsOf t = fs := by
  unfold Program.fieldsOf; rw [h]

theorem equal_cells : ∀ (d : Nat) (t : TypeId) (l : List LK), cmpOk P d t = some l → ∀ (xs ys : List Value) (b : Bool), eqVals l xs ys = some b → ∀ d', d ≤ d' → (Op.equalIn d' t (valOf P t xs) (valOf P t ys)).run P w = .ok b w
  | 0, t, l, h, _, _, _, _, _, _ => by simp [cmpOk] at h
  | d + 1, t, l, h, xs, ys, b, hb, 0, hd => by omega
  | d + 1, t, l, h, xs, ys, b, hb, d' + 1, hd => by
    unfold cmpOk at h
    have one : ∀ k, l = [k] → ∃ x y, xs = [x] ∧ ys = [y] ∧ eqLeaf k x y = some b := by
      intro k hn
      subst hn
      obtain ⟨h1, h2⟩ := eqVals_length _ _ _ _ hb
      match xs, ys, h1, h2, hb with
      | [x], [y], _, _, hb =>
        obtain ⟨c1, c2, h3, h4, rfl⟩ := eqVals_cons hb
        simp only [eqVals, Option.some.injEq] at h4
        subst h4
        exact ⟨x, y, rfl, rfl, by simpa using h3⟩
    split at h
    · rename_i hu
      cases h
      obtain ⟨x, y, rfl, rfl, he⟩ := one _ rfl
      unfold valOf
      rw [hu]
      simp only [List.headD_cons]
      obtain ⟨a, c, rfl, rfl, rfl⟩ := leaf_b he
      exact run_equalIn_bool w d' t a c hu
    · rename_i k hu
      cases h
      obtain ⟨x, y, rfl, rfl, he⟩ := one _ rfl
      unfold valOf
      rw [hu]
      simp only [List.headD_cons]
      obtain ⟨k1, a, c, rfl, rfl, rfl⟩ := leaf_i he
      exact run_equalIn_int w d' t k1 k a c hu
    · rename_i hu
      cases h
      obtain ⟨x, y, rfl, rfl, he⟩ := one _ rfl
      unfold valOf
      rw [hu]
      simp only [List.headD_cons]
      obtain ⟨a, c, rfl, rfl, rfl⟩ := leaf_s he
      exact run_equalIn_string w d' t a c hu
    · rename_i fs hu
      split at h
      · rename_i hst
        split at h
        · rename_i m hm
          split at h
          · cases h
            have hf := fieldsOf_eq hu
            unfold valOf
            rw [hu]
            simp only
            rw [run_equalIn_struct w d' t xs.toArray ys.toArray (by rw [hf]; exact hu) hst, hf]
            obtain ⟨h1, h2⟩ := eqVals_length _ _ _ _ hb
            exact eqFields_run (fun t l hl xs ys b hb => equal_cells d t l hl xs ys b hb d' (by omega)) (fun t l hl arr off ho => part_at hl arr off ho) xs.toArray ys.toArray fs.toList [] l b hm (by simpa using h1) (by simpa using h2) (by simpa using hb)
          · cases h
        · cases h
      · cases h
    · cases h

theorem plainS_vals : ∀ (cs : List SVal) (xs ys : List Value), plainS cs = some ys → DL ρ cs xs → xs = ys
  | [], xs, ys, h, hd => by
    simp only [plainS, Option.some.injEq] at h
    subst h
    match xs, hd with
    | [], _ => rfl
  | x :: cs, xs, ys, h, hd => by
    match xs, hd with
    | v :: vs, hd =>
      cases x with
      | v y =>
        simp only [plainS] at h
        split at h
        · rename_i l hl
          cases h
          have h1 : v = y := hd.1
          rw [h1, plainS_vals cs vs l hl hd.2]
        · cases h
      | _ => simp [plainS] at h

theorem eqCells_vals (l : List LK) (cs ds : List SVal) (b : Bool) (xs ys : List Value) (h : eqCells l cs ds = some b) (h1 : DL ρ cs xs) (h2 : DL ρ ds ys) : eqVals l xs ys = some b := by
  unfold eqCells at h
  split at h
  · rename_i xs' ys' e1 e2
    rw [plainS_vals cs xs xs' e1 h1, plainS_vals ds ys ys' e2 h2]
    exact h
  · cases h

theorem step_eqAgg {op : BinOp} {t ty : TypeId} {l : List LK} {x y : Operand} {cs ds : List SVal} {r : SVal} {p : Prop} {us : List Ent} (H : HRel Fr RO ρ own hp w) (hev : ∀ x, D ρ (ev x) (a.eval x)) (ht : cmpT P t = some l)
    (ho : o.op = .binOp op t x y ty) (hx : ev x = .agg cs) (hy : ev y = .agg ds) (h : eqAgg op l cs ds = some (p, r, us)) (hp' : p) : Step Dq P Fr RO ρ hp o a w r us := by
  unfold cmpT at ht
  split at ht
  · rename_i fs hu
    split at ht
    · rename_i hg
      have hX := hev x
      have hY := hev y
      rw [hx] at hX
      rw [hy] at hY
      obtain ⟨X, eX, dX⟩ := hX
      obtain ⟨Y, eY, dY⟩ := hY
      unfold eqAgg at h
      split at h
      · rename_i b hb
        have he := equal_cells (w := w) 20 t l ht X.toList Y.toList b (eqCells_vals l cs ds b _ _ hb dX dY) 10000 (by omega)
        have hv : ∀ Z : Array Value, valOf P t Z.toList = .agg Z := by
          intro Z; unfold valOf; rw [hu]
        rw [hv, hv] at he
        cases op <;> simp only [ret, Option.some.injEq, Prod.mk.injEq] at h <;> first | (cases h; done) | skip
        · obtain ⟨_, rfl, rfl⟩ := h
          refine step_pure H (v := .bool b) ?_ rfl
          simp only [execOp, ho, eX, eY]
          rw [Sem.run_bind, Sem.run_bind, run_eqGuard_agg w .eql t x y X Y hg, Result.andThen_ok, run_eql_struct, he]
          rfl
        · obtain ⟨_, rfl, rfl⟩ := h
          refine step_pure H (v := .bool !b) ?_ rfl
          simp only [execOp, ho, eX, eY]
          rw [Sem.run_bind, Sem.run_bind, run_eqGuard_agg w .neq t x y X Y hg, Result.andThen_ok, run_neq_struct, he]
          rfl
      · cases h
    · cases ht
  · cases ht

theorem step_eqIface {op : BinOp} {t ty : TypeId} {i : TI} {x y : Operand} {r : SVal} {p : Prop} {us : List Ent} (H : HRel Fr RO ρ own hp w) (hev : ∀ x, D ρ (ev x) (a.eval x)) (F : TyFacts P t i) (hi : i.td = .iface)
    (ho : o.op = .binOp op t x y ty) (h : eqIface op (isLit x || isLit y) (ev x) (ev y) = some (p, r, us)) (hp' : p) : Step Dq P Fr RO ρ hp o a w r us := by
  have ht := F.td
  rw [hi] at ht
  obtain ⟨ms, hu⟩ := td_iface ht
  have hX := hev x
  have hY := hev y
  unfold eqIface at h
  split at h
  · rename_i ex ey
    rw [ex] at hX
    rw [ey] at hY
    obtain ⟨tt, vv, eX⟩ := hX
    simp only [D] at hY
    have he : (Op.equal t (.iface tt vv) .nilIface).run P w = .ok false w := by
      unfold Op.equal Op.maxDepth Op.equalIn
      rw [Sem.run_bind, run_underlying hu w, Result.andThen_ok]
      rfl
    have hg : (eqGuard op t x y (.iface tt vv) .nilIface).run P w = .ok () w := by
      unfold eqGuard
      cases op <;> rfl
    cases op <;> simp only [ret, Option.some.injEq, Prod.mk.injEq] at h <;> first | (cases h; done) | skip
    · obtain ⟨_, rfl, rfl⟩ := h
      refine step_pure H (v := .bool false) ?_ rfl
      simp only [execOp, ho, eX, hY]
      rw [Sem.run_bind, Sem.run_bind, hg, Result.andThen_ok]
      simp [binOp, he]
    · obtain ⟨_, rfl, rfl⟩ := h
      refine step_pure H (v := .bool true) ?_ rfl
      simp only [execOp, ho, eX, hY]
      rw [Sem.run_bind, Sem.run_bind, hg, Result.andThen_ok]
      simp [binOp, he]
  · rename_i ex ey
    rw [ex] at hX
    rw [ey] at hY
    simp only [D] at hX hY
    split at h
    · rename_i hl
      have he : (Op.equal t .nilIface .nilIface).run P w = .ok true w := by
        unfold Op.equal Op.maxDepth Op.equalIn
        rw [Sem.run_bind, run_underlying hu w, Result.andThen_ok]
        rfl
      have hg : (eqGuard op t x y .nilIface .nilIface).run P w = .ok () w := by
        unfold eqGuard
        cases x <;> cases y <;> simp [isLit] at hl <;> cases op <;> rfl
      cases op <;> simp only [ret, Option.some.injEq, Prod.mk.injEq] at h <;> first | (cases h; done) | skip
      · obtain ⟨_, rfl, rfl⟩ := h
        refine step_pure H (v := .bool true) ?_ rfl
        simp only [execOp, ho, hX, hY]
        rw [Sem.run_bind, Sem.run_bind, hg, Result.andThen_ok]
        simp [binOp, he]
      · obtain ⟨_, rfl, rfl⟩ := h
        refine step_pure H (v := .bool false) ?_ rfl
        simp only [execOp, ho, hX, hY]
        rw [Sem.run_bind, Sem.run_bind, hg, Result.andThen_ok]
        simp [binOp, he]
    · cases h
  · cases h

theorem step_makeIface {t : TypeId} {i : TI} {x : Operand} (H : HRel Fr RO ρ own hp w) (F : TyFacts P t i) (hi : i.td ≠ .iface) (ho : o.op = .makeInterface t x) : Step Dq P Fr RO ρ hp o a w .ifc [] := by
  obtain ⟨u, hu, hne⟩ := td_not_iface F.td hi
  refine step_pure H (v := .iface t (a.eval x)) ?_ ⟨_, _, rfl⟩
  simp only [execOp, ho]
  rw [Sem.run_bind]
  have : (Instr.makeInterface t (a.eval x)).run P w = .ok (.iface t (a.eval x)) w := by
    unfold Instr.makeInterface
    rw [Sem.run_bind, run_underlying hu w, Result.andThen_ok]
    cases u <;> first | rfl | exact absurd rfl (hne _)
  rw [this]
  rfl

theorem row_read {val : Value} {own : Nat → Prop} {et sz : Nat} {xs : List (List Cell)} (h : holds ρ val own RO w (.row false et sz xs)) :
    ∃ vals, ReadS RO w val sz xs.length vals ∧ CellsAre RO w xs.flatten vals ∧ ∀ l ∈ xs, l.length = sz := by
  obtain ⟨vals, h1, h2, _, h4⟩ := h
  exact ⟨vals, h1, h2, h4⟩

def cutV (sz A B : Nat) : Value → Value
  | .slice a _ c => .slice (if c = A then a else a.map (·.add (A * sz))) (B - A) (c - A)
  | v => v

theorem cut_reads {val : Value} {et sz : Nat} {xs : List (List Cell)} {own : Nat → Prop} (h : holds ρ val own RO w (.row false et sz xs)) {A B : Nat} (hAB : A ≤ B) (hB : B ≤ xs.length) :
    holds ρ (cutV sz A B val) (fun _ => False) RO w (.row false et sz ((xs.take B).drop A)) := by
  obtain ⟨vals, ⟨a, c, rfl, hl, ⟨hm, hc⟩, hr⟩, hcs, hlen⟩ := row_read h
  have hn : ((xs.take B).drop A).length = B - A := by simp; omega
  have hlen' : ∀ l ∈ xs.take B, l.length = sz := fun l hl => hlen l (List.mem_of_mem_take hl)
  have hflat : ((xs.take B).drop A).flatten = (xs.flatten.take (B * sz)).drop (A * sz) := by
    rw [drop_flatten A hlen', take_flatten B hlen]
  refine ⟨(vals.take (B * sz)).drop (A * sz), ?_, ?_, fun _ h => h, fun l hl => hlen' l (List.mem_of_mem_drop hl)⟩
  · have hBs : B * sz ≤ xs.length * sz := Nat.mul_le_mul_right _ hB
    have hAs : A * sz ≤ B * sz := Nat.mul_le_mul_right _ hAB
    refine ⟨_, c - A, by rw [hn]; rfl, ?_, ⟨by rw [hn]; omega, by rw [hn]; omega⟩, fun hpos => ?_⟩
    · rw [hn, List.length_drop, List.length_take, hl, Nat.min_eq_left hBs, Nat.sub_mul]
    · rw [hn] at hpos
      obtain ⟨ad, rfl, h1, h2⟩ := hr (by omega)
      rw [if_neg (by omega)]
      refine ⟨ad.add (A * sz), rfl, fun hs => by rw [Addr_add_block]; exact h1 hs, fun j x hj => ?_⟩
      rw [add_add]
      refine h2 _ x ?_
      rw [List.getElem?_drop, List.getElem?_take] at hj
      split at hj
      · exact hj
      · cases hj
  · rw [hflat]
    exact (hcs.take _).drop _

theorem cut_run {t e : TypeId} {i j : TI} {x : Operand} {lo hi : Option Operand} {ad : Option Addr} {n cp : Nat} {A B : Int} (hev : ∀ x, D ρ (ev x) (a.eval x)) (F : TyFacts P t i) (hi' : i.td = .slice e) (Fe : TyFacts P e j)
    (ho : o.op = .slice t x lo hi none) (hX : a.eval x = .slice ad n cp) (hcp : n ≤ cp)
    (hlo : (lo = none ∧ A = 0) ∨ ∃ l k, lo = some l ∧ ev l = .v (.int k A)) (hhi : (hi = none ∧ B = n) ∨ ∃ l k, hi = some l ∧ ev l = .v (.int k B)) (h0 : 0 ≤ A) (h1 : A ≤ B) (h2 : B ≤ n) :
    (execOp a.eval o).run P w = .ok (.value (cutV j.size A.toNat B.toNat (.slice ad n cp))) w := by
  have hs := F.td
  rw [hi'] at hs
  have hu := td_slice hs
  simp only [execOp, ho, hX]
  rw [Sem.run_bind]
  have hbd : (Instr.sliceBounds true n cp (lo.map a.eval) (hi.map a.eval) none).run P w = .ok (A.toNat, B.toNat, cp) w := by
    have sb : ∀ (l : Operand) (k : IntKind) (n : Int) (y : Nat) (code : BoundsCode), ev l = .v (.int k n) → 0 ≤ n → n ≤ y → (Instr.sliceBound (a.eval l) y code).run P w = .ok n.toNat w := by
      intro l k n y code hl hn hy
      have := hev l
      rw [hl] at this
      simp only [D] at this
      rw [this]
      exact run_sliceBound w k n y code hn hy
    rcases hhi with ⟨rfl, rfl⟩ | ⟨l, k, rfl, hl⟩ <;> rcases hlo with ⟨rfl, rfl⟩ | ⟨l', k', rfl, hl'⟩
    · simp [Instr.sliceBounds]
    · simp [Instr.sliceBounds, sb l' k' A n .sliceB hl' h0 (by omega)]
    · simp [Instr.sliceBounds, sb l k B cp .sliceAcap hl (by omega) (by omega)]
    · simp [Instr.sliceBounds, sb l k B cp .sliceAcap hl (by omega) (by omega), sb l' k' A B.toNat .sliceB hl' h0 (by omega)]
  have : (Instr.sliceAt t (.slice ad n cp) (lo.map a.eval) (hi.map a.eval) none).run P w = .ok (cutV j.size A.toNat B.toNat (.slice ad n cp)) w := by
    unfold Instr.sliceAt
    rw [Sem.run_bind, run_underlying hu w, Result.andThen_ok]
    simp only
    unfold Instr.slice
    rw [Sem.run_bind, run_underlying hu w, Result.andThen_ok]
    simp only
    rw [Sem.run_bind, hbd, Result.andThen_ok]
    simp only
    rw [Sem.run_bind, run_sizeOf Fe, Result.andThen_ok]
    rfl
  rw [Option.map_none, this]
  rfl

theorem HRel.share (H : HRel Fr RO ρ own hp w) {b : Nat} (hb : hp b = none) (so : SObj) (x : Value) (ho : holds (ρ.set b 0 x) x (fun _ => False) RO w so) :
    HRel Fr RO (ρ.set b 0 x) (fun b' => if b' = b then fun _ => False else own b') (fun b' => if b = b' then some ⟨b, 0, so⟩ else hp b') w ∧ ρ.le (ρ.set b 0 x) :=
  H.upd b 0 so x (fun _ => False) (.inr (by simp [nextOf, hb])) (by simp [hb]) (Adv.refl _ w) ho (fun k hk => hk.elim)

theorem step_cut {t e : TypeId} {i j : TI} {x : Operand} {lo hi : Option Operand} {b u et sz d : Nat} {rw' : Bool} {xs : List (List Cell)} {A B : Int} (H : HRel Fr RO ρ own hp w) (hev : ∀ x, D ρ (ev x) (a.eval x)) (F : TyFacts P t i) (hi' : i.td = .slice e) (Fe : TyFacts P e j)
    (hsz : sz = j.size) (ho : o.op = .slice t x lo hi none) (hx : ev x = .own b u) (hob : objOf hp b u = some (.row rw' et sz xs)) (hd : hp d = none)
    (hlo : (lo = none ∧ A = 0) ∨ ∃ l k, lo = some l ∧ ev l = .v (.int k A)) (hhi : (hi = none ∧ B = xs.length) ∨ ∃ l k, hi = some l ∧ ev l = .v (.int k B)) (h0 : 0 ≤ A) (h1 : A ≤ B) (h2 : B ≤ xs.length) :
    Step Dq P Fr RO ρ hp o a w (.own d 0) [⟨b, u, .row false et sz xs⟩, ⟨d, 0, .row false et sz ((xs.take B.toNat).drop A.toNat)⟩] := by
  have hX := hev x
  rw [hx] at hX
  simp only [D] at hX
  have he := objOf_ent H hob
  obtain ⟨RO', hro, _, H'⟩ := H.freeze b u et sz rw' xs he
  have hbd : ¬ b = d := by intro h; subst h; rw [he] at hd; cases hd
  obtain ⟨_, val, hρ, hh⟩ := H'.ent b ⟨b, u, .row false et sz xs⟩ (by simp)
  simp only at hρ hh
  rw [hX] at hρ
  cases hρ
  simp only [if_true] at hh
  obtain ⟨vals, ⟨ad, cp, hval, hl, ⟨hm, hcp⟩, hr⟩, _⟩ := row_read hh
  have hcut := cut_reads (A := A.toNat) (B := B.toNat) hh (by omega) (by omega)
  obtain ⟨H2, hle⟩ := H'.share (b := d) (by simp [hbd, hd]) (.row false et sz ((xs.take B.toNat).drop A.toNat)) (cutV sz A.toNat B.toNat (a.eval x)) hcut
  refine step_value (v := cutV sz A.toNat B.toNat (a.eval x)) (w' := w) ?_ H2 (by simp [D, Rho.set]) hle hro (Adv.refl _ w)
  rw [hval, hsz]
  exact cut_run hev F hi' Fe ho hval hcp hlo hhi h0 h1 h2
end
end Go.Sx

namespace Go.Sx
section
variable {Dq : Prop} {P : Program} {c : Ctx} {Fr RO : Nat → Prop} {ρ : Rho} {own : Foot} {hp : HpF} {o : Oper} {a : Act} {w : World} {ev : Operand → SVal}
theorem HRel.addRO (H : HRel Fr RO ρ own hp w) {w' : World} (ha : Adv (fun k => k < w.heap.size) w w') {k0 : Nat} (h1 : w.heap.size ≤ k0) (h2 : k0 < w'.heap.size) : HRel Fr (fun k => RO k ∨ k = k0) ρ own hp w' := by
  have H1 := H.adv ha
  refine ⟨?_, H1.non, H1.dom, H1.one, H1.disj, ?_, ?_, H1.fr⟩
  · intro b e he
    obtain ⟨e1, x, e2, e3⟩ := H1.ent b e he
    exact ⟨e1, x, e2, e3.adv (Rho.le_refl _) (fun k hk => .inl hk) (fun _ _ => rfl) (fun _ _ => rfl)⟩
  · intro b k hk
    obtain ⟨r1, r2, r3⟩ := H.ro b k hk
    refine ⟨fun hc => ?_, r2, Nat.lt_of_lt_of_le r3 ha.size⟩
    rcases hc with hc | hc
    · exact r1 hc
    · omega
  · intro k hk
    rcases hk with hk | hk
    · exact H1.rofr k hk
    · subst hk
      exact ⟨fun hf => by have := H.fr k hf; omega, h2⟩

theorem step_bytes {s t e : TypeId} {i j k : TI} {x : Operand} {z : ByteArray} {d : Nat} (H : HRel Fr RO ρ own hp w) (hev : ∀ x, D ρ (ev x) (a.eval x)) (F : TyFacts P s i) (hi : i.td = .str) (F' : TyFacts P t j) (hj : j.td = .slice e) (Fe : TyFacts P e k) (hk : k.td = .int .u8)
    (ho : o.op = .convert s t x) (hx : ev x = .v (.string z)) (hd : hp d = none) (hz : z.size ≤ 9223372036854775807) :
    Step Dq P Fr RO ρ hp o a w (.own d 0) [⟨d, 0, .row false e 1 (z.data.toList.map fun b => [.v (.int .u8 b.toNat)])⟩] := by
  have hX := hev x
  rw [hx] at hX
  simp only [D] at hX
  have hs := F.td
  rw [hi] at hs
  have ht := F'.td
  rw [hj] at ht
  have he := Fe.td
  rw [hk] at he
  have hus := td_str hs
  have hut := td_slice ht
  have hue := td_int he
  have hadv : Adv (fun k => k < w.heap.size) w (Lib.bytesWorld w e z) := by
    refine ⟨?_, ?_, ?_, by rw [Lib.bytesWorld_size]; omega, fun k hk => Lib.bytesWorld_at_old w e z k hk⟩ <;>
    · unfold Lib.bytesWorld World.freeze
      split <;> rfl
  have H1 := H.addRO hadv (Nat.le_refl _) (by rw [Lib.bytesWorld_size]; omega : w.heap.size < (Lib.bytesWorld w e z).heap.size)
  have hsz : z.data.toList.length = z.size := Array.length_toList
  have hfl : (z.data.toList.map fun b => [Cell.v (.int .u8 b.toNat)]).flatten = z.data.toList.map fun b => Cell.v (.int .u8 b.toNat) := by
    generalize z.data.toList = l
    induction l with
    | nil => rfl
    | cons x r ih => simp [ih]
  obtain ⟨H2, hle⟩ := H1.share (b := d) hd (.row false e 1 (z.data.toList.map fun b => [.v (.int .u8 b.toNat)])) (.slice (some ⟨w.heap.size, 0, none⟩) z.size (grownCap w z.size 0 e)) (by
    refine ⟨z.data.toList.map fun b => .int .u8 b.toNat, ?_, ?_, fun _ h => h, fun l hl => ?_⟩
    · refine ⟨_, _, by rw [List.length_map, hsz], by simp, ⟨by rw [List.length_map, hsz]; exact hz, ?_⟩, fun hpos => ⟨_, rfl, fun _ => .inr rfl, fun j v hj => ?_⟩⟩
      · rw [List.length_map, hsz]
        exact grownCap_ge w z.size 0 e
      · rw [add_lit, Nat.zero_add]
        rw [List.getElem?_map] at hj
        cases hq : z.data.toList[j]? with
        | none => rw [hq] at hj; simp at hj
        | some b =>
          rw [hq] at hj
          simp only [Option.map_some, Option.some.injEq] at hj
          subst hj
          have hlt : j < z.size := by rw [← hsz]; exact (List.getElem?_eq_some_iff.1 hq).1
          rw [Lib.bytesWorld_cell w e z j hlt, List.getD_eq_getElem?_getD, hq]
          rfl
    · rw [hfl]
      generalize z.data.toList = l
      induction l with
      | nil => exact trivial
      | cons x r ih => exact ⟨⟨rfl, rfl⟩, ih⟩
    · obtain ⟨b, _, rfl⟩ := List.mem_map.1 hl
      rfl)
  refine step_value (v := .slice (some ⟨w.heap.size, 0, none⟩) z.size (grownCap w z.size 0 e)) (w' := Lib.bytesWorld w e z) ?_ H2 (by simp [D, Rho.set]) hle (fun k hk => .inl hk) (adv_frame H hadv)
  simp only [execOp, ho, hX]
  rw [Sem.run_bind, Lib.run_convert_string_bytes w s t e z hus hut hue]
  rfl
end
end Go.Sx

namespace Go.Sx
def InE (acc : List Ent) (r : Nat × Nat) : Prop := ∃ e, findE acc r.1 = some e ∧ e.ver = r.2

theorem findE_name : ∀ {l : List Ent} {b : Nat} {e : Ent}, findE l b = some e → e.name = b
  | x :: l, b, e, h => by
    unfold findE at h
    split at h
    · rename_i hx; cases h; exact hx
    · exact findE_name h

theorem findE_append : ∀ (l : List Ent) (x : Ent) (b : Nat), findE (l ++ [x]) b = match findE l b with
    | some e => some e
    | none => if x.name = b then some x else none
  | [], x, b => by simp [findE]
  | y :: l, x, b => by
    simp only [List.cons_append, findE]
    by_cases h : y.name = b
    · simp [h]
    · simp only [if_neg h]; exact findE_append l x b

theorem nthE_append : ∀ (l : List Ent) (x : Ent) (j : Nat) (e : Ent), nthE (l ++ [x]) j = some e → nthE l j = some e ∨ (j = l.length ∧ e = x)
  | [], x, 0, e, h => .inr ⟨rfl, by simpa [nthE] using h.symm⟩
  | [], x, j + 1, e, h => by simp [nthE] at h
  | y :: l, x, 0, e, h => .inl h
  | y :: l, x, j + 1, e, h => by
    rcases nthE_append l x j e h with h | ⟨h1, h2⟩
    · exact .inl h
    · exact .inr ⟨by simp [h1], h2⟩

theorem indexE_append : ∀ (l : List Ent) (x : Ent) (b : Nat), indexE (l ++ [x]) b = match findE l b with
    | some _ => indexE l b
    | none => if x.name = b then l.length else l.length + 1
  | [], x, b => by by_cases h : x.name = b <;> simp [indexE, findE, h]
  | y :: l, x, b => by
    simp only [List.cons_append, indexE, findE]
    by_cases h : y.name = b
    · simp [h]
    · simp only [if_neg h, indexE_append l x b]
      split
      · rfl
      · by_cases hx : x.name = b <;> simp [hx]

def Nod (acc : List Ent) : Prop := ∀ j e, nthE acc j = some e → indexE acc e.name = j ∧ findE acc e.name = some e

theorem nod_append {l : List Ent} {x : Ent} (h : Nod l) (hx : findE l x.name = none) : Nod (l ++ [x]) := by
  intro j e he
  rcases nthE_append l x j e he with h1 | ⟨h1, h2⟩
  · obtain ⟨h3, h4⟩ := h j e h1
    rw [indexE_append, findE_append, h4]
    exact ⟨h3, rfl⟩
  · subst h1 h2
    rw [indexE_append, findE_append, hx]
    simp

theorem nthE_index : ∀ {l : List Ent} {b : Nat} {e : Ent}, findE l b = some e → nthE l (indexE l b) = some e
  | x :: l, b, e, h => by
    unfold findE at h
    unfold indexE
    split at h
    · rename_i hx; simp only [if_pos hx]; exact h
    · rename_i hx; simp only [if_neg hx]; exact nthE_index h

theorem nthE_lt : ∀ {l : List Ent} {j : Nat}, j < l.length → ∃ e, nthE l j = some e
  | x :: l, 0, _ => ⟨x, rfl⟩
  | x :: l, j + 1, h => nthE_lt (l := l) (by simpa using h)
theorem nthE_len : ∀ {l : List Ent} {j : Nat} {e : Ent}, nthE l j = some e → j < l.length
  | x :: l, 0, e, _ => by simp
  | x :: l, j + 1, e, h => by have := nthE_len (l := l) h; simpa using this

theorem reach_spec {hp : HpF} (hname : ∀ b e, hp b = some e → e.name = b) : ∀ (n : Nat) (todo : List (Nat × Nat)) (acc acc' : List Ent), reach hp n todo acc = some acc' → Nod acc →
    (∀ b e, findE acc b = some e → findE acc' b = some e) ∧ (∀ r ∈ todo, InE acc' r) ∧ (∀ b e, findE acc' b = some e → findE acc b = some e ∨ (hp b = some e ∧ ∀ r ∈ refsO e.obj, InE acc' r)) ∧ Nod acc'
  | _, [], acc, acc', h, hn => by
    simp [reach] at h
    subst h
    exact ⟨fun _ _ h => h, by simp, fun _ _ h => .inl h, hn⟩
  | 0, _ :: _, acc, acc', h, _ => by simp [reach] at h
  | n + 1, r :: todo, acc, acc', h, hn => by
    unfold reach at h
    split at h
    · rename_i e he
      split at h
      · rename_i hv
        obtain ⟨h1, h2, h3, h4⟩ := reach_spec hname n todo acc acc' h hn
        refine ⟨h1, fun r' hr' => ?_, h3, h4⟩
        rcases List.mem_cons.1 hr' with rfl | hr'
        · exact ⟨e, h1 _ _ he, hv⟩
        · exact h2 r' hr'
      · cases h
    · rename_i he
      split at h
      · rename_i e hpe
        split at h
        · rename_i hv
          have hen := hname _ _ hpe
          obtain ⟨h1, h2, h3, h4⟩ := reach_spec hname n _ (acc ++ [e]) acc' h (nod_append hn (by rw [hen]; exact he))
          refine ⟨fun b x hb => h1 b x (by rw [findE_append, hb]), fun r' hr' => ?_, fun b x hb => ?_, h4⟩
          · rcases List.mem_cons.1 hr' with rfl | hr'
            · exact ⟨e, h1 _ _ (by rw [findE_append, he]; simp [hen]), hv⟩
            · exact h2 r' (List.mem_append.2 (.inl hr'))
          · rcases h3 b x hb with h5 | h5
            · rw [findE_append] at h5
              split at h5
              · rename_i y hy
                cases h5
                exact .inl hy
              · split at h5
                · rename_i hxb
                  cases h5
                  refine .inr ⟨by rw [← hxb, hen]; exact hpe, fun r' hr' => h2 r' (List.mem_append.2 (.inr hr'))⟩
                · cases h5
            · exact .inr h5
        · cases h
      · cases h

mutual
theorem D.rename {ρ ρ' : Rho} {f : Nat → Nat → Nat × Nat} : ∀ (x : SVal) (v : Value), (∀ r ∈ refs x, ∀ y, ρ r.1 r.2 = some y → ρ' (f r.1 r.2).1 (f r.1 r.2).2 = some y) → D ρ x v → D ρ' (mapR f x) v
  | .v _, _, _, h => h
  | .ptr b u off, _, hr, ⟨a, h1, h2⟩ => ⟨a, hr (b, u) (by simp [refs]) _ h1, h2⟩
  | .own b u, v, hr, h => hr (b, u) (by simp [refs]) v h
  | .elt b u s i off, _, hr, ⟨a, n, c, h1, h2⟩ => ⟨a, n, c, hr (b, u) (by simp [refs]) _ h1, h2⟩
  | .agg l, _, hr, ⟨arr, h1, h2⟩ => ⟨arr, h1, DL.rename l _ (fun r h => hr r (by simpa [refs] using h)) h2⟩
  | .tup l, _, hr, ⟨arr, h1, h2⟩ => ⟨arr, h1, DL.rename l _ (fun r h => hr r (by simpa [refs] using h)) h2⟩
  | .fn g l m, _, hr, ⟨fa, ca, h1, h2, h3⟩ => ⟨fa, ca, h1, DL.rename l _ (fun r h => hr r (by simp only [refs, List.mem_append]; exact .inl h)) h2, DL.rename m _ (fun r h => hr r (by simp only [refs, List.mem_append]; exact .inr h)) h3⟩
  | .ifc, _, _, h => h
  | .undef, _, _, _ => trivial
theorem DL.rename {ρ ρ' : Rho} {f : Nat → Nat → Nat × Nat} : ∀ (l : List SVal) (vs : List Value), (∀ r ∈ refsL l, ∀ y, ρ r.1 r.2 = some y → ρ' (f r.1 r.2).1 (f r.1 r.2).2 = some y) → DL ρ l vs → DL ρ' (mapRL f l) vs
  | [], [], _, _ => trivial
  | x :: l, v :: vs, hr, ⟨h1, h2⟩ => ⟨D.rename x v (fun r h => hr r (by simp only [refsL, List.mem_append]; exact .inl h)) h1, DL.rename l vs (fun r h => hr r (by simp only [refsL, List.mem_append]; exact .inr h)) h2⟩
  | [], _ :: _, _, h => h.elim
  | _ :: _, [], _, h => h.elim
end
theorem holds.rename {ρ ρ' : Rho} {f : Nat → Nat → Nat × Nat} {val : Value} {own RO : Nat → Prop} {w : World} : ∀ {o : SObj}, (∀ r ∈ refsO o, ∀ y, ρ r.1 r.2 = some y → ρ' (f r.1 r.2).1 (f r.1 r.2).2 = some y) → holds ρ val own RO w o → holds ρ' val own RO w (mapRO f o)
  | .cells cs, hr, ⟨g, arr, ty, h1, h2, h3, h4⟩ => ⟨g, arr, ty, h1, h2, DL.rename cs _ hr h3, h4⟩
  | .row true et sz xs, _, h => h
  | .row false et sz xs, _, h => h
  | .str s pos, _, h => h

mutual
theorem mapR_mapR {f g : Nat → Nat → Nat × Nat} : ∀ (x : SVal), (∀ r ∈ refs x, g (f r.1 r.2).1 (f r.1 r.2).2 = r) → mapR g (mapR f x) = x
  | .v _, _ => rfl
  | .ptr b u off, h => by
    have := h (b, u) (by simp [refs])
    simp only [mapR]
    rw [this]
  | .own b u, h => by
    have := h (b, u) (by simp [refs])
    simp only [mapR]
    rw [this]
  | .elt b u s i off, h => by
    have := h (b, u) (by simp [refs])
    simp only [mapR]
    rw [this]
  | .agg l, h => by simp only [mapR]; rw [mapRL_mapRL l (fun r hr => h r (by simpa [refs] using hr))]
  | .tup l, h => by simp only [mapR]; rw [mapRL_mapRL l (fun r hr => h r (by simpa [refs] using hr))]
  | .fn q l m, h => by simp only [mapR]; rw [mapRL_mapRL l (fun r hr => h r (by simp only [refs, List.mem_append]; exact .inl hr)), mapRL_mapRL m (fun r hr => h r (by simp only [refs, List.mem_append]; exact .inr hr))]
  | .ifc, _ => rfl
  | .undef, _ => rfl
theorem mapRL_mapRL {f g : Nat → Nat → Nat × Nat} : ∀ (l : List SVal), (∀ r ∈ refsL l, g (f r.1 r.2).1 (f r.1 r.2).2 = r) → mapRL g (mapRL f l) = l
  | [], _ => rfl
  | x :: l, h => by
    simp only [mapRL]
    rw [mapR_mapR x (fun r hr => h r (by simp only [refsL, List.mem_append]; exact .inl hr)), mapRL_mapRL l (fun r hr => h r (by simp only [refsL, List.mem_append]; exact .inr hr))]
end
theorem findE_number (acc : List Ent) : ∀ (l : List Ent) (j b : Nat), findE (number acc j l) b = if b < j then none else (nthE l (b - j)).map fun e => ⟨b, 0, mapRO (inward acc) e.obj⟩
  | [], j, b => by simp [number, findE, nthE]
  | e :: l, j, b => by
    simp only [number, findE]
    by_cases h : j = b
    · subst h; simp [nthE]
    · rw [if_neg h, findE_number acc l (j + 1) b]
      by_cases hb : b < j
      · simp [hb, show b < j + 1 by omega]
      · rw [if_neg hb, if_neg (by omega)]
        obtain ⟨k, rfl⟩ : ∃ k, b = j + 1 + k := ⟨b - (j + 1), by omega⟩
        rw [show j + 1 + k - j = k + 1 by omega, show j + 1 + k - (j + 1) = k by omega]
        rfl

theorem number_length (acc : List Ent) : ∀ (l : List Ent) (j : Nat), (number acc j l).length = l.length
  | [], _ => rfl
  | e :: l, j => by simp [number, number_length acc l (j + 1)]

def outE (acc : List Ent) (d : Nat) (e : Ent) : Ent := ⟨(outward acc d e.name e.ver).1, (outward acc d e.name e.ver).2, mapRO (outward acc d) e.obj⟩

def back (acc : List Ent) (hp : HpF) (d b : Nat) : Option Nat := match findE acc b with
  | some _ => some (indexE acc b)
  | none => if hp b = none ∧ callName d 0 ≤ b then some (acc.length + (b - callName d 0)) else none

theorem back_name {acc : List Ent} {hp : HpF} {d : Nat} (hacc : ∀ b e, findE acc b = some e → hp b = some e) (hnod : Nod acc) {b j : Nat} (h : back acc hp d b = some j) (u : Nat) :
    (outward acc d j u).1 = b := by
  unfold back at h
  split at h
  · rename_i e he
    cases h
    unfold outward
    rw [nthE_index he]
    exact findE_name he
  · split at h
    · rename_i hb
      cases h
      unfold outward
      have : nthE acc (acc.length + (b - callName d 0)) = none := by
        cases hq : nthE acc (acc.length + (b - callName d 0)) with
        | none => rfl
        | some e => have := nthE_len hq; omega
      rw [this]
      simp only
      unfold callName at *
      omega
    · cases h

theorem puts_out {acc : List Ent} {hp : HpF} {d : Nat} (hacc : ∀ b e, findE acc b = some e → hp b = some e) (hnod : Nod acc) :
    ∀ (us : List Ent) (h1 h2 : HpF), freshOk hp acc.length d us = true →
      (∀ b, h1 b = match back acc hp d b with | some j => (h2 j).map (outE acc d) | none => hp b) → (∀ b e, h2 b = some e → e.name = b) →
      (∀ b, putsF h1 (outEnts acc d us) b = match back acc hp d b with | some j => (putsF h2 us j).map (outE acc d) | none => hp b) ∧ ∀ b e, putsF h2 us b = some e → e.name = b
  | [], h1, h2, _, hs, hn => ⟨hs, hn⟩
  | e :: us, h1, h2, hf, hs, hn => by
    simp only [freshOk, Bool.and_eq_true, Bool.or_eq_true, decide_eq_true_eq, Option.isNone_iff_eq_none] at hf
    refine puts_out hacc hnod us _ _ hf.2 (fun b => ?_) (fun b x hx => ?_)
    · -- one entry
      have hback : back acc hp d (outward acc d e.name e.ver).1 = some e.name := by
        unfold outward
        cases hq : nthE acc e.name with
        | some x =>
          simp only
          unfold back
          obtain ⟨h3, h4⟩ := hnod _ _ hq
          rw [h4, h3]
        | none =>
          simp only
          have hge : ¬ e.name < acc.length := fun hlt => by obtain ⟨x, hx⟩ := nthE_lt hlt; rw [hx] at hq; cases hq
          have hfr : hp (callName d (e.name - acc.length)) = none := (hf.1.resolve_left hge).2
          unfold back
          cases hfe : findE acc (callName d (e.name - acc.length)) with
          | some x => rw [hacc _ _ hfe] at hfr; cases hfr
          | none =>
            simp only
            rw [if_pos ⟨hfr, by unfold callName; omega⟩]
            congr 1
            unfold callName
            omega
      by_cases hb : (outward acc d e.name e.ver).1 = b
      · subst hb
        rw [hback]
        simp [outE]
      · have hne : ∀ j, back acc hp d b = some j → e.name ≠ j := by
          intro j hj hej
          subst hej
          exact hb (back_name hacc hnod hj e.ver)
        simp only [if_neg hb]
        rw [hs b]
        split
        · rename_i j hj
          rw [if_neg (hne j hj)]
        · rfl
    · by_cases hb : e.name = b
      · simp only [if_pos hb] at hx
        cases hx
        exact hb
      · simp only [if_neg hb] at hx
        exact hn b x hx
end Go.Sx
