/- An abstract interpreter for the program's code over plain values: integers, bools, texts, lists, structs as lists of cells; a small heap for the variables and slices that a function writes. Definitions only.
The translation of the program's code to the abstract code of V1, after a pattern that holds what is free: which slots are kept, how arguments are handed over. Definitions only.
What it means that values and memory of the running program are those of the abstract interpreter: definitions, and how these relations are kept.
Steps of the abstract heap, and what they come to in memory: a row dropped, shut, made, written.
What the model's operations on memory come to, in the terms of S1: operands, loads, stores, new blocks.
Each operation of the program does what the abstract one does: moves, variables, loads, stores, fields.
Each operation of the program does what the abstract one does: rows read as plain values, rows shut, stores.
The lists of the abstract interpreter, element by element, and the cells that hold them.
Each operation of the program does what the abstract one does: addresses, indexes, lengths, arithmetic, conversions, slice expressions.
Each operation of the program does what the abstract one does: conversions, slice expressions, composite literals.
Each operation of the program does what the abstract one does: conversions, composite literals, new slices.
Each operation of the program does what the abstract one does: structs built, slices built and made.
Each operation of the program does what the abstract one does: make, append, copy.
Each operation of the program does what the abstract one does: append and copy.
Each operation of the program does what the abstract one does: copy. -/
import GoSem.Step
import Derived.Calls
import Derived.Below
import Derived.Laws.Sem
import Derived.Laws.Cells
import Derived.Laws.Entries
import Derived.Lib.Hide
import Derived.Laws.Strings
import Derived.Lib.Strings
import Derived.Laws.BytesString
import Derived.Laws.Tables
import Derived.Deep.AppendSrc
import Derived.Deep.Upon

namespace Go.Proofs.Ytkeipmkiilimeaa.V
open Go
/-- Plain values. A struct is the list of its cells; a slice is a list. -/
inductive PV where
  | int (k : IntKind) (n : Int)
  | bool (b : Bool)
  | str (s : List UInt8)
  | agg (cs : List PV)
  | ints (k : IntKind) (l : List Int)
  | sl (n : Nat) (xs : List PV)
  | nil
  | fn (f : Nat)
instance : Inhabited PV := ⟨.nil⟩
def PV.cells : PV → List PV
  | .agg cs => cs
  | p => [p]
def PV.esz : PV → Nat → Bool
  | .ints _ _, n => n == 1
  | .sl m _, n => m == n
  | .nil, _ => true
  | _, _ => false
def PV.len : PV → Nat
  | .ints _ l => l.length
  | .sl _ xs => xs.length
  | _ => 0
def PV.get : PV → Nat → PV
  | .ints k l, i => .int k (l.getD i 0)
  | .sl _ xs, i => xs.getD i (.bool false)
  | _, _ => .bool false
def PV.sub : PV → Nat → Nat → PV
  | .ints k l, lo, hi => .ints k ((l.drop lo).take (hi - lo))
  | .sl n xs, lo, hi => .sl n ((xs.drop lo).take (hi - lo))
  | p, _, _ => p
def PV.set : PV → Nat → PV → Option PV
  | .ints k l, i, .int k' x => if k = k' then some (.ints k (l.set i x)) else none
  | .sl n xs, i, v => if v.cells.length = n then some (.sl n (xs.set i v)) else none
  | _, _, _ => none
def PV.app : PV → PV → Option PV
  | .ints k l, .ints k' m => if k = k' then some (.ints k (l ++ m)) else none
  | .sl n xs, .sl m ys => if n = m then some (.sl n (xs ++ ys)) else none
  | _, _ => none
/-- The list p with the list s laid over it from place off on. -/
def PV.splice : PV → Nat → PV → Option PV
  | .ints k l, off, .ints k' m => if k = k' then some (.ints k (l.take off ++ m ++ l.drop (off + m.length))) else none
  | .sl n xs, off, .sl m ys => if n = m then some (.sl n (xs.take off ++ ys ++ xs.drop (off + ys.length))) else none
  | _, _, _ => none
def PV.emp (n : Nat) : Option IntKind → PV
  | some k => .ints k []
  | none => .sl n []
/-- A nil slice as the empty list of its type. -/
def PV.ty (n : Nat) (k : Option IntKind) : PV → PV
  | .nil => PV.emp n k
  | p => p
def PV.flat1 : PV → Bool
  | .int _ _ | .bool _ | .str _ | .fn _ => true
  | _ => false
def PV.flat : PV → Bool
  | .agg cs => cs.all PV.flat1
  | p => p.flat1
def PV.isSlice : PV → Bool
  | .ints _ _ | .sl _ _ | .nil => true
  | _ => false
/-- The list of a composite literal. -/
def PV.lits (k : IntKind) : List PV → Option (List Int)
  | [] => some []
  | .int k' x :: r => if k = k' then (PV.lits k r).map (x :: ·) else none
  | _ :: _ => none
def PV.ofLits (n : Nat) (k : Option IntKind) (ps : List PV) : Option PV :=
  match k with
  | some k => (PV.lits k ps).map (PV.ints k)
  | none => if ps.all (fun p => p.cells.length == n) then some (.sl n ps) else none
/-- Values of a running function: plain ones, and such that lead into its heap. -/
inductive AV where
  | pv (p : PV)
  | agg (cs : List AV)
  | tup (vs : List AV)
  | ptr (id off : Nat)
  | row (id : Nat) (vw : Option (Nat × Nat))
  | elem (id idx off : Nat)
  | cell (cs : List PV)
  | mapr (id : Nat)
  | iter (id : Nat)
  | und
  | bad
instance : Inhabited AV := ⟨.bad⟩
inductive AObj where
  | vars (cs : List AV)
  | row (c : PV) (m : Bool)
  | map (kvs : List (PV × PV))
  | iter (s : List UInt8) (pos : Nat)
instance : Inhabited AObj := ⟨.vars []⟩
abbrev Heap := Nat → Option (Option AObj)
abbrev Env := Nat → AV
def env0 : Env := fun _ => .bad
def hp0 : Heap := fun _ => none
/-- Option's bind, a choice, a read: each under a name of its own, so that what comes later is left alone until it is its turn. -/
def kb {α β : Type} (x : Option α) (f : α → Option β) : Option β := x.bind f
def kif {α : Type} (c : Prop) [Decidable c] (x y : Option α) : Option α := if c then x else y
def kg {α β : Type} (x : Option (Option α)) (f : α → Option β) : Option β :=
  match x with
  | some (some o) => f o
  | _ => none
def kd {α β : Type} (x : Option (Option α)) (y : Option β) : Option β :=
  match x with
  | some none => y
  | _ => none
def kn {α β : Type} (x : Option (Option α)) (y : Option β) : Option β :=
  match x with
  | none => y
  | _ => none
def upd (e : Env) (t : Nat) (v : AV) : Env := fun s => if s = t then v else e s
def hup (h : Heap) (i : Nat) (o : Option (Option AObj)) : Heap := fun j => if j = i then o else h j
inductive Arg where
  | pv (p : PV)
  | own (p : PV)
  | obj (cs : List PV)
inductive AR where
  | pv (p : PV)
  | own (p : PV)
  | obj (cs : List PV)
abbrev Call := Nat → List Arg → Option (List AR)
/-- What an operation does to the heap, and what it yields. -/
inductive HP where
  | ret (v : AV)
  | fail
  | br (c : Bool) (x y : HP)
  | get (id : Nat) (k : AObj → HP)
  | put (id : Nat) (o : AObj) (k : HP)
  | new (id : Nat) (o : AObj) (k : HP)
  | del (id : Nat) (k : HP)
  | back (id : Nat) (o : AObj) (k : HP)
  | call (f : Nat) (as : List Arg) (k : List AR → HP)
def HP.run (call : Call) : HP → Heap → Option (AV × Heap)
  | .ret v, h => some (v, h)
  | .fail, _ => none
  | .br c x y, h => kif (c = true) (x.run call h) (y.run call h)
  | .get id k, h => kg (h id) fun o => (k o).run call h
  | .put id o k, h => kg (h id) fun _ => k.run call (hup h id (some (some o)))
  | .new id o k, h => kn (h id) (k.run call (hup h id (some (some o))))
  | .del id k, h => kg (h id) fun _ => k.run call (hup h id (some none))
  | .back id o k, h => kd (h id) (k.run call (hup h id (some (some o))))
  | .call f as k, h => kb (call f as) fun rs => (k rs).run call h
/-- The same, with the places that are read and written. -/
def HP.runF (call : Call) : HP → Heap → List Nat → List Nat → Option (AV × Heap × List Nat × List Nat)
  | .ret v, h, r, w => some (v, h, r, w)
  | .fail, _, _, _ => none
  | .br c x y, h, r, w => kif (c = true) (x.runF call h r w) (y.runF call h r w)
  | .get id k, h, r, w => kg (h id) fun o => (k o).runF call h (id :: r) w
  | .put id o k, h, r, w => kg (h id) fun _ => k.runF call (hup h id (some (some o))) r (id :: w)
  | .new id o k, h, r, w => kn (h id) (k.runF call (hup h id (some (some o))) r (id :: w))
  | .del id k, h, r, w => kg (h id) fun _ => k.runF call (hup h id (some none)) r (id :: w)
  | .back id o k, h, r, w => kd (h id) (k.runF call (hup h id (some (some o))) r (id :: w))
  | .call f as k, h, r, w => kb (call f as) fun rs => (k rs).runF call h r w
inductive AOpd where
  | t (n : Nat)
  | c (p : PV)
inductive Md where
  | pure | own | obj
inductive ACv where
  | int (k : IntKind)
  | str
  | bytesToStr
  | strToBytes
inductive AOp where
  | mv (x : AOpd)
  | pick (c a b : AOpd)
  | box (x : AOpd)
  | alloc (zero : List PV)
  | build (zero : List PV) (parts : List (Nat × Nat × AOpd))
  | bslice (n : Nat) (k : Option IntKind) (xs : List AOpd)
  | load (n : Nat) (g : Bool) (x : AOpd)
  | store (n : Nat) (x v : AOpd)
  | bin (op : BinOp) (x y : AOpd)
  | beq (op : BinOp) (x y : AOpd)
  | un (op : UnOp) (x : AOpd)
  | conv (c : ACv) (x : AOpd)
  | slice (n : Nat) (x : AOpd) (lo hi : Option AOpd)
  | sslice (x : AOpd) (lo hi : Option AOpd)
  | faddr (off : Nat) (x : AOpd)
  | field (off n : Nat) (g : Bool) (x : AOpd)
  | iaddr (n : Nat) (x i : AOpd)
  | sidx (x i : AOpd)
  | ext (x : AOpd) (i : Nat)
  | len (x : AOpd)
  | slen (x : AOpd)
  | mlen (x : AOpd)
  | append (n : Nat) (k : Option IntKind) (x y : AOpd)
  | copy (n : Nat) (k : Option IntKind) (x y : AOpd)
  | appz (n : Nat) (k : Option IntKind) (zero : PV) (x y : AOpd)
  | mkslice (n : Nat) (k : Option IntKind) (zero : PV) (l c : AOpd)
  | max (x y : AOpd)
  | min (x y : AOpd)
  | mkmap
  | mlook (zero : PV) (x i : AOpd) (ok : Bool)
  | mput (x i v : AOpd)
  | range (x : AOpd)
  | next (x : AOpd)
  | nilchk (x : AOpd)
  | bad
  | idxb (x y : AOpd)
  | call (f : Nat) (args : List (AOpd × Md)) (nres : Nat) (own : Bool)
structure AOper where
  dst : Option Nat
  op : AOp
  guard : Option (Nat × Bool)
/-- The bound on what a slice or a text may grow to. -/
def big : Nat := 4294967296
def viewOf (c : PV) : Option (Nat × Nat) → PV
  | none => c
  | some (o, l) => c.sub o (o + l)
def pvs : List AV → Option (List PV)
  | [] => some []
  | .pv p :: r => (pvs r).map (p :: ·)
  | _ :: _ => none
def mkAgg (cs : List AV) : AV :=
  match pvs cs with
  | some ps => .pv (.agg ps)
  | none => .agg cs
def AV.cells : AV → Option (List AV)
  | .pv p => some (p.cells.map .pv)
  | .agg cs => some cs
  | .ptr id off => some [.ptr id off]
  | .row id vw => some [.row id vw]
  | .mapr id => some [.mapr id]
  | _ => none
/-- One cell as a plain value, and the rows of the function's own that it leads into. -/
def frz1K : AV → (PV → List Nat → HP) → HP
  | .pv p, k => k p []
  | .row id vw, k => .get id fun
    | .row c m => k (viewOf c vw) (if m then [id] else [])
    | _ => .fail
  | _, _ => .fail
def frzsK : List AV → (List PV → List Nat → HP) → HP
  | [], k => k [] []
  | v :: r, k => frz1K v fun p ids => frzsK r fun ps ids' => k (p :: ps) (ids ++ ids')
def frzK : AV → (PV → List Nat → HP) → HP
  | .agg cs, k => frzsK cs fun ps ids => k (.agg ps) ids
  | v, k => frz1K v k
/-- These rows are written no more. -/
def shutK : List Nat → HP → HP
  | [], k => k
  | id :: r, k => .get id fun
    | .row c _ => .put id (.row c false) (shutK r k)
    | _ => .fail
def chk (c : Bool) (k : HP) : HP := .br c k .fail
def retG (n : Nat) (cs : List PV) : Bool → HP
  | true => chk (decide (n ≤ cs.length)) (.ret (.pv (.agg (cs.take n))))
  | false => match cs with
    | c :: _ => .ret (.pv c)
    | [] => .fail
def retV (n off : Nat) (cs : List AV) : Bool → HP
  | true => chk (decide (off + n ≤ cs.length)) (.ret (mkAgg ((cs.drop off).take n)))
  | false => match cs.drop off with
    | v :: _ => .ret v
    | [] => .fail
def loadVars (n : Nat) (g : Bool) (off : Nat) : AObj → HP
  | .vars cs => retV n off cs g
  | _ => .fail
def loadElem (n : Nat) (g : Bool) (idx off : Nat) : AObj → HP
  | .row c _ => chk (decide (idx < c.len)) (retG n ((c.get idx).cells.drop off) g)
  | _ => .fail
def loadK (n : Nat) (g : Bool) : AV → HP
  | .ptr id off => .get id (loadVars n g off)
  | .cell cs => retG n cs g
  | .elem id idx off => .get id (loadElem n g idx off)
  | _ => .fail
def setCells {α : Type} (l : List α) (off : Nat) (vs : List α) : List α := l.take off ++ vs ++ l.drop (off + vs.length)
def storeVars (id n off : Nat) (vs : List AV) : AObj → HP
  | .vars cs => chk (decide (vs.length = n)) (chk (decide (off + n ≤ cs.length)) (.put id (.vars (setCells cs off vs)) (.ret .und)))
  | _ => .fail
def elemOf (g : PV) (off : Nat) (ps : List PV) : PV :=
  match g with
  | .agg cs => .agg (setCells cs off ps)
  | _ => ps.headD g
def putRow (id : Nat) (ids : List Nat) : Option PV → HP
  | some c => shutK ids (.put id (.row c true) (.ret .und))
  | none => .fail
def storeElem (id n idx off : Nat) (ps : List PV) (ids : List Nat) : AObj → HP
  | .row c m => chk m (chk (decide (ps.length = n)) (chk (decide (idx < c.len)) (chk (decide (off + n ≤ (c.get idx).cells.length)) (putRow id ids (c.set idx (elemOf (c.get idx) off ps))))))
  | _ => .fail
def storePtr (id n off : Nat) : Option (List AV) → HP
  | some vs => .get id (storeVars id n off vs)
  | none => .fail
def storeRow (id n idx off : Nat) : Option (List AV) → HP
  | some vs => frzsK vs fun ps ids => chk (!ids.contains id) (.get id (storeElem id n idx off ps ids))
  | none => .fail
def storeK (n : Nat) : AV → AV → HP
  | .ptr id off, v => storePtr id n off v.cells
  | .elem id idx off, v => storeRow id n idx off v.cells
  | _, _ => .fail
/-- A result under a condition. -/
abbrev CV := Option (Bool × PV)
def ok (p : PV) : CV := some (true, p)
def intPV (op : BinOp) (k : IntKind) (a b : Int) : CV :=
  match op with
  | .add => ok (.int k (k.wrap (a + b)))
  | .sub => ok (.int k (k.wrap (a - b)))
  | .mul => ok (.int k (k.wrap (a * b)))
  | .quo => some (decide (¬ b = 0), .int k (k.wrap (a.tdiv b)))
  | .rem => some (decide (¬ b = 0), .int k (a.tmod b))
  | .and => ok (.int k (k.wrap (BitVec.ofInt k.bits a &&& BitVec.ofInt k.bits b).toNat))
  | .or => ok (.int k (k.wrap (BitVec.ofInt k.bits a ||| BitVec.ofInt k.bits b).toNat))
  | .xor => ok (.int k (k.wrap (BitVec.ofInt k.bits a ^^^ BitVec.ofInt k.bits b).toNat))
  | .andNot => ok (.int k (k.wrap (BitVec.ofInt k.bits a &&& ~~~ BitVec.ofInt k.bits b).toNat))
  | .eql => ok (.bool (decide (a = b)))
  | .neq => ok (.bool (decide (¬ a = b)))
  | .lss => ok (.bool (decide (a < b)))
  | .leq => ok (.bool (decide (a ≤ b)))
  | .gtr => ok (.bool (decide (a > b)))
  | .geq => ok (.bool (decide (a ≥ b)))
  | _ => none
def strPV (op : BinOp) (a b : List UInt8) : CV :=
  match op with
  | .add => some (decide (a.length + b.length < big), .str (a ++ b))
  | .eql => ok (.bool (decide (a = b)))
  | .neq => ok (.bool (decide (¬ a = b)))
  | .lss => ok (.bool (Op.bytesLess a b))
  | .leq => ok (.bool (Op.bytesLess a b || decide (a = b)))
  | .gtr => ok (.bool (!(Op.bytesLess a b || decide (a = b))))
  | .geq => ok (.bool (!Op.bytesLess a b))
  | _ => none
def binPV (op : BinOp) : PV → PV → CV
  | .int k a, .int k' b =>
    match op with
    | .shl => some (decide (0 ≤ b), .int k (k.wrap (a * 2 ^ (min b.toNat k.bits))))
    | .shr => some (decide (0 ≤ b), .int k (a.fdiv (2 ^ (min b.toNat k.bits))))
    | op => if k = k' then intPV op k a b else none
  | .str a, .str b => strPV op a b
  | _, _ => none
def beqPV (op : BinOp) : PV → PV → CV
  | .bool a, .bool b => match op with
    | .eql => ok (.bool (decide (a = b)))
    | .neq => ok (.bool (decide (¬ a = b)))
    | _ => none
  | _, _ => none
def unPV (op : UnOp) : PV → CV
  | .int k n => match op with
    | .neg => ok (.int k (k.wrap (0 - n)))
    | .xor => ok (.int k (k.wrap (BitVec.ofInt k.bits (if k.signed then -1 else k.max) ^^^ BitVec.ofInt k.bits n).toNat))
    | _ => none
  | .bool b => match op with
    | .not => ok (.bool (!b))
    | _ => none
  | _ => none
def retO : CV → HP
  | some (c, p) => chk c (.ret (.pv p))
  | none => .fail
def binK (op : BinOp) : AV → AV → HP
  | .pv x, .pv y => retO (binPV op x y)
  | _, _ => .fail
def beqK (op : BinOp) : AV → AV → HP
  | .pv x, .pv y => retO (beqPV op x y)
  | _, _ => .fail
def unK (op : UnOp) : AV → HP
  | .pv x => retO (unPV op x)
  | _ => .fail
def pickK : AV → AV → AV → HP
  | .pv (.bool c), .pv (.bool a), .pv (.bool b) => .ret (.pv (.bool (bif c then a else b)))
  | .pv (.bool c), a, b => .br c (.ret a) (.ret b)
  | _, _, _ => .fail
def bytesOf (s : List UInt8) : List Int := s.map fun b => (b.toNat : Int)
def textOf (l : List Int) : List UInt8 := l.map fun n => UInt8.ofNat n.toNat
def retText : PV → HP
  | .ints .u8 l => .ret (.pv (.str (textOf l)))
  | .nil => .ret (.pv (.str []))
  | _ => .fail
def rowText (vw : Option (Nat × Nat)) : AObj → HP
  | .row c _ => retText (viewOf c vw)
  | _ => .fail
def convK (dst : Nat) : ACv → AV → HP
  | .int k, .pv (.int _ n) => .ret (.pv (.int k (k.wrap n)))
  | .str, .pv (.str s) => .ret (.pv (.str s))
  | .strToBytes, .pv (.str s) => .new dst (.row (.ints .u8 (bytesOf s)) true) (.ret (.row dst none))
  | .bytesToStr, .pv p => retText p
  | .bytesToStr, .row id vw => .get id (rowText vw)
  | _, _ => .fail
/-- The bounds of a slice expression: lo and hi as naturals, if they are in order. -/
def boundLo (h : Nat) (k : Nat → HP) : Option AV → HP
  | none => k 0
  | some (.pv (.int _ l)) => chk (decide (0 ≤ l)) (chk (decide (l ≤ (h : Int))) (k l.toNat))
  | some _ => .fail
def boundHi (n : Nat) (k : Nat → HP) : Option AV → HP
  | none => k n
  | some (.pv (.int _ h)) => chk (decide (0 ≤ h)) (chk (decide (h ≤ (n : Int))) (k h.toNat))
  | some _ => .fail
def subView (vw : Option (Nat × Nat)) (lo hi : Nat) : Option (Nat × Nat) :=
  match vw with
  | none => some (lo, hi - lo)
  | some (o, _) => some (o + lo, hi - lo)
def sliceRow (n id : Nat) (vw : Option (Nat × Nat)) (lo hi : Option AV) : AObj → HP
  | .row c _ => chk (c.esz n) <| boundHi (viewOf c vw).len (fun h => boundLo h (fun l => .ret (.row id (subView vw l h))) lo) hi
  | _ => .fail
def ssliceK (lo hi : Option AV) : AV → HP
  | .pv (.str s) => boundHi s.length (fun h => boundLo h (fun l => .ret (.pv (.str ((s.drop l).take (h - l))))) lo) hi
  | _ => .fail
def sliceK (n : Nat) (lo hi : Option AV) : AV → HP
  | .pv p => chk (p.esz n) (boundHi p.len (fun h => boundLo h (fun l => .ret (.pv (p.sub l h))) lo) hi)
  | .row id vw => .get id (sliceRow n id vw lo hi)
  | _ => .fail
def faddrK (off : Nat) : AV → HP
  | .ptr id o => .ret (.ptr id (o + off))
  | .elem id idx o => .ret (.elem id idx (o + off))
  | .cell cs => chk (decide (off < cs.length)) (.ret (.cell (cs.drop off)))
  | _ => .fail
def fieldK (off n : Nat) (g : Bool) : AV → HP
  | .pv (.agg cs) => retG n (cs.drop off) g
  | .agg cs => retV n off cs g
  | _ => .fail
def viewOff : Option (Nat × Nat) → Nat
  | none => 0
  | some (o, _) => o
def iaddrRow (n id : Nat) (vw : Option (Nat × Nat)) (j : Int) : AObj → HP
  | .row c _ => chk (c.esz n) (chk (decide (0 ≤ j)) (chk (decide (j < ((viewOf c vw).len : Int))) (.ret (.elem id (viewOff vw + j.toNat) 0))))
  | _ => .fail
def iaddrK (n : Nat) : AV → AV → HP
  | .pv p, .pv (.int _ j) => chk (p.esz n) (chk (decide (0 ≤ j)) (chk (decide (j < (p.len : Int))) (.ret (.cell (p.get j.toNat).cells))))
  | .row id vw, .pv (.int _ j) => .get id (iaddrRow n id vw j)
  | _, _ => .fail
def sidxK : AV → AV → HP
  | .pv (.str s), .pv (.int _ j) => chk (decide (0 ≤ j)) (chk (decide (j < (s.length : Int))) (.ret (.pv (.int .u8 ((s.getD j.toNat 0).toNat : Int)))))
  | _, _ => .fail
def extK (i : Nat) : AV → HP
  | .tup vs => match vs.drop i with
    | v :: _ => .ret v
    | [] => .fail
  | _ => .fail
def lenRow (vw : Option (Nat × Nat)) : AObj → HP
  | .row c _ => .ret (.pv (.int .i64 ((viewOf c vw).len : Int)))
  | _ => .fail
def lenMap : AObj → HP
  | .map kvs => .ret (.pv (.int .i64 (kvs.length : Int)))
  | _ => .fail
def slenK : AV → HP
  | .pv (.str s) => .ret (.pv (.int .i64 (s.length : Int)))
  | _ => .fail
def lenK : AV → HP
  | .pv p => chk p.isSlice (.ret (.pv (.int .i64 (p.len : Int))))
  | .row id vw => .get id (lenRow vw)
  | _ => .fail
def mlenK : AV → HP
  | .mapr id => .get id lenMap
  | _ => .fail
def srcRow (vw : Option (Nat × Nat)) (f : PV → HP) : AObj → HP
  | .row c _ => f (viewOf c vw)
  | _ => .fail
/-- The list that a slice or a text stands for, as the source of append and copy. -/
def srcK (n : Nat) (k : Option IntKind) (f : PV → HP) : AV → HP
  | .pv (.str s) => f (.ints .u8 (bytesOf s))
  | .pv p => chk p.isSlice (f (p.ty n k))
  | .row id vw => .get id (srcRow vw f)
  | _ => .fail
/-- A row that an append comes to. -/
def grow (dst n : Nat) (c : PV) : HP := chk (c.esz n) (chk (decide (c.len < big)) (.new dst (.row c true) (.ret (.row dst none))))
def growO (dst n id : Nat) : Option PV → HP
  | some c => .del id (grow dst n c)
  | none => .fail
def appRow (dst n id : Nat) (vw : Option (Nat × Nat)) (s : PV) : AObj → HP
  | .row c m => chk m (growO dst n id ((viewOf c vw).app s))
  | _ => .fail
def appK (dst n : Nat) (x : AV) (s : PV) : HP :=
  match x with
  | .pv .nil => grow dst n s
  | .row id vw => .get id (appRow dst n id vw s)
  | _ => .fail
def appendK (dst n : Nat) (k : Option IntKind) (x y : AV) : HP := srcK n k (appK dst n x) y
def copyO (id cnt : Nat) : Option PV → HP
  | some c => .put id (.row c true) (.ret (.pv (.int .i64 (cnt : Int))))
  | none => .fail
def copyRow (n id : Nat) (vw : Option (Nat × Nat)) (s : PV) : AObj → HP
  | .row c m => chk m (chk (c.esz n) (chk (decide (s.len ≤ (viewOf c vw).len)) (copyO id s.len (c.splice (viewOff vw) s))))
  | _ => .fail
def copyK (n : Nat) (k : Option IntKind) (x y : AV) : HP :=
  match x with
  | .row id vw => srcK n k (fun s => .get id (copyRow n id vw s)) y
  | _ => .fail
def zeros (n : Nat) (zero : PV) (l : Nat) : Option IntKind → PV
  | some k => .ints k (List.replicate l 0)
  | none => .sl n (List.replicate l zero)
def mksliceK (dst n : Nat) (k : Option IntKind) (zero : PV) : AV → AV → HP
  | .pv (.int _ l), .pv (.int _ c) => chk (decide (0 ≤ l)) (chk (decide (l ≤ c)) (chk (decide (c < (big : Int))) (.new dst (.row (zeros n zero l.toNat k) true) (.ret (.row dst none)))))
  | _, _ => .fail
/-- 'append(x, make([]T, n)...)'. -/
def appzK (dst n : Nat) (k : Option IntKind) (zero : PV) (x : AV) : AV → HP
  | .pv (.int _ l) => chk (decide (0 ≤ l)) (chk (decide (l < (big : Int))) (appK dst n x (zeros n zero l.toNat k)))
  | _ => .fail
def elemV (n : Nat) (qs : List PV) : PV :=
  match n with
  | 1 => qs.headD .nil
  | _ => .agg qs
def elemsK : List (Option (List AV)) → Nat → (List PV → List Nat → HP) → HP
  | [], _, k => k [] []
  | none :: _, _, _ => .fail
  | some vs :: r, n, k => chk (decide (vs.length = n)) (frzsK vs fun qs ids => elemsK r n fun ps ids' => k (elemV n qs :: ps) (ids ++ ids'))
def newRowK (dst : Nat) (ids : List Nat) : Option PV → HP
  | some c => shutK ids (.new dst (.row c true) (.ret (.row dst none)))
  | none => .fail
def bsliceK (dst n : Nat) (k : Option IntKind) (xs : List (Option (List AV))) : HP :=
  elemsK xs n fun ps ids => newRowK dst ids (PV.ofLits n k ps)
def layParts : List AV → List (Nat × Nat × Option (List AV)) → Option (List AV)
  | cs, [] => some cs
  | cs, (off, n, some vs) :: r => if vs.length = n then (if off + vs.length ≤ cs.length then layParts (setCells cs off vs) r else none) else none
  | _, (_, _, none) :: _ => none
def retCells : Option (List AV) → HP
  | some cs => .ret (mkAgg cs)
  | none => .fail
def boxK (dst : Nat) : Option (List AV) → HP
  | some cs => .new dst (.vars cs) (.ret (.ptr dst 0))
  | none => .fail
def resAV : AR → AV
  | .pv p => .pv p
  | .own p => .pv p
  | .obj _ => .bad
def AR.flat : AR → Bool
  | .pv p => p.flat
  | .own (.ints _ _) => true
  | .own _ => false
  | .obj cs => cs.all PV.flat1
def lendRow (vw : Option (Nat × Nat)) (f : PV → HP) : AObj → HP
  | .row c m => chk m (f (viewOf c vw))
  | _ => .fail
def lendO (f : List PV → HP) : Option (List PV) → HP
  | some ps => f ps
  | none => .fail
def lendObj (f : List PV → HP) : AObj → HP
  | .vars cs => lendO f (pvs cs)
  | _ => .fail
/-- The arguments of a call; the rows that are lent; the variables that are lent; these and the rows that are handed over. -/
def argsK : List (AV × Md) → (List Arg → List Nat → List Nat → List Nat → HP) → HP
  | [], k => k [] [] [] []
  | (v, .pure) :: r, k => frzK v fun p ids => argsK r fun as ids' os us => k (.pv p :: as) (ids ++ ids') os us
  | (.row id vw, .own) :: r, k => .get id (lendRow vw fun p => argsK r fun as ids os us => k (.own p :: as) ids os (id :: us))
  | (.ptr id 0, .obj) :: r, k => .get id (lendObj fun ps => argsK r fun as ids os us => k (.obj ps :: as) ids (id :: os) (id :: us))
  | _ :: _, _ => .fail
def delsK : List Nat → HP → HP
  | [], k => k
  | id :: r, k => .del id (delsK r k)
def nodupB : List Nat → Bool
  | [] => true
  | i :: r => !r.contains i && nodupB r
def callRet (dst : Nat) : Bool → List AR → HP
  | true, [.own p] => .new dst (.row p true) (.ret (.row dst none))
  | _, [r] => .ret (resAV r)
  | _, rs => .ret (.tup (rs.map resAV))
/-- The variables that were lent come back. -/
def backK : List Nat → List AR → HP → HP
  | [], [], k => k
  | id :: is, .obj cs :: rs, k => .back id (.vars (cs.map .pv)) (backK is rs k)
  | _, _, _ => .fail
def callBack (dst nres : Nat) (own : Bool) (ids os : List Nat) (rs : List AR) : HP :=
  chk os.isEmpty (chk (decide (rs.length = nres)) (.br (ids.isEmpty || rs.all AR.flat) (callRet dst own rs) (shutK ids (callRet dst own rs))))
def callGo (dst f nres : Nat) (own : Bool) (as : List Arg) (ids os us : List Nat) : HP :=
  chk (nodupB us) (chk (ids.all fun i => !us.contains i) (delsK us (.call f as (callBack dst nres own ids os))))
def lookKv (d : PV) (x : PV) : List (PV × PV) → Option (PV × Bool)
  | [] => some (d, false)
  | (.str a, v) :: r => match x with
    | .str b => if a = b then some (v, true) else lookKv d x r
    | _ => none
  | (.int i a, v) :: r => match x with
    | .int j b => if i = j then (if a = b then some (v, true) else lookKv d x r) else none
    | _ => none
  | _ :: _ => none
def putKv (x v : PV) : List (PV × PV) → Option (List (PV × PV))
  | [] => match x with
    | .str _ | .int _ _ => some [(x, v)]
    | _ => none
  | (.str a, u) :: r => match x with
    | .str b => if a = b then some ((.str a, v) :: r) else (putKv x v r).map ((.str a, u) :: ·)
    | _ => none
  | (.int i a, u) :: r => match x with
    | .int j b => if i = j then (if a = b then some ((.int i a, v) :: r) else (putKv x v r).map ((.int i a, u) :: ·)) else none
    | _ => none
  | _ :: _ => none
def mlookO (ok : Bool) : Option (PV × Bool) → HP
  | some (v, b) => match ok with
    | true => .ret (.tup [.pv v, .pv (.bool b)])
    | false => .ret (.pv v)
  | none => .fail
def mlookMap (zero : PV) (ok : Bool) (i : PV) : AObj → HP
  | .map kvs => mlookO ok (lookKv zero i kvs)
  | _ => .fail
def mlookK (zero : PV) (ok : Bool) : AV → AV → HP
  | .mapr id, .pv i => .get id (mlookMap zero ok i)
  | _, _ => .fail
def mputO (id : Nat) : Option (List (PV × PV)) → HP
  | some kvs => .put id (.map kvs) (.ret .und)
  | none => .fail
def mputMap (id : Nat) (i p : PV) : AObj → HP
  | .map kvs => mputO id (putKv i p kvs)
  | _ => .fail
def mputK (v : AV) : AV → AV → HP
  | .mapr id, .pv i => frzK v fun p ids => shutK ids (.get id (mputMap id i p))
  | _, _ => .fail
/-- The place of a text's first byte c, counted from i. -/
def idxB (c : UInt8) : List UInt8 → Nat → Int
  | [], _ => -1
  | b :: l, i => bif b == c then (i : Int) else idxB c l (i + 1)
def idxbK : AV → AV → HP
  | .pv (.str s), .pv (.int .u8 c) => .ret (.pv (.int .i64 (idxB c.toNat.toUInt8 s 0)))
  | _, _ => .fail
def rangeK (dst : Nat) : AV → HP
  | .pv (.str s) => .new dst (.iter s 0) (.ret (.iter dst))
  | _ => .fail
def nextIter (id : Nat) : AObj → HP
  | .iter s pos => .br (decide (pos < s.length))
      (.put id (.iter s (pos + (Utf8.decode ⟨s.toArray⟩ pos).2)) (.ret (.tup [.pv (.bool true), .pv (.int .i64 (pos : Int)), .pv (.int .i32 (Utf8.decode ⟨s.toArray⟩ pos).1)])))
      (.ret (.tup [.pv (.bool false)]))
  | _ => .fail
def nextK : AV → HP
  | .iter id => .get id (nextIter id)
  | _ => .fail
def maxK : AV → AV → HP
  | .pv (.int k x), .pv (.int _ y) => .ret (.pv (.int k (if y > x then y else x)))
  | _, _ => .fail
def minK : AV → AV → HP
  | .pv (.int k x), .pv (.int _ y) => .ret (.pv (.int k (if y < x then y else x)))
  | _, _ => .fail
def nilchkK : AV → HP
  | .ptr id off => .ret (.ptr id off)
  | .cell cs => .ret (.cell cs)
  | .elem id i o => .ret (.elem id i o)
  | _ => .fail
def opd (e : Env) : AOpd → AV
  | .t n => e n
  | .c p => .pv p
/-- What an operation does. -/
def opK (d : Nat) (e : Env) : AOp → HP
  | .mv x => .ret (opd e x)
  | .pick c a b => pickK (opd e c) (opd e a) (opd e b)
  | .box x => boxK d (opd e x).cells
  | .alloc zero => .new d (.vars (zero.map .pv)) (.ret (.ptr d 0))
  | .build zero parts => retCells (layParts (zero.map .pv) (parts.map fun p => (p.1, p.2.1, (opd e p.2.2).cells)))
  | .bslice n k xs => bsliceK d n k (xs.map fun x => (opd e x).cells)
  | .load n g x => loadK n g (opd e x)
  | .store n x v => storeK n (opd e x) (opd e v)
  | .bin op x y => binK op (opd e x) (opd e y)
  | .beq op x y => beqK op (opd e x) (opd e y)
  | .un op x => unK op (opd e x)
  | .conv c x => convK d c (opd e x)
  | .slice n x lo hi => sliceK n (lo.map (opd e)) (hi.map (opd e)) (opd e x)
  | .sslice x lo hi => ssliceK (lo.map (opd e)) (hi.map (opd e)) (opd e x)
  | .faddr off x => faddrK off (opd e x)
  | .field off n g x => fieldK off n g (opd e x)
  | .iaddr n x i => iaddrK n (opd e x) (opd e i)
  | .sidx x i => sidxK (opd e x) (opd e i)
  | .ext x i => extK i (opd e x)
  | .len x => lenK (opd e x)
  | .slen x => slenK (opd e x)
  | .mlen x => mlenK (opd e x)
  | .append n k x y => appendK d n k (opd e x) (opd e y)
  | .copy n k x y => copyK n k (opd e x) (opd e y)
  | .appz n k zero x y => appzK d n k zero (opd e x) (opd e y)
  | .mkslice n k zero l c => mksliceK d n k zero (opd e l) (opd e c)
  | .max x y => maxK (opd e x) (opd e y)
  | .min x y => minK (opd e x) (opd e y)
  | .mkmap => .new d (.map []) (.ret (.mapr d))
  | .mlook zero x i ok => mlookK zero ok (opd e x) (opd e i)
  | .mput x i v => mputK (opd e v) (opd e x) (opd e i)
  | .range x => rangeK d (opd e x)
  | .next x => nextK (opd e x)
  | .nilchk x => nilchkK (opd e x)
  | .bad => .fail
  | .idxb x y => idxbK (opd e x) (opd e y)
  | .call f args nres own => argsK (args.map fun a => (opd e a.1, a.2)) (callGo d f nres own)
structure St where
  env : Env
  heap : Heap
def updO (e : Env) : Option Nat → AV → Env
  | some d, v => upd e d v
  | none, _ => e
/-- Is an operation wanted? -/
def kw {α : Type} (v : AV) (b : Bool) (x y : Option α) : Option α :=
  match v with
  | .pv (.bool c) => kif (c = b) x y
  | .und => y
  | _ => none
def aop (call : Call) (o : AOper) (σ : St) : Option St :=
  match o.guard with
  | none => kb ((opK (o.dst.getD 0) σ.env o.op).run call σ.heap) fun r => some ⟨updO σ.env o.dst r.1, r.2⟩
  | some (t, b) => kw (σ.env t) b (kb ((opK (o.dst.getD 0) σ.env o.op).run call σ.heap) fun r => some ⟨updO σ.env o.dst r.1, r.2⟩) (some ⟨updO σ.env o.dst .und, σ.heap⟩)
def aops (call : Call) : List AOper → St → Option St
  | [], σ => some σ
  | o :: r, σ => kb (aop call o σ) (aops call r)
/-- One operation, with the places that it reads and writes. -/
def aopF (call : Call) (o : AOper) (σ : St) : Option (St × List Nat × List Nat) :=
  match o.guard with
  | none => kb ((opK (o.dst.getD 0) σ.env o.op).runF call σ.heap [] []) fun r => some (⟨updO σ.env o.dst r.1, r.2.1⟩, r.2.2)
  | some (t, b) => kw (σ.env t) b (kb ((opK (o.dst.getD 0) σ.env o.op).runF call σ.heap [] []) fun r => some (⟨updO σ.env o.dst r.1, r.2.1⟩, r.2.2)) (some (⟨updO σ.env o.dst .und, σ.heap⟩, [], []))
def aopsF (call : Call) : List AOper → List (List Nat × List Nat) → St → Option (St × List (List Nat × List Nat))
  | [], fs, σ => some (σ, fs)
  | o :: r, fs, σ => kb (aopF call o σ) fun s => aopsF call r (fs ++ [s.2]) s.1
def apartF (x y : List Nat × List Nat) : Bool :=
  x.2.all (fun i => !y.1.contains i && !y.2.contains i) && y.2.all (fun i => !x.1.contains i)
def pairsOk (fs : List (List Nat × List Nat)) (ps : List (Nat × Nat)) : Bool :=
  ps.all fun p => apartF (fs.getD p.1 ([], [])) (fs.getD p.2 ([], []))
def keepE : List Nat → Env → Env
  | [], _ => env0
  | t :: r, e => upd (keepE r e) t (e t)
structure Own where
  id : Nat
  n : Nat
  k : Option IntKind
/-- The form of the state at a loop's head: the slots that are kept, and which of them hold a row of the function's own; the variables that are kept, and which of their cells do. -/
structure Canon where
  slots : List (Nat × Option Own)
  objs : List (Nat × List (Option Own))
def takeRow (id : Nat) (vw : Option (Nat × Nat)) (h : Heap) : AObj → Option (AObj × Heap)
  | .row c true => some (.row (viewOf c vw) true, hup h id (some none))
  | _ => none
def takeOwn (o : Own) (h : Heap) : AV → Option (AObj × Heap)
  | .pv .nil => some (.row (PV.emp o.n o.k) true, h)
  | .row id vw => kg (h id) (takeRow id vw h)
  | _ => none
def takeOwns : List (Own × AV) → Heap → Heap → Option (Heap × Heap)
  | [], h, g => some (h, g)
  | (o, v) :: r, h, g => kn (g o.id) (kb (takeOwn o h v) fun x => takeOwns r x.2 (hup g o.id (some (some x.1))))
def rowAV (vw : Option (Nat × Nat)) : Option (Option AObj) → AV
  | some (some (.row c _)) => .pv (viewOf c vw)
  | _ => .bad
def scrub1 (ids : List Nat) (h : Heap) : AV → AV
  | .pv p => .pv p
  | .cell cs => .cell cs
  | .und => .und
  | .ptr id off => if ids.contains id then .ptr id off else .bad
  | .mapr id => if ids.contains id then .mapr id else .bad
  | .iter id => if ids.contains id then .iter id else .bad
  | .row id vw => rowAV vw (h id)
  | _ => .bad
/-- One cell, no more. -/
def PV.sc : PV → Bool
  | .agg _ => false
  | _ => true
def AV.sc : AV → Bool
  | .pv p => p.sc
  | .agg _ | .tup _ | .bad | .und => false
  | _ => true
def aggAV (cs : List AV) : AV :=
  match cs.all AV.sc with
  | true => mkAgg cs
  | false => .bad
def varsO (cs : List AV) : Option AObj :=
  match cs.all AV.sc with
  | true => some (.vars cs)
  | false => none
def scrub (ids : List Nat) (h : Heap) : AV → AV
  | .agg cs => aggAV (cs.map (scrub1 ids h))
  | v => scrub1 ids h v
def ownCells : List (Option Own) → List AV → List (Own × AV)
  | some o :: s, v :: vs => (o, v) :: ownCells s vs
  | none :: s, _ :: vs => ownCells s vs
  | _, _ => []
def newCells (ids : List Nat) (h : Heap) : List (Option Own) → List AV → List AV
  | some o :: s, _ :: vs => .row o.id none :: newCells ids h s vs
  | none :: s, v :: vs => scrub1 ids h v :: newCells ids h s vs
  | [], v :: vs => scrub1 ids h v :: newCells ids h [] vs
  | _, [] => []
def cellsAt : Option (Option AObj) → List AV
  | some (some (.vars cs)) => cs
  | _ => []
def ownSlots (e : Env) : List (Nat × Option Own) → List (Own × AV)
  | [] => []
  | (t, some o) :: r => (o, e t) :: ownSlots e r
  | (_, none) :: r => ownSlots e r
def ownObjs (h : Heap) : List (Nat × List (Option Own)) → List (Own × AV)
  | [] => []
  | (id, spec) :: r => ownCells spec (cellsAt (h id)) ++ ownObjs h r
def newObj (ids : List Nat) (h : Heap) (spec : List (Option Own)) : AObj → Option AObj
  | .vars cs => varsO (newCells ids h spec cs)
  | .map kvs => some (.map kvs)
  | .iter s pos => some (.iter s pos)
  | .row _ _ => none
def putObjs (ids : List Nat) (h0 h : Heap) : List (Nat × List (Option Own)) → Heap → Option Heap
  | [], g => some g
  | (id, spec) :: r, g => kn (g id) (kg (h0 id) fun ob => kb (newObj ids h spec ob) fun ob' => putObjs ids h0 h r (hup g id (some (some ob'))))
def newEnv (ids : List Nat) (h : Heap) (e : Env) : List (Nat × Option Own) → Env
  | [] => env0
  | (t, some o) :: r => upd (newEnv ids h e r) t (.row o.id none)
  | (t, none) :: r => upd (newEnv ids h e r) t (scrub ids h (e t))
def objIds : List (Nat × List (Option Own)) → List Nat
  | [] => []
  | (id, _) :: r => id :: objIds r
def canon (cn : Canon) (σ : St) : Option St :=
  kb (takeOwns (ownSlots σ.env cn.slots ++ ownObjs σ.heap cn.objs) σ.heap hp0) fun x =>
    kb (putObjs (objIds cn.objs) σ.heap x.1 cn.objs x.2) fun g => some ⟨newEnv (objIds cn.objs) x.1 σ.env cn.slots, g⟩
inductive AExit where
  | normal
  | exit (id : Nat)
  | ret
inductive ACode where
  | skip
  | region (ops : List AOper) (keep : List Nat)
  | dregion (ops : List AOper) (keep : List Nat) (pairs : List (Nat × Nat))
  | seq (a b : ACode)
  | cond (c : AOpd) (a b : ACode)
  | block (id : Nat) (b : ACode)
  | loop (cn : Canon) (b : ACode)
  | join (cn : Canon) (b : ACode)
  | exit (id : Nat)
  | ret
structure Lvl where
  call : Call
  loop : Canon → ACode → St → Option (AExit × St)
def thenK {R : Type} (f : St → Option R) (K : AExit → St → Option R) : AExit → St → Option R
  | .normal, τ => f τ
  | .exit i, τ => K (.exit i) τ
  | .ret, τ => K .ret τ
def blockK {R : Type} (id : Nat) (K : AExit → St → Option R) : AExit → St → Option R
  | .normal, τ => K .normal τ
  | .exit i, τ => if i = id then K .normal τ else K (.exit i) τ
  | .ret, τ => K .ret τ
def kc {α : Type} (v : AV) (x y : Option α) : Option α :=
  match v with
  | .pv (.bool t) => kif (t = true) x y
  | _ => none
def lp (E : Lvl) (cn : Canon) (b : ACode) (σ : St) : Option (AExit × St) := E.loop cn b σ
def outK {R : Type} (K : AExit → St → Option R) (r : AExit × St) : Option R := K r.1 r.2
def regK {R : Type} (K : AExit → St → Option R) (ks : List Nat) (τ : St) : Option R := K .normal ⟨keepE ks τ.env, τ.heap⟩
def dregK {R : Type} (K : AExit → St → Option R) (ks : List Nat) (ps : List (Nat × Nat)) (q : St × List (List Nat × List Nat)) : Option R := kif (pairsOk q.2 ps = true) (regK K ks q.1) none
def aev {R : Type} (E : Lvl) : ACode → St → (AExit → St → Option R) → Option R
  | .skip, σ, K => K .normal σ
  | .region ops ks, σ, K => kb (aops E.call ops σ) (regK K ks)
  | .dregion ops ks ps, σ, K => kb (aopsF E.call ops [] σ) (dregK K ks ps)
  | .seq a b, σ, K => aev E a σ (thenK (fun τ => aev E b τ K) K)
  | .cond c a b, σ, K => kc (opd σ.env c) (aev E a σ K) (aev E b σ K)
  | .block id b, σ, K => aev E b σ (blockK id K)
  | .loop cn b, σ, K => kb (lp E cn b σ) (outK K)
  | .join cn b, σ, K => kb (canon cn σ) fun τ => aev E b τ K
  | .exit id, σ, K => K (.exit id) σ
  | .ret, σ, K => K .ret σ
def joinK {R : Type} (E : Lvl) (b : ACode) (K : AExit → St → Option R) (τ : St) : Option R := aev E b τ K
inductive ARes where
  | tmp (t : Nat)
  | cell (t n : Nat) (g : Bool)
structure AFun where
  body : ACode
  results : List ARes
def enterE : Nat → List Arg → Env
  | _, [] => env0
  | i, .pv p :: r => upd (enterE (i + 1) r) i (.pv p)
  | i, .own _ :: r => upd (enterE (i + 1) r) i (.row i none)
  | i, .obj _ :: r => upd (enterE (i + 1) r) i (.ptr i 0)
def enterH : Nat → List Arg → Heap
  | _, [] => hp0
  | i, .pv _ :: r => enterH (i + 1) r
  | i, .own p :: r => hup (enterH (i + 1) r) i (some (some (.row p true)))
  | i, .obj cs :: r => hup (enterH (i + 1) r) i (some (some (.vars (cs.map .pv))))
/-- A result, out of the heap at the end. A row of the function's own is handed over. -/
def finRow (id : Nat) (vw : Option (Nat × Nat)) (h : Heap) : AObj → Option (AR × Heap)
  | .row c true => some (.own (viewOf c vw), hup h id (some none))
  | .row c false => some (.pv (viewOf c vw), h)
  | _ => none
def finPV : AV → Heap → Option (AR × Heap)
  | .pv p, h => some (.pv p, h)
  | _, _ => none
def noCall : Call := fun _ _ => none
def finish1 (h : Heap) : AV → Option (AR × Heap)
  | .row id vw => kg (h id) (finRow id vw h)
  | .pv p => some (.pv p, h)
  | .agg cs => kb ((frzsK cs fun ps ids => shutK ids (.ret (.pv (.agg ps)))).run noCall h) fun r => finPV r.1 r.2
  | _ => none
def result1 (e : Env) (h : Heap) : ARes → Option (AR × Heap)
  | .tmp t => finish1 h (e t)
  | .cell t n g => kb ((loadK n g (e t)).run noCall h) fun r => finish1 r.2 r.1
def results (e : Env) : List ARes → Heap → Option (List AR × Heap)
  | [], h => some ([], h)
  | r :: rs, h => kb (result1 e h r) fun x => kb (results e rs x.2) fun y => some (x.1 :: y.1, y.2)
def finals : Nat → List Arg → Heap → Option (List AR)
  | _, [], _ => some []
  | _, .obj _ :: _, _ => none
  | i, .pv _ :: r, h => finals (i + 1) r h
  | i, .own _ :: r, h => finals (i + 1) r h
def collect (rs : List ARes) (args : List Arg) (σ : St) : Option (List AR) :=
  kb (results σ.env rs σ.heap) fun x => kb (finals 0 args x.2) fun y => some (x.1 ++ y)
def endK (rs : List ARes) (args : List Arg) : AExit → St → Option (List AR)
  | .normal, τ => collect rs args τ
  | .ret, τ => collect rs args τ
  | .exit _, _ => none
def fcall (E : Lvl) (F : AFun) (args : List Arg) : Option (List AR) :=
  aev E F.body ⟨enterE 0 args, enterH 0 args⟩ (endK F.results args)
def loopK (f : St → Option (AExit × St)) : AExit → St → Option (AExit × St)
  | .normal, τ => f τ
  | .exit i, τ => some (.exit i, τ)
  | .ret, τ => some (.ret, τ)
def lvl (A : Nat → Option AFun) (X : Nat → Option (List Arg → Option (List AR))) : Nat → Lvl
  | 0 => ⟨fun _ _ => none, fun _ _ _ => none⟩
  | k + 1 => ⟨fun f args => match X f with
      | some g => g args
      | none => kb (A f) fun F => fcall (lvl A X k) F args,
    fun cn b σ => kb (canon cn σ) fun σ' => aev (lvl A X k) b σ' (loopK (lp (lvl A X k) cn b))⟩
end Go.Proofs.Ytkeipmkiilimeaa.V
namespace Go.Proofs.Ytkeipmkiilimeaa.V
open Go
/-- A nil slice is the empty list that the pattern names, if it names one. -/
def nilAs : PV → PV
  | .ints k [] => .ints k []
  | .sl n [] => .sl n []
  | _ => .nil
def constPV (q : PV) : Value → Option PV
  | .int k n => some (.int k n)
  | .bool b => some (.bool b)
  | .string s => some (.str s.data.toList)
  | .slice none 0 0 => some (nilAs q)
  | _ => none
def constsPV : List PV → List Value → Option (List PV)
  | _, [] => some []
  | qs, v :: r => (constPV (qs.headD .nil) v).bind fun p => (constsPV qs.tail r).map (p :: ·)
def AOpd.pat : AOpd → PV
  | .c p => p
  | .t _ => .nil
def PV.pats : PV → List PV
  | .agg cs => cs
  | _ => []
/-- The cells of a type's zero value. -/
def zeroPV (P : Program) (qs : List PV) (t : TypeId) : Option (List PV) :=
  (P.info? t).bind fun i => i.zero.bind fun z => if z.cells.size = i.size then constsPV qs z.cells.toList else none
def trOpd (q : AOpd) : Operand → Option AOpd
  | .tmp t => some (.t t)
  | .const (.agg cs) => (constsPV q.pat.pats cs.toList).map fun ps => .c (.agg ps)
  | .const v => (constPV q.pat v).map .c
  | .func f => some (.c (.fn f))
  | _ => none
def trOpds : List AOpd → List Operand → Option (List AOpd)
  | _, [] => some []
  | qs, x :: r => (trOpd (qs.headD (.t 0)) x).bind fun a => (trOpds qs.tail r).map (a :: ·)
def isAggT (P : Program) (t : TypeId) : Option Bool :=
  (P.underlying t).map fun
    | .struct _ | .array _ _ => true
    | _ => false
def sizeT (P : Program) (t : TypeId) : Option Nat := (P.info? t).map (·.size)
def kindT (P : Program) (t : TypeId) : Option IntKind :=
  match P.underlying t with
  | some (.int k) => some k
  | _ => none
/-- A slice's element: its type, its cells, its kind where it is a whole number. A type's bytes are no more than 2^14. -/
def elemT (P : Program) (t : TypeId) : Option (TypeId × Nat × Option IntKind) :=
  match P.underlying t with
  | some (.slice e) => (P.info? e).bind fun i => if i.bytes ≤ 16384 then (if i.size = 0 || ((kindT P e).isSome && i.size != 1) then none else some (e, i.size, kindT P e)) else none
  | _ => none
/-- The zero of a slice's elements; of whole numbers it is 0 of their kind. -/
def zeroOf (P : Program) (qs : List PV) (t : TypeId) (k : Option IntKind) : Option PV :=
  (zeroPV P qs t).bind fun z => match k, z with
    | some k, [.int k' 0] => if k = k' then some (.bool false) else none
    | some _, _ => none
    | none, z => (isAggT P t).bind fun g => if g then some (.agg z) else (match z with
      | [q] => some q
      | _ => none)
def trParts (P : Program) (fs : Array Field) : List AOpd → List (Nat × Operand) → Option (List (Nat × Nat × AOpd))
  | _, [] => some []
  | qs, (i, x) :: r => (fs[i]?).bind fun f => (sizeT P f.type).bind fun n => (trOpd (qs.headD (.t 0)) x).bind fun a => (trParts P fs qs.tail r).map ((f.offset, n, a) :: ·)
def trSizes (P : Program) (fs : Array Field) : Bool := fs.toList.all fun f => (P.info? f.type).isSome
def inOrder : Nat → List (Nat × Operand) → Bool
  | _, [] => true
  | i, (j, _) :: r => i == j && inOrder (i + 1) r
def trArgs : List Operand → List (AOpd × Md) → Option (List (AOpd × Md))
  | [], _ => some []
  | x :: r, ms => (trOpd (ms.headD (.t 0, .pure)).1 x).bind fun a => (trArgs r ms.tail).map ((a, (ms.headD (a, .pure)).2) :: ·)
def trConv (P : Program) (src dst : TypeId) : Option ACv :=
  match P.underlying src, P.underlying dst with
  | some (.int _), some (.int k) => some (.int k)
  | some .string, some .string => some .str
  | some (.slice e), some .string => if kindT P e = some .u8 then some .bytesToStr else none
  | some .string, some (.slice e) => if kindT P e = some .u8 then some .strToBytes else none
  | _, _ => none
def trLen (P : Program) (t : TypeId) (x : AOpd) : Option AOp :=
  match P.underlying t with
  | some .string => some (.slen x)
  | some (.slice _) => some (.len x)
  | _ => none
/-- A slice or a text. -/
def isRowT (P : Program) (t : TypeId) : Bool :=
  match P.underlying t with
  | some .string | some (.slice _) => true
  | _ => false
def trBin (P : Program) (t : TypeId) (op : BinOp) (x y : AOpd) : Option AOp :=
  match P.underlying t with
  | some .string | some (.int _) => some (.bin op x y)
  | some .bool => some (.beq op x y)
  | _ => none
def trO : Option Operand → Option (Option AOpd)
  | none => some none
  | some x => (trOpd (.t 0) x).map some
def AOp.reads : AOp → List AOpd
  | .mv x | .box x | .un _ x | .conv _ x | .faddr _ x | .field _ _ _ x | .ext x _ | .len x | .slen x | .mlen x | .range x | .next x | .nilchk x | .load _ _ x => [x]
  | .pick a b c => [a, b, c]
  | .alloc _ | .mkmap | .bad => []
  | .build _ ps => ps.map (·.2.2)
  | .bslice _ _ xs => xs
  | .store _ x y | .bin _ x y | .beq _ x y | .iaddr _ x y | .sidx x y | .append _ _ x y | .copy _ _ x y | .appz _ _ _ x y | .mkslice _ _ _ x y | .max x y | .min x y | .idxb x y => [x, y]
  | .slice _ x lo hi | .sslice x lo hi => x :: (lo.toList ++ hi.toList)
  | .mlook _ x i _ => [x, i]
  | .mput x i v => [x, i, v]
  | .call _ as _ _ => as.map (·.1)
def AOp.rd (p : AOp) (i : Nat) : AOpd := p.reads.getD i (.t 0)
/-- The zero cells that a pattern names. -/
def AOp.zl : AOp → List PV
  | .alloc z => z
  | .build z _ => z
  | .mkslice _ _ (.agg z) _ _ => z
  | .mkslice _ _ z _ _ => [z]
  | .appz _ _ (.agg z) _ _ => z
  | .appz _ _ z _ _ => [z]
  | _ => []
/-- An operation of the program; of the pattern p only the modes of a call's arguments and the types of empty slices are taken. -/
def trOp0 (P : Program) (p : AOp) : Op → Option AOp
  | .move x => (trOpd (p.rd 0) x).map .mv
  | .assign x => (trOpd (p.rd 0) x).map .mv
  | .pick c a b => (trOpd (.t 0) c).bind fun c => (trOpd (p.rd 1) a).bind fun a => (trOpd (p.rd 2) b).map fun b => .pick c a b
  | .box _ x => (trOpd (p.rd 0) x).map .box
  | .alloc t => (zeroPV P p.zl t).map .alloc
  | .build t parts => match P.underlying t with
    | some (.struct fs) => if trSizes P fs then (zeroPV P p.zl t).bind fun z => (trParts P fs p.reads parts.toList).map fun ps => .build z ps else none
    | _ => none
  | .buildSlice t len parts => (elemT P t).bind fun e => if inOrder 0 parts.toList && parts.size == len && len * e.2.1 ≤ 65536 && (zeroPV P [] e.1).isSome then
      (trOpds p.reads (parts.toList.map (·.2))).map fun xs => .bslice e.2.1 e.2.2 xs else none
  | .load t x => (sizeT P t).bind fun n => (isAggT P t).bind fun g => if g || n == 1 then (trOpd (.t 0) x).map fun x => .load n g x else none
  | .store t x v => (sizeT P t).bind fun n => if n = 0 then none else (trOpd (.t 0) x).bind fun x => (trOpd (p.rd 1) v).map fun v => .store n x v
  | .binOp op t x y _ => (trOpd (.t 0) x).bind fun x => (trOpd (.t 0) y).bind fun y => trBin P t op x y
  | .unOp op _ x => (trOpd (.t 0) x).map fun x => .un op x
  | .convert s d x => (trConv P s d).bind fun c => (trOpd (.t 0) x).map fun x => .conv c x
  | .slice t x lo hi none => match P.underlying t with
    | some .string => (trOpd (.t 0) x).bind fun x => (trO lo).bind fun lo => (trO hi).map fun hi => .sslice x lo hi
    | some (.slice _) => (elemT P t).bind fun e => (trOpd (.t 0) x).bind fun x => (trO lo).bind fun lo => (trO hi).map fun hi => .slice e.2.1 x lo hi
    | _ => none
  | .fieldAddr s x f => match P.underlying s with
    | some (.struct fs) => (fs[f]?).bind fun f => (sizeT P f.type).bind fun n => if n = 0 then none else (trOpd (.t 0) x).map fun x => .faddr f.offset x
    | _ => none
  | .field s x f => match P.underlying s with
    | some (.struct fs) => (fs[f]?).bind fun f => (sizeT P f.type).bind fun n => (isAggT P f.type).bind fun g => if g || n == 1 then (trOpd (.t 0) x).map fun x => .field f.offset n g x else none
    | _ => none
  | .indexAddr t x i => (elemT P t).bind fun e => (trOpd (.t 0) x).bind fun x => (trOpd (.t 0) i).map fun i => .iaddr e.2.1 x i
  | .index t x i => match P.underlying t with
    | some .string => (trOpd (.t 0) x).bind fun x => (trOpd (.t 0) i).map fun i => .sidx x i
    | _ => none
  | .extract x i => (trOpd (.t 0) x).map fun x => .ext x i
  | .call c => match c.callee with
    | .value (.func f) => if (P.funcs[f]?).any (fun fn => fn.body.isSome && fn.name != "runtime.NumGoroutine") then (match p with
      | .call g ms nres own => if g % 100000 = f then (trArgs c.args.toList ms).map fun as => .call g as nres own else none
      | _ => none) else if (P.funcs[f]?).any (fun fn => fn.body.isNone && fn.name == "internal/bytealg.IndexByteString" && fn.origin == "") then (match c.args.toList with
      | [x, y] => (trOpd (.t 0) x).bind fun x => (trOpd (.t 0) y).map fun y => .idxb x y
      | _ => none) else none
    | .builtin .len => match c.args.toList, c.argTypes.toList with
      | [x], [t] => (trOpd (.t 0) x).bind fun x => trLen P t x
      | _, _ => none
    | .builtin .append => match c.args.toList, c.argTypes.toList with
      | [x, y], [s, t] => (elemT P s).bind fun e => if isRowT P t && (zeroPV P [] e.1).isSome then (trOpd (.t 0) x).bind fun x => (trOpd (.t 0) y).map fun y => .append e.2.1 e.2.2 x y else (kindT P t).bind fun _ => (zeroOf P p.zl e.1 e.2.2).bind fun z => (trOpd (.t 0) x).bind fun x => (trOpd (.t 0) y).map fun y => .appz e.2.1 e.2.2 z x y
      | _, _ => none
    | .builtin .copy => match c.args.toList, c.argTypes.toList with
      | [x, y], [s, t] => (elemT P s).bind fun e => if isRowT P t then (trOpd (.t 0) x).bind fun x => (trOpd (.t 0) y).map fun y => .copy e.2.1 e.2.2 x y else none
      | _, _ => none
    | .builtin .max => match c.args.toList with
      | [x, y] => (trOpd (.t 0) x).bind fun x => (trOpd (.t 0) y).map fun y => .max x y
      | _ => none
    | .builtin .min => match c.args.toList with
      | [x, y] => (trOpd (.t 0) x).bind fun x => (trOpd (.t 0) y).map fun y => .min x y
      | _ => none
    | _ => none
  | .makeSlice t l c => (elemT P t).bind fun e => (trOpd (.t 0) l).bind fun l => (trOpd (.t 0) c).bind fun c => (zeroOf P p.zl e.1 e.2.2).map fun z => .mkslice e.2.1 e.2.2 z l c
  | .nilCheck x => (trOpd (.t 0) x).map .nilchk
  | .range t x => match P.underlying t with
    | some .string => (trOpd (.t 0) x).map .range
    | _ => none
  | .next x true => (trOpd (.t 0) x).map .next
  | _ => none
/-- An operation that is not covered may be given up: its run then comes to nothing. -/
def trOp (P : Program) (p : AOp) (o : Op) : Option AOp :=
  match p with
  | .bad => some .bad
  | p => trOp0 P p o
/-- A guard: the slot that it reads. -/
def trGuard (ops : Array Oper) : Option (Nat × Bool) → Option (Option (Nat × Bool))
  | none => some none
  | some (j, b) => ((ops[j]?).bind (·.dst)).map fun t => some (t, b)
def trOper (P : Program) (nt : Nat) (ops : Array Oper) (p : AOper) (o : Oper) : Option AOper :=
  if o.dst.all (· < nt) then (trGuard ops o.guard).bind fun g => (trOp P p.op o.op).map fun a => ⟨o.dst, a, g⟩ else none
def trOpers (P : Program) (nt : Nat) (ops : Array Oper) : List AOper → List Oper → Option (List AOper)
  | _, [] => some []
  | ps, o :: r => (trOper P nt ops (ps.headD ⟨none, .mkmap, none⟩) o).bind fun a => (trOpers P nt ops ps.tail r).map (a :: ·)
/-- May it write the heap? -/
def AOp.writes : AOp → Bool
  | .mv _ | .pick _ _ _ | .build _ _ | .load _ _ _ | .bin _ _ _ | .beq _ _ _ | .un _ _ | .slice _ _ _ _ | .sslice _ _ _ | .faddr _ _ | .field _ _ _ _ | .iaddr _ _ _ | .sidx _ _ | .ext _ _ | .len _ | .slen _ | .mlen _ | .mlook _ _ _ _ | .max _ _ | .min _ _ | .nilchk _ => false
  | .conv .strToBytes _ => true
  | .conv _ _ => false
  | _ => true
/-- May it read or write the heap? -/
def AOp.touches : AOp → Bool
  | .mv _ | .pick _ _ _ | .build _ _ | .bin _ _ _ | .beq _ _ _ | .sslice _ _ _ | .slen _ | .un _ _ | .faddr _ _ | .field _ _ _ _ | .sidx _ _ | .ext _ _ | .max _ _ | .min _ _ | .nilchk _ => false
  | .conv (.int _) _ | .conv .str _ => false
  | _ => true
def AOpd.tmp : AOpd → Option Nat
  | .t n => some n
  | .c _ => none
def AOper.looks (o : AOper) : List Nat := (o.op.reads.filterMap AOpd.tmp) ++ (match o.guard with | some (t, _) => [t] | none => [])
def AOper.apart (x y : AOper) : Bool :=
  (match x.dst with
   | some d => !y.looks.contains d && y.dst != some d
   | none => true) &&
  (match y.dst with
   | some d => !x.looks.contains d
   | none => true)
/-- For each operation the set of those that an edge, or a chain of edges, lays before it. -/
def orBits (acc : List Nat) : List Edge → Nat → Nat
  | [], m => m
  | e :: r, m => orBits acc r (if Region.binds .any e then m ||| acc.getD e.on 0 ||| 2 ^ e.on else m)
def befs : List Oper → List Nat → List Nat
  | [], acc => acc
  | o :: r, acc => match orBits acc o.after.toList 0 with
    | 0 => befs r (acc ++ [0])
    | n + 1 => befs r (acc ++ [n + 1])
/-- Pairs of operations that no edge orders. -/
def freePairs (ops : Array Oper) : List (Nat × Nat) :=
  let b := befs ops.toList []
  (List.range ops.size).flatMap fun j => (List.range j).filterMap fun i => if (b.getD j 0).testBit i then none else some (i, j)
def noOp : AOper := ⟨none, .mkmap, none⟩
def allApart (as : List AOper) (ps : List (Nat × Nat)) : Bool := ps.all fun p => (as.getD p.1 noOp).apart (as.getD p.2 noOp)
def heapPairs (as : List AOper) (ps : List (Nat × Nat)) : List (Nat × Nat) :=
  ps.filter fun p => let x := (as.getD p.1 noOp).op; let y := (as.getD p.2 noOp).op; (x.writes && y.touches) || (x.touches && y.writes)
def edgesBack (ops : Array Oper) : Bool := ops.toList.zipIdx.all fun x => x.1.after.toList.all fun e => !Region.binds .any e || e.on < x.2
def trCode (P : Program) (nt : Nat) : ACode → Code → Option ACode
  | .join cn p, c => (trCode P nt p c).map (.join cn)
  | _, .skip => some .skip
  | .region ps ks, .region _ ops false => (trOpers P nt ops ps ops.toList).map fun as => .region as ks
  | .dregion ps ks _, .region _ ops true => (trOpers P nt ops ps ops.toList).bind fun as => let fp := freePairs ops; if allApart as fp && edgesBack ops then some (.dregion as ks (heapPairs as fp)) else none
  | .seq p q, .seq a b => (trCode P nt p a).bind fun a => (trCode P nt q b).map (.seq a)
  | .cond _ p q, .cond c a b => (trOpd (.t 0) c).bind fun c => (trCode P nt p a).bind fun a => (trCode P nt q b).map (.cond c a)
  | .block _ p, .block id b => (trCode P nt p b).map (.block id)
  | .loop cn p, .loop b => (trCode P nt p b).map (.loop cn)
  | _, .exit id => some (.exit id)
  | _, .ret => some .ret
  | _, _ => none
def trRes (P : Program) : ResultVar → Option ARes
  | .tmp t => some (.tmp t)
  | .cell a t => (sizeT P t).bind fun n => (isAggT P t).bind fun g => if g || n == 1 then some (.cell a n g) else none
def trRess (P : Program) : List ResultVar → Option (List ARes)
  | [] => some []
  | r :: rs => (trRes P r).bind fun x => (trRess P rs).map (x :: ·)
/-- The abstract text of a function, after the pattern p. -/
def trFun (P : Program) (p : AFun) (f : Func) : Option AFun :=
  f.body.bind fun c => (trCode P f.ntmps p.body c).bind fun b => (trRess P f.results.toList).map fun rs => ⟨b, rs⟩
end Go.Proofs.Ytkeipmkiilimeaa.V
namespace Go.Proofs.Ytkeipmkiilimeaa.V
open Go
/-- A plain value, read in a memory of which the blocks in I are written no more. -/
inductive PRep (I : Nat → Prop) (w : World) : PV → Value → Prop
  | int (k : IntKind) (n : Int) : PRep I w (.int k n) (.int k n)
  | bool (b : Bool) : PRep I w (.bool b) (.bool b)
  | str (s : ByteArray) : PRep I w (.str s.data.toList) (.string s)
  | agg (cs : List PV) (vs : Array Value) (hl : cs.length = vs.size) (hs : ∀ c ∈ cs, c.sc = true)
      (h : ∀ (i : Nat) (c : PV) (v : Value), cs[i]? = some c → vs[i]? = some v → PRep I w c v) : PRep I w (.agg cs) (.agg vs)
  | nil : PRep I w .nil (.slice none 0 0)
  | fn (f : Nat) : PRep I w (.fn f) (.func (.func f) #[] #[])
  | ints0 (k : IntKind) (a : Option Addr) (cap : Nat) : PRep I w (.ints k []) (.slice a 0 cap)
  | sl0 (n : Nat) (a : Option Addr) (cap : Nat) : PRep I w (.sl n []) (.slice a 0 cap)
  | ints (k : IntKind) (l : List Int) (b off cap : Nat) (hI : I b) (hc : l.length ≤ cap)
      (h : ∀ (i : Nat) (x : Int), l[i]? = some x → w.cell? ⟨b, off + i, none⟩ = some (.int k x)) : PRep I w (.ints k l) (.slice (some ⟨b, off, none⟩) l.length cap)
  | sl (n : Nat) (xs : List PV) (b off cap : Nat) (f : Nat → Nat → Value) (hI : I b) (hc : xs.length ≤ cap)
      (hw : ∀ x ∈ xs, x.cells.length = n ∧ ∀ c ∈ x.cells, c.sc = true)
      (hv : ∀ (i : Nat) (x : PV) (j : Nat) (c : PV), xs[i]? = some x → x.cells[j]? = some c → w.cell? ⟨b, off + i * n + j, none⟩ = some (f i j))
      (h : ∀ (i : Nat) (x : PV) (j : Nat) (c : PV), xs[i]? = some x → x.cells[j]? = some c → PRep I w c (f i j)) : PRep I w (.sl n xs) (.slice (some ⟨b, off, none⟩) xs.length cap)
/-- The elements of a list, in the cells of block b from base on. -/
def ContRep (I : Nat → Prop) (w : World) (b base : Nat) : PV → Prop
  | .ints k l => ∀ (i : Nat) (x : Int), l[i]? = some x → w.cell? ⟨b, base + i, none⟩ = some (.int k x)
  | .sl n xs => (∀ x ∈ xs, x.cells.length = n ∧ ∀ c ∈ x.cells, c.sc = true) ∧
      ∀ (i : Nat) (x : PV) (j : Nat) (c : PV), xs[i]? = some x → x.cells[j]? = some c → ∃ v, w.cell? ⟨b, base + i * n + j, none⟩ = some v ∧ PRep I w c v
  | _ => False
theorem cell_block {w w' : World} {a : Addr} (h : w'.heap[a.block]? = w.heap[a.block]?) : w'.cell? a = w.cell? a := by
  unfold World.cell?; rw [h]
theorem PRep.mono {I I' : Nat → Prop} {w w' : World} (hI : ∀ b, I b → I' b) (hw : ∀ b, I b → w'.heap[b]? = w.heap[b]?) {p : PV} {v : Value} (h : PRep I w p v) : PRep I' w' p v := by
  induction h with
  | int k n => exact .int k n
  | bool b => exact .bool b
  | str s => exact .str s
  | agg cs vs hl hs _ ih => exact .agg cs vs hl hs ih
  | nil => exact .nil
  | fn f => exact .fn f
  | ints0 k a cap => exact .ints0 k a cap
  | sl0 n a cap => exact .sl0 n a cap
  | ints k l b off cap hb hc h => exact .ints k l b off cap (hI _ hb) hc fun i x hx => (cell_block (w := w) (w' := w') (a := ⟨b, off + i, none⟩) (hw b hb)).trans (h i x hx)
  | sl n xs b off cap f hb hc hx hv _ ih => exact .sl n xs b off cap f (hI _ hb) hc hx (fun i x j c h1 h2 => (cell_block (w := w) (w' := w') (a := ⟨b, off + i * n + j, none⟩) (hw b hb)).trans (hv i x j c h1 h2)) ih
theorem ContRep.mono {I I' : Nat → Prop} {w w' : World} (hI : ∀ b, I b → I' b) (hw : ∀ b, I b → w'.heap[b]? = w.heap[b]?) {b base : Nat} (hb : w'.heap[b]? = w.heap[b]?) {c : PV} (h : ContRep I w b base c) : ContRep I' w' b base c := by
  cases c with
  | ints k l => exact fun i x hx => (cell_block (w := w) (w' := w') (a := ⟨b, base + i, none⟩) hb).trans (h i x hx)
  | sl n xs =>
    refine ⟨h.1, fun i x j c h1 h2 => ?_⟩
    obtain ⟨v, hv, hp⟩ := h.2 i x j c h1 h2
    exact ⟨v, (cell_block (w := w) (w' := w') (a := ⟨b, base + i * n + j, none⟩) hb).trans hv, hp.mono hI hw⟩
  | _ => exact h.elim
/-- A flat value does not depend on memory. -/
theorem PRep.flat1 {I I' : Nat → Prop} {w w' : World} {p : PV} {v : Value} (hf : p.flat1 = true) (h : PRep I w p v) : PRep I' w' p v := by
  cases h <;> first | exact .int _ _ | exact .bool _ | exact .str _ | exact .fn _ | simp [PV.flat1] at hf
theorem PRep.flat {I I' : Nat → Prop} {w w' : World} {p : PV} {v : Value} (hf : p.flat = true) (h : PRep I w p v) : PRep I' w' p v := by
  cases h with
  | agg cs vs hl hs h =>
    refine .agg cs vs hl hs fun i c v hc hv => (h i c v hc hv).flat1 ?_
    have := List.all_eq_true.1 hf c (List.mem_of_getElem? hc)
    exact this
  | int k n => exact .int _ _
  | bool b => exact .bool _
  | str s => exact .str _
  | fn f => exact .fn _
  | _ => simp [PV.flat, PV.flat1] at hf
theorem prep_slice {I : Nat → Prop} {w : World} {c : PV} {b base cap : Nat} (hI : I b) (hc : c.len ≤ cap) (h : ContRep I w b base c) : PRep I w c (.slice (some ⟨b, base, none⟩) c.len cap) := by
  cases c with
  | ints k l => exact .ints k l b base cap hI hc h
  | sl n xs =>
    obtain ⟨h1, h2⟩ := h
    have : ∀ i j, ∃ v, ∀ x c, xs[i]? = some x → x.cells[j]? = some c → w.cell? ⟨b, base + i * n + j, none⟩ = some v ∧ PRep I w c v := by
      intro i j
      cases hx : xs[i]? with
      | none => exact ⟨undef, fun x c h => by simp at h⟩
      | some x =>
        cases hc : x.cells[j]? with
        | none => exact ⟨undef, fun x' c h h' => by simp at h; subst h; rw [hc] at h'; simp at h'⟩
        | some c =>
          obtain ⟨v, hv⟩ := h2 i x j c hx hc
          exact ⟨v, fun x' c' h h' => by simp at h; subst h; rw [hc] at h'; simp at h'; subst h'; exact hv⟩
    refine .sl n xs b base cap (fun i j => (this i j).choose) hI hc h1 (fun i x j c hx hc => ((this i j).choose_spec x c hx hc).1) (fun i x j c hx hc => ((this i j).choose_spec x c hx hc).2)
  | _ => exact h.elim
/-- A plain slice: its length, and its elements, unless it is empty. -/
theorem prep_slice_inv {I : Nat → Prop} {w : World} {p : PV} {v : Value} (hs : p.isSlice = true) (h : PRep I w p v) :
    ∃ a cap, v = .slice a p.len cap ∧ p.len ≤ cap ∧ (p.len = 0 ∨ ∃ b off, a = some ⟨b, off, none⟩ ∧ I b ∧ ContRep I w b off p) := by
  cases h with
  | nil => exact ⟨none, 0, rfl, Nat.le_refl _, .inl rfl⟩
  | ints0 k a cap => exact ⟨a, cap, rfl, Nat.zero_le _, .inl rfl⟩
  | sl0 n a cap => exact ⟨a, cap, rfl, Nat.zero_le _, .inl rfl⟩
  | ints k l b off cap hI hc h => exact ⟨_, cap, rfl, hc, .inr ⟨b, off, rfl, hI, h⟩⟩
  | sl n xs b off cap f hI hc hw hv h => exact ⟨_, cap, rfl, hc, .inr ⟨b, off, rfl, hI, hw, fun i x j c hx hc => ⟨_, hv i x j c hx hc, h i x j c hx hc⟩⟩⟩
  | _ => simp [PV.isSlice] at hs
/-- A value of one cell. -/
def Value.one : Value → Bool
  | .agg _ | .tuple _ => false
  | _ => true
theorem PRep.one {I : Nat → Prop} {w : World} {p : PV} {v : Value} (h : PRep I w p v) (hs : p.sc = true) : Value.one v = true := by
  cases h <;> first | rfl | simp [PV.sc] at hs
/-- Where a row or a variable of the function's own lies. -/
inductive RL where
  | nil
  | row (b base n cap len : Nat)
  | obj (b : Nat)
def RL.blk : RL → Option Nat
  | .nil => none
  | .row b _ _ _ _ => some b
  | .obj b => some b
abbrev Rho := Nat → Option RL
inductive VRel (I : Nat → Prop) (w : World) (ρ : Rho) : AV → Value → Prop
  | bad (v : Value) : VRel I w ρ .bad v
  | und : VRel I w ρ .und undef
  | pv {p : PV} {v : Value} (h : PRep I w p v) : VRel I w ρ (.pv p) v
  | agg (cs : List AV) (vs : Array Value) (hl : cs.length = vs.size) (hs : ∀ c ∈ cs, c.sc = true)
      (h : ∀ (i : Nat) (c : AV) (v : Value), cs[i]? = some c → vs[i]? = some v → VRel I w ρ c v) : VRel I w ρ (.agg cs) (.agg vs)
  | tup (cs : List AV) (vs : Array Value) (hl : cs.length = vs.size)
      (h : ∀ (i : Nat) (c : AV) (v : Value), cs[i]? = some c → vs[i]? = some v → VRel I w ρ c v) : VRel I w ρ (.tup cs) (.tuple vs)
  | ptr {id off b : Nat} (h : ρ id = some (.obj b)) : VRel I w ρ (.ptr id off) (.pointer (some ⟨b, off, none⟩))
  | row0 {id : Nat} (h : ρ id = some .nil) : VRel I w ρ (.row id none) (.slice none 0 0)
  | row {id b base n cap len : Nat} (h : ρ id = some (.row b base n cap len)) (hl : len ≤ cap) : VRel I w ρ (.row id none) (.slice (some ⟨b, base, none⟩) len cap)
  | view0 {id : Nat} (h : ρ id = some .nil) : VRel I w ρ (.row id (some (0, 0))) (.slice none 0 0)
  | view {id b base n cap len o l cap' : Nat} {a : Addr} (h : ρ id = some (.row b base n cap len)) (hl : o + l ≤ len) (hc : l ≤ cap')
      (ha : ∃ o', a = ⟨b, base + o' * n, none⟩ ∧ o' + cap' ≤ cap ∧ (o' = o ∨ (l = 0 ∧ cap' = 0))) : VRel I w ρ (.row id (some (o, l))) (.slice (some a) l cap')
  | elem {id b base n cap len idx off : Nat} (h : ρ id = some (.row b base n cap len)) : VRel I w ρ (.elem id idx off) (.pointer (some ⟨b, base + idx * n + off, none⟩))
  | cell (cs : List PV) (b off : Nat) (hI : I b) (hs : ∀ c ∈ cs, c.sc = true) (hc : ∀ (j : Nat) (c : PV), cs[j]? = some c → ∃ v, w.cell? ⟨b, off + j, none⟩ = some v ∧ PRep I w c v) : VRel I w ρ (.cell cs) (.pointer (some ⟨b, off, none⟩))
  | mapr {id b : Nat} (h : ρ id = some (.obj b)) : VRel I w ρ (.mapr id) (.map (some b))
  | iter {id b : Nat} (h : ρ id = some (.obj b)) : VRel I w ρ (.iter id) (.pointer (some ⟨b, 0, none⟩))
theorem VRel.mono {I I' : Nat → Prop} {w w' : World} {ρ ρ' : Rho} (hI : ∀ b, I b → I' b) (hw : ∀ b, I b → w'.heap[b]? = w.heap[b]?) (hρ : ∀ i l, ρ i = some l → ρ' i = some l) {v : AV} {x : Value} (h : VRel I w ρ v x) : VRel I' w' ρ' v x := by
  induction h with
  | bad v => exact .bad v
  | und => exact .und
  | pv h => exact .pv (h.mono hI hw)
  | agg cs vs hl hs _ ih => exact .agg cs vs hl hs ih
  | tup cs vs hl _ ih => exact .tup cs vs hl ih
  | ptr h => exact .ptr (hρ _ _ h)
  | row0 h => exact .row0 (hρ _ _ h)
  | row h hl => exact .row (hρ _ _ h) hl
  | view0 h => exact .view0 (hρ _ _ h)
  | view h hl hc ha => exact .view (hρ _ _ h) hl hc ha
  | elem h => exact .elem (hρ _ _ h)
  | cell cs b off hb hs hc =>
    refine .cell cs b off (hI _ hb) hs fun j c hj => ?_
    obtain ⟨v, hv, hp⟩ := hc j c hj
    exact ⟨v, (cell_block (w := w) (w' := w') (a := ⟨b, off + j, none⟩) (hw b hb)).trans hv, hp.mono hI hw⟩
  | mapr h => exact .mapr (hρ _ _ h)
  | iter h => exact .iter (hρ _ _ h)
theorem VRel.one {I : Nat → Prop} {w : World} {ρ : Rho} {v : AV} {x : Value} (h : VRel I w ρ v x) (hs : v.sc = true) : Value.one x = true := by
  cases h with
  | pv h => exact h.one hs
  | _ => first | rfl | simp [AV.sc] at hs
def Kv (I : Nat → Prop) (w : World) (kv : PV × PV) (e : MapEntry) : Prop := PRep I w kv.1 e.key ∧ PRep I w kv.2 e.val
/-- Is an object written still? -/
def AObj.mutable : AObj → Bool
  | .row _ m => m
  | _ => true
/-- An object of the function's own, in memory. -/
def ORel (I : Nat → Prop) (w : World) (ρ : Rho) (id : Nat) : AObj → Prop
  | .vars cs => ∃ b arr e, ρ id = some (.obj b) ∧ w.heap[b]? = some (.cells arr e (0, 0)) ∧ arr.size = cs.length ∧ (∀ c ∈ cs, c.sc = true) ∧
      ∀ (i : Nat) (c : AV) (v : Value), cs[i]? = some c → arr[i]? = some v → VRel I w ρ c v
  | .row c m => (ρ id = some .nil ∧ c.len = 0 ∧ c.isSlice = true) ∨
      ∃ b base n cap arr e lo hi, ρ id = some (.row b base n cap c.len) ∧ w.heap[b]? = some (.cells arr e (lo, hi)) ∧ base + cap * n ≤ arr.size ∧ c.len ≤ cap ∧ c.esz n = true ∧ ContRep I w b base c ∧
        (m = true → ∀ o, o < arr.size → ¬ (lo ≤ o ∧ o < hi)) ∧ (m = false → I b)
  | .map kvs => ∃ b es ck, ρ id = some (.obj b) ∧ w.heap[b]? = some (.map es ck) ∧ es.size = kvs.length ∧ ∀ (i : Nat) (kv : PV × PV) (e : MapEntry), kvs[i]? = some kv → es[i]? = some e → Kv I w kv e
  | .iter s pos => ∃ (b : Nat) (t : ByteArray), ρ id = some (.obj b) ∧ w.heap[b]? = some (.stringIter t pos) ∧ t.data.toList = s
structure Ctx where
  B : Nat
  M : Nat → Prop
  I0 : Nat → Prop
  w0 : World
/-- The memory, seen from a running function. -/
structure SRel (X : Ctx) (I : Nat → Prop) (ρ : Rho) (h : Heap) (w : World) : Prop where
  used : ∀ id, h id = none → ρ id = none
  objs : ∀ id o, h id = some (some o) → ORel I w ρ id o
  sep : ∀ i j oi oj b, h i = some (some oi) → h j = some (some oj) → (ρ i).bind RL.blk = some b → (ρ j).bind RL.blk = some b → i = j
  muts : ∀ id o b, h id = some (some o) → o.mutable = true → (ρ id).bind RL.blk = some b → ¬ I b ∧ (X.B ≤ b ∨ X.M b)
  inI : ∀ b, I b → b < w.heap.size ∧ (X.I0 b ∨ X.B ≤ b ∨ X.M b)
  i0 : ∀ b, X.I0 b → I b
  size : X.B ≤ w.heap.size
  keep : ∀ b, b < X.B → ¬ X.M b → w.heap[b]? = X.w0.heap[b]?
  os : w.os = X.w0.os
  tape : w.tape = X.w0.tape
  output : w.output = X.w0.output
/-- A later state knows all that an earlier one did. -/
structure Ext (I : Nat → Prop) (ρ : Rho) (w : World) (I' : Nat → Prop) (ρ' : Rho) (w' : World) : Prop where
  inI : ∀ b, I b → I' b
  rho : ∀ i l, ρ i = some l → ρ' i = some l
  heap : ∀ b, I b → w'.heap[b]? = w.heap[b]?
theorem Ext.refl (I : Nat → Prop) (ρ : Rho) (w : World) : Ext I ρ w I ρ w := ⟨fun _ h => h, fun _ _ h => h, fun _ _ => rfl⟩
theorem Ext.trans {I I' I'' : Nat → Prop} {ρ ρ' ρ'' : Rho} {w w' w'' : World} (h : Ext I ρ w I' ρ' w') (g : Ext I' ρ' w' I'' ρ'' w'') : Ext I ρ w I'' ρ'' w'' :=
  ⟨fun b hb => g.inI b (h.inI b hb), fun i l hi => g.rho i l (h.rho i l hi), fun b hb => (g.heap b (h.inI b hb)).trans (h.heap b hb)⟩
theorem VRel.ext {I I' : Nat → Prop} {w w' : World} {ρ ρ' : Rho} (h : Ext I ρ w I' ρ' w') {v : AV} {x : Value} (hv : VRel I w ρ v x) : VRel I' w' ρ' v x := hv.mono h.inI h.heap h.rho
theorem PRep.ext {I I' : Nat → Prop} {w w' : World} {ρ ρ' : Rho} (h : Ext I ρ w I' ρ' w') {p : PV} {x : Value} (hv : PRep I w p x) : PRep I' w' p x := hv.mono h.inI h.heap
def ERel (I : Nat → Prop) (w : World) (ρ : Rho) (e : Env) (tmps : Array Value) : Prop := ∀ t, VRel I w ρ (e t) (tmps.getD t undef)
theorem ERel.ext {I I' : Nat → Prop} {w w' : World} {ρ ρ' : Rho} (h : Ext I ρ w I' ρ' w') {e : Env} {t : Array Value} (hv : ERel I w ρ e t) : ERel I' w' ρ' e t := fun i => (hv i).ext h
/-- An object's own block has not changed, nor has what is written no more: it is the same object. -/
theorem ORel.ext {I I' : Nat → Prop} {w w' : World} {ρ ρ' : Rho} (h : Ext I ρ w I' ρ' w') {id : Nat} {o : AObj} (ho : ORel I w ρ id o) (hb : ∀ b, (ρ id).bind RL.blk = some b → w'.heap[b]? = w.heap[b]?) : ORel I' w' ρ' id o := by
  cases o with
  | vars cs =>
    obtain ⟨b, arr, e, h1, h2, h3, h4, h5⟩ := ho
    exact ⟨b, arr, e, h.rho _ _ h1, (hb b (by rw [h1]; rfl)).trans h2, h3, h4, fun i c v hc hv => (h5 i c v hc hv).ext h⟩
  | row c m =>
    rcases ho with ⟨h1, h2, h3⟩ | ⟨b, base, n, cap, arr, e, lo, hi, h1, h2, h3, h4, h5, h6, h7, h8⟩
    · exact .inl ⟨h.rho _ _ h1, h2, h3⟩
    · have hb' := hb b (by rw [h1]; rfl)
      exact .inr ⟨b, base, n, cap, arr, e, lo, hi, h.rho _ _ h1, hb'.trans h2, h3, h4, h5, h6.mono h.inI h.heap hb', h7, fun hm => h.inI _ (h8 hm)⟩
  | map kvs =>
    obtain ⟨b, es, ck, h1, h2, h3, h4⟩ := ho
    exact ⟨b, es, ck, h.rho _ _ h1, (hb b (by rw [h1]; rfl)).trans h2, h3, fun i kv e hk he => ⟨(h4 i kv e hk he).1.ext h, (h4 i kv e hk he).2.ext h⟩⟩
  | iter s pos =>
    obtain ⟨b, t, h1, h2, h3⟩ := ho
    exact ⟨b, t, h.rho _ _ h1, (hb b (by rw [h1]; rfl)).trans h2, h3⟩
theorem ORel.blk_lt {I : Nat → Prop} {w : World} {ρ : Rho} {id : Nat} {o : AObj} (ho : ORel I w ρ id o) {b : Nat} (hb : (ρ id).bind RL.blk = some b) : b < w.heap.size := by
  have key : ∀ (b' : Nat) (x : Obj), w.heap[b']? = some x → b' < w.heap.size := fun b' x hx => (Array.getElem?_eq_some_iff.1 hx).1
  cases o with
  | vars cs =>
    obtain ⟨b', arr, e, h1, h2, _⟩ := ho
    rw [h1] at hb; simp [RL.blk] at hb; subst hb; exact key _ _ h2
  | row c m =>
    rcases ho with ⟨h1, _⟩ | ⟨b', base, n, cap, arr, e, lo, hi, h1, h2, _⟩
    · rw [h1] at hb; simp [RL.blk] at hb
    · rw [h1] at hb; simp [RL.blk] at hb; subst hb; exact key _ _ h2
  | map kvs =>
    obtain ⟨b', es, ck, h1, h2, _⟩ := ho
    rw [h1] at hb; simp [RL.blk] at hb; subst hb; exact key _ _ h2
  | iter s pos =>
    obtain ⟨b', t, h1, h2, _⟩ := ho
    rw [h1] at hb; simp [RL.blk] at hb; subst hb; exact key _ _ h2
end Go.Proofs.Ytkeipmkiilimeaa.V
namespace Go.Proofs.Ytkeipmkiilimeaa.V
open Go
section
variable {X : Ctx} {I : Nat → Prop} {ρ : Rho} {h : Heap} {w : World}
theorem hup_same (h : Heap) (id : Nat) (o : Option (Option AObj)) : hup h id o id = o := if_pos rfl
theorem hup_ne {h : Heap} {id j : Nat} {o : Option (Option AObj)} (e : j ≠ id) : hup h id o j = h j := if_neg e
/-- A world with the same memory. -/
structure Same (w w' : World) : Prop where
  heap : w'.heap = w.heap
  os : w'.os = w.os
  tape : w'.tape = w.tape
  output : w'.output = w.output
theorem Same.refl (w : World) : Same w w := ⟨rfl, rfl, rfl, rfl⟩
theorem Same.ext {w w' : World} (s : Same w w') : Ext I ρ w I ρ w' := ⟨fun _ h => h, fun _ _ h => h, fun _ _ => by rw [s.heap]⟩
theorem SRel.same {w' : World} (s : Same w w') (r : SRel X I ρ h w) : SRel X I ρ h w' where
  used := r.used
  objs := fun id o ho => (r.objs id o ho).ext s.ext fun b _ => by rw [s.heap]
  sep := r.sep
  muts := r.muts
  inI := fun b hb => by rw [s.heap]; exact r.inI b hb
  i0 := r.i0
  size := by rw [s.heap]; exact r.size
  keep := fun b h1 h2 => by rw [s.heap]; exact r.keep b h1 h2
  os := s.os.trans r.os
  tape := s.tape.trans r.tape
  output := s.output.trans r.output
theorem SRel.del {id : Nat} {o : AObj} (ho : h id = some (some o)) (r : SRel X I ρ h w) : SRel X I ρ (hup h id (some none)) w := by
  have live : ∀ j oj, hup h id (some none) j = some (some oj) → h j = some (some oj) := by
    intro j oj hj
    by_cases e : j = id
    · subst e; rw [hup_same] at hj; cases hj
    · rwa [hup_ne e] at hj
  exact { r with
    used := fun j hj => by
      by_cases e : j = id
      · subst e; rw [hup_same] at hj; cases hj
      · rw [hup_ne e] at hj; exact r.used j hj
    objs := fun j oj hj => r.objs j oj (live j oj hj)
    sep := fun i j oi oj b hi hj => r.sep i j oi oj b (live i oi hi) (live j oj hj)
    muts := fun j oj b hj => r.muts j oj b (live j oj hj) }
/-- The blocks in which a row lies that is written no more from now on. -/
def Iadd (I : Nat → Prop) (ρ : Rho) (id : Nat) : Nat → Prop := fun b => I b ∨ (ρ id).bind RL.blk = some b
theorem Iadd.ext (id : Nat) : Ext I ρ w (Iadd I ρ id) ρ w := ⟨fun _ h => .inl h, fun _ _ h => h, fun _ _ => rfl⟩
theorem SRel.shut {id : Nat} {c : PV} {m : Bool} (ho : h id = some (some (.row c m))) (r : SRel X I ρ h w) : SRel X (Iadd I ρ id) ρ (hup h id (some (some (.row c false)))) w := by
  have live : ∀ j oj, j ≠ id → hup h id (some (some (.row c false))) j = some (some oj) → h j = some (some oj) := fun j oj e hj => by rwa [hup_ne e] at hj
  have isLive : ∀ j oj, hup h id (some (some (.row c false))) j = some (some oj) → ∃ oj', h j = some (some oj') := by
    intro j oj hj
    by_cases e : j = id
    · exact ⟨_, e ▸ ho⟩
    · exact ⟨oj, live j oj e hj⟩
  exact { r with
    used := fun j hj => by
      by_cases e : j = id
      · subst e; rw [hup_same] at hj; cases hj
      · rw [hup_ne e] at hj; exact r.used j hj
    objs := fun j oj hj => by
      by_cases e : j = id
      · subst e; rw [hup_same] at hj; cases hj
        have hr := (r.objs j _ ho).ext (Iadd.ext (I := I) (ρ := ρ) (w := w) j) (fun _ _ => rfl)
        rcases hr with hr | ⟨b, base, n, cap, arr, e, lo, hi, h1, h2, h3, h4, h5, h6, h7, h8⟩
        · exact .inl hr
        · exact .inr ⟨b, base, n, cap, arr, e, lo, hi, h1, h2, h3, h4, h5, h6, (fun h => by cases h), fun _ => .inr (by rw [h1]; rfl)⟩
      · exact (r.objs j oj (live j oj e hj)).ext (Iadd.ext id) fun _ _ => rfl
    sep := fun i j oi oj b hi hj => by
      obtain ⟨_, hi'⟩ := isLive i oi hi
      obtain ⟨_, hj'⟩ := isLive j oj hj
      exact r.sep i j _ _ b hi' hj'
    muts := fun j oj b hj hm hb => by
      by_cases e : j = id
      · subst e; rw [hup_same] at hj; cases hj; cases hm
      · have hj' := live j oj e hj
        obtain ⟨h1, h2⟩ := r.muts j oj b hj' hm hb
        exact ⟨fun h => h.elim h1 fun h => e (r.sep j id _ _ b hj' ho hb h), h2⟩
    inI := fun b hb => hb.elim (r.inI b) fun hb => by
      have ho' := r.objs id _ ho
      refine ⟨ho'.blk_lt hb, ?_⟩
      cases m with
      | true => exact .inr (r.muts id _ b ho rfl hb).2
      | false =>
        rcases ho' with ⟨h1, _⟩ | ⟨b', base, n, cap, arr, e, lo, hi, h1, h2, h3, h4, h5, h6, h7, h8⟩
        · rw [h1] at hb; cases hb
        · rw [h1] at hb; cases hb; exact (r.inI _ (h8 rfl)).2
    i0 := fun b hb => .inl (r.i0 b hb) }
def rup (ρ : Rho) (id : Nat) (l : RL) : Rho := fun j => if j = id then some l else ρ j
theorem rup_same (ρ : Rho) (id : Nat) (l : RL) : rup ρ id l id = some l := if_pos rfl
theorem rup_ne {ρ : Rho} {id j : Nat} {l : RL} (e : j ≠ id) : rup ρ id l j = ρ j := if_neg e
/-- What a step leaves of the memory: all blocks but one, and the rest of the world. -/
structure But (w w' : World) (ob : Option Nat) : Prop where
  heap : ∀ b, b < w.heap.size → ob ≠ some b → w'.heap[b]? = w.heap[b]?
  size : w.heap.size ≤ w'.heap.size
  os : w'.os = w.os
  tape : w'.tape = w.tape
  output : w'.output = w.output
theorem Same.but {w w' : World} (s : Same w w') (ob : Option Nat) : But w w' ob := ⟨fun b _ _ => by rw [s.heap], by rw [s.heap]; exact Nat.le_refl _, s.os, s.tape, s.output⟩
theorem But.weak {w w' : World} (s : But w w' none) (ob : Option Nat) : But w w' ob := { s with heap := fun b h _ => s.heap b h (by simp) }
theorem But.trans {w w' w'' : World} {ob : Option Nat} (s : But w w' ob) (t : But w' w'' ob) : But w w'' ob :=
  ⟨fun b hb he => (t.heap b (Nat.lt_of_lt_of_le hb s.size) he).trans (s.heap b hb he), Nat.le_trans s.size t.size, t.os.trans s.os, t.tape.trans s.tape, t.output.trans s.output⟩
/-- A place that the function may write, and that is none of its living objects'. -/
def Free (X : Ctx) (I : Nat → Prop) (ρ : Rho) (h : Heap) (w : World) (ob : Option Nat) : Prop :=
  ∀ b, ob = some b → (w.heap.size ≤ b ∨ (¬ I b ∧ (X.B ≤ b ∨ X.M b) ∧ ∀ j oj, h j = some (some oj) → (ρ j).bind RL.blk ≠ some b))
theorem Free.notI {ob : Option Nat} (r : SRel X I ρ h w) (f : Free X I ρ h w ob) {b : Nat} (hb : ob = some b) : ¬ I b ∧ (X.B ≤ b ∨ X.M b) ∧ ∀ j oj, h j = some (some oj) → (ρ j).bind RL.blk ≠ some b := by
  rcases f b hb with f | f
  · exact ⟨fun h => Nat.not_lt.2 f (r.inI b h).1, .inl (Nat.le_trans r.size f), fun j oj hj e => Nat.not_lt.2 f ((r.objs j oj hj).blk_lt e)⟩
  · exact f
theorem SRel.butExt {w' : World} {ob : Option Nat} {id : Nat} {l : RL} (hid : h id = none) (f : Free X I ρ h w ob) (s : But w w' ob) (r : SRel X I ρ h w) : Ext I ρ w I (rup ρ id l) w' where
  inI := fun _ h => h
  rho := fun i li hi => by
    by_cases e : i = id
    · subst e; rw [r.used i hid] at hi; cases hi
    · rwa [rup_ne e]
  heap := fun b hb => s.heap b (r.inI b hb).1 fun e => (f.notI r e).1 hb
set_option linter.unusedVariables false in
/-- A new object, in a place of its own. -/
theorem SRel.add {w' : World} {id : Nat} {o : AObj} {l : RL} (hid : h id = none) (f : Free X I ρ h w l.blk) (s : But w w' l.blk) (hm : o.mutable = true)
    (r : SRel X I ρ h w) (ho : ORel I w' (rup ρ id l) id o) : SRel X I (rup ρ id l) (hup h id (some (some o))) w' := by
  have ex : Ext I ρ w I (rup ρ id l) w' := r.butExt hid f s
  have live : ∀ j oj, j ≠ id → hup h id (some (some o)) j = some (some oj) → h j = some (some oj) := fun j oj e hj => by rwa [hup_ne e] at hj
  have blk : ∀ j, j ≠ id → (rup ρ id l j).bind RL.blk = (ρ j).bind RL.blk := fun j e => by rw [rup_ne e]
  have blk0 : (rup ρ id l id).bind RL.blk = l.blk := by rw [rup_same]; rfl
  refine { used := ?_, objs := ?_, sep := ?_, muts := ?_, inI := ?_, i0 := r.i0, size := ?_, keep := ?_, os := s.os.trans r.os, tape := s.tape.trans r.tape, output := s.output.trans r.output }
  · intro j hj
    by_cases e : j = id
    · subst e; rw [hup_same] at hj; cases hj
    · rw [hup_ne e] at hj; rw [rup_ne e]; exact r.used j hj
  · intro j oj hj
    by_cases e : j = id
    · subst e; rw [hup_same] at hj; cases hj; exact ho
    · have hj' := live j oj e hj
      refine (r.objs j oj hj').ext ex fun b hb => ?_
      exact s.heap b ((r.objs j oj hj').blk_lt hb) fun e' => (f.notI r e').2.2 j oj hj' hb
  · intro i j oi oj b hi hj bi bj
    by_cases ei : i = id <;> by_cases ej : j = id
    · rw [ei, ej]
    · subst ei; rw [blk0] at bi; rw [blk j ej] at bj
      exact absurd bj ((f.notI r bi).2.2 j oj (live j oj ej hj))
    · subst ej; rw [blk0] at bj; rw [blk i ei] at bi
      exact absurd bi ((f.notI r bj).2.2 i oi (live i oi ei hi))
    · rw [blk i ei] at bi; rw [blk j ej] at bj
      exact r.sep i j oi oj b (live i oi ei hi) (live j oj ej hj) bi bj
  · intro j oj b hj hmj hb
    by_cases e : j = id
    · subst e; rw [blk0] at hb; exact ⟨(f.notI r hb).1, (f.notI r hb).2.1⟩
    · rw [blk j e] at hb; exact r.muts j oj b (live j oj e hj) hmj hb
  · intro b hb; exact ⟨Nat.lt_of_lt_of_le (r.inI b hb).1 s.size, (r.inI b hb).2⟩
  · exact Nat.le_trans r.size s.size
  · intro b hb hM
    rw [← r.keep b hb hM]
    refine s.heap b (Nat.lt_of_lt_of_le hb r.size) fun e => ?_
    rcases (f.notI r e).2.1 with h | h
    · omega
    · exact hM h
set_option linter.unusedVariables false in
/-- An object written. -/
theorem SRel.put {w' : World} {id : Nat} {o o' : AObj} (hid : h id = some (some o)) (hm : o.mutable = true) (hm' : o'.mutable = true) (s : But w w' ((ρ id).bind RL.blk))
    (r : SRel X I ρ h w) (ho : ORel I w' ρ id o') : SRel X I ρ (hup h id (some (some o'))) w' ∧ Ext I ρ w I ρ w' := by
  have ex : Ext I ρ w I ρ w' := ⟨fun _ h => h, fun _ _ h => h, fun b hb => s.heap b (r.inI b hb).1 fun e => (r.muts id o b hid hm e).1 hb⟩
  have live : ∀ j oj, j ≠ id → hup h id (some (some o')) j = some (some oj) → h j = some (some oj) := fun j oj e hj => by rwa [hup_ne e] at hj
  have isLive : ∀ j oj, hup h id (some (some o')) j = some (some oj) → ∃ oj', h j = some (some oj') := by
    intro j oj hj
    by_cases e : j = id
    · exact ⟨_, e ▸ hid⟩
    · exact ⟨oj, live j oj e hj⟩
  refine ⟨{ used := ?_, objs := ?_, sep := ?_, muts := ?_, inI := ?_, i0 := r.i0, size := ?_, keep := ?_, os := s.os.trans r.os, tape := s.tape.trans r.tape, output := s.output.trans r.output }, ex⟩
  · intro j hj
    by_cases e : j = id
    · subst e; rw [hup_same] at hj; cases hj
    · rw [hup_ne e] at hj; exact r.used j hj
  · intro j oj hj
    by_cases e : j = id
    · subst e; rw [hup_same] at hj; cases hj; exact ho
    · have hj' := live j oj e hj
      refine (r.objs j oj hj').ext ex fun b hb => ?_
      exact s.heap b ((r.objs j oj hj').blk_lt hb) fun e' => e (r.sep j id _ _ b hj' hid hb e')
  · intro i j oi oj b hi hj
    obtain ⟨_, hi'⟩ := isLive i oi hi
    obtain ⟨_, hj'⟩ := isLive j oj hj
    exact r.sep i j _ _ b hi' hj'
  · intro j oj b hj hmj hb
    by_cases e : j = id
    · subst e; exact r.muts j o b hid hm hb
    · exact r.muts j oj b (live j oj e hj) hmj hb
  · intro b hb; exact ⟨Nat.lt_of_lt_of_le (r.inI b hb).1 s.size, (r.inI b hb).2⟩
  · exact Nat.le_trans r.size s.size
  · intro b hb hM
    rw [← r.keep b hb hM]
    refine s.heap b (Nat.lt_of_lt_of_le hb r.size) fun e => ?_
    rcases (r.muts id o b hid hm e).2 with h | h
    · omega
    · exact hM h
end
end Go.Proofs.Ytkeipmkiilimeaa.V
namespace Go.Proofs.Ytkeipmkiilimeaa.V
open Go
theorem addr_add (b o n : Nat) : (⟨b, o, none⟩ : Addr).add n = ⟨b, o + n, none⟩ := by
  unfold Addr.add; split <;> simp_all
theorem cell_cells {w : World} {b : Nat} {arr : Array Value} {e : TypeId} {fz : Nat × Nat} (h : w.heap[b]? = some (.cells arr e fz)) (o : Nat) : w.cell? ⟨b, o, none⟩ = arr[o]? := by
  simp [World.cell?, h]
theorem frozen_cells {w : World} {b : Nat} {arr : Array Value} {e : TypeId} {lo hi : Nat} (h : w.heap[b]? = some (.cells arr e (lo, hi))) (o : Nat) : w.frozen? ⟨b, o, none⟩ = (decide (lo ≤ o) && decide (o < hi)) := by
  simp [World.frozen?, h]
theorem one_cell' {v : Value} (h : Value.one v = true) : v.oneCell' = true := by cases v <;> first | rfl | cases h
theorem cells_one {v : Value} (h : Value.one v = true) : v.cells = #[v] := by cases v <;> first | rfl | cases h
/-- Storing values, one by one, into a block. -/
theorem store_run (P : Program) (b : Nat) (e : TypeId) (lo hi : Nat) : ∀ (vs : List Value) (o i : Nat) (arr : Array Value) (w : World), w.heap[b]? = some (.cells arr e (lo, hi)) → o + i + vs.length ≤ arr.size →
    (∀ j, o + i ≤ j → j < o + i + vs.length → ¬ (lo ≤ j ∧ j < hi)) → (∀ v ∈ vs, Value.one v = true) →
    ∃ arr' w', (storeCells ⟨b, o, none⟩ vs i).run P w = .ok () w' ∧ w'.heap[b]? = some (.cells arr' e (lo, hi)) ∧ arr'.size = arr.size ∧
      (∀ j, arr'[j]? = if o + i ≤ j ∧ j < o + i + vs.length then vs[j - (o + i)]? else arr[j]?) ∧ But w w' (some b)
  | [], o, i, arr, w, h, _, _, _ => by
    refine ⟨arr, w, rfl, h, rfl, fun j => ?_, (Same.refl w).but _⟩
    rw [if_neg (by rintro ⟨h1, h2⟩; simp at h2; omega)]
  | v :: r, o, i, arr, w, h, hs, hf, h1 => by
    simp only [List.length_cons] at hs hf
    have hv := h1 v (by simp)
    have hst : (store ((⟨b, o, none⟩ : Addr).add i) v).run P w = .ok () (w.setCell ⟨b, o + i, none⟩ v) := by
      rw [addr_add, run_store P w _ v _ (one_cell' hv), cell_cells h, frozen_cells h]
      have : (decide (lo ≤ o + i) && decide (o + i < hi)) = false := by
        have := hf (o + i) (by omega) (by omega)
        simp only [Bool.and_eq_false_iff, decide_eq_false_iff_not]
        omega
      rw [this, Array.getElem?_eq_getElem (by omega)]
      rfl
    have hb : (w.setCell ⟨b, o + i, none⟩ v).heap[b]? = some (.cells (arr.setIfInBounds (o + i) v) e (lo, hi)) := by
      simp only [World.setCell, Array.getElem?_modify, h, if_true]
      rfl
    have but : But w (w.setCell ⟨b, o + i, none⟩ v) (some b) := by
      refine ⟨fun k hk hne => ?_, by simp [World.setCell], rfl, rfl, rfl⟩
      simp only [World.setCell, Array.getElem?_modify]
      rw [if_neg (fun e => hne (by rw [e]))]
    obtain ⟨arr', w', h2, h3, h4, h5, h6⟩ := store_run P b e lo hi r o (i + 1) _ _ hb (by simp; omega) (fun j h1 h2 => hf j (by omega) (by omega)) (fun x hx => h1 x (by simp [hx]))
    refine ⟨arr', w', ?_, h3, by simpa using h4, fun j => ?_, but.trans h6⟩
    · simp only [storeCells, Sem.run_bind, hst, Result.andThen_ok]; exact h2
    · rw [h5 j]
      by_cases e0 : j = o + i
      · subst e0
        rw [if_neg (by omega), if_pos (by simp)]
        simp [show o + i < arr.size by omega]
      · rw [Array.getElem?_setIfInBounds_ne (by omega)]
        by_cases e1 : o + (i + 1) ≤ j ∧ j < o + (i + 1) + r.length
        · rw [if_pos e1, if_pos (by simp; omega)]
          obtain ⟨d, hd⟩ : ∃ d, j - (o + i) = d + 1 := ⟨j - (o + i) - 1, by omega⟩
          rw [hd, List.getElem?_cons_succ]
          congr 1
          omega
        · rw [if_neg e1, if_neg (by simp; omega)]
section
variable {X : Ctx} {I : Nat → Prop} {ρ : Rho} {h : Heap} {w : World} {P : Program}
theorem nilAs_rep (q : PV) : PRep I w (nilAs q) (.slice none 0 0) ∧ (nilAs q).sc = true := by
  unfold nilAs
  split
  · exact ⟨.ints0 _ _ _, rfl⟩
  · exact ⟨.sl0 _ _ _, rfl⟩
  · exact ⟨.nil, rfl⟩
theorem constPV_rep {q : PV} {v : Value} {p : PV} (e : constPV q v = some p) : PRep I w p v ∧ p.sc = true := by
  unfold constPV at e
  split at e <;> cases e
  · exact ⟨.int _ _, rfl⟩
  · exact ⟨.bool _, rfl⟩
  · exact ⟨.str _, rfl⟩
  · exact nilAs_rep q
theorem constsPV_rep : ∀ {qs : List PV} {vs : List Value} {ps : List PV}, constsPV qs vs = some ps → ps.length = vs.length ∧ (∀ c ∈ ps, c.sc = true) ∧ ∀ (i : Nat) (c : PV) (v : Value), ps[i]? = some c → vs[i]? = some v → PRep I w c v
  | _, [], ps, e => by
    simp only [constsPV, Option.some.injEq] at e
    subst e
    exact ⟨rfl, by simp, by simp⟩
  | _, v :: r, ps, e => by
    simp only [constsPV, Option.bind_eq_some_iff, Option.map_eq_some_iff] at e
    obtain ⟨p, hp, qs, hq, rfl⟩ := e
    obtain ⟨h1, h2, h3⟩ := constsPV_rep hq
    obtain ⟨g1, g2⟩ := constPV_rep (I := I) (w := w) hp
    refine ⟨by simp [h1], by intro c hc; rcases List.mem_cons.1 hc with rfl | hc; exact g2; exact h2 c hc, ?_⟩
    intro i c v' hc hv
    cases i with
    | zero => simp at hc hv; subst hc; subst hv; exact g1
    | succ i => exact h3 i c v' (by simpa using hc) (by simpa using hv)
theorem trOpd_rep {q : AOpd} {x : Operand} {y : AOpd} (e : trOpd q x = some y) {env : Env} {a : Act} (he : ERel I w ρ env a.tmps) : VRel I w ρ (opd env y) (a.eval x) := by
  cases x with
  | tmp t => cases e; exact he t
  | const v =>
    have key : ∀ v, (constPV q.pat v).map AOpd.c = some y → VRel I w ρ (opd env y) v := by
      intro v hv
      simp only [Option.map_eq_some_iff] at hv
      obtain ⟨p, hp, rfl⟩ := hv
      exact .pv (constPV_rep hp).1
    show VRel I w ρ (opd env y) v
    cases v with
    | agg cs =>
      simp only [trOpd, Option.map_eq_some_iff] at e
      obtain ⟨ps, hp, rfl⟩ := e
      obtain ⟨h1, h2, h3⟩ := constsPV_rep (I := I) (w := w) hp
      exact .pv (.agg ps cs (by simpa using h1) h2 fun i c v hc hv => h3 i c v hc (by simpa using hv))
    | _ => exact key _ e
  | func f => cases e; exact .pv (.fn f)
  | global g => cases e
theorem trOpds_rep {env : Env} {a : Act} (he : ERel I w ρ env a.tmps) : ∀ {qs : List AOpd} {xs : List Operand} {ys : List AOpd}, trOpds qs xs = some ys → ys.length = xs.length ∧ ∀ (i : Nat) (y : AOpd) (x : Operand), ys[i]? = some y → xs[i]? = some x → VRel I w ρ (opd env y) (a.eval x)
  | _, [], ys, e => by simp only [trOpds, Option.some.injEq] at e; subst e; exact ⟨rfl, by simp⟩
  | _, x :: r, ys, e => by
    simp only [trOpds, Option.bind_eq_some_iff, Option.map_eq_some_iff] at e
    obtain ⟨y, hy, zs, hz, rfl⟩ := e
    obtain ⟨h1, h2⟩ := trOpds_rep he hz
    refine ⟨by simp [h1], fun i y' x' hy' hx' => ?_⟩
    cases i with
    | zero => simp at hy' hx'; subst hy'; subst hx'; exact trOpd_rep hy he
    | succ i => exact h2 i y' x' (by simpa using hy') (by simpa using hx')
/-- A value of several cells, and its cells. -/
theorem cells_rep {v : AV} {x : Value} {vs : List AV} (e : v.cells = some vs) (hv : VRel I w ρ v x) :
    vs.length = x.cells.size ∧ (∀ c ∈ vs, c.sc = true) ∧ ∀ (i : Nat) (c : AV) (y : Value), vs[i]? = some c → x.cells[i]? = some y → VRel I w ρ c y := by
  have single : ∀ {c : AV}, c.sc = true → VRel I w ρ c x → vs = [c] → vs.length = x.cells.size ∧ (∀ c ∈ vs, c.sc = true) ∧ ∀ (i : Nat) (c : AV) (y : Value), vs[i]? = some c → x.cells[i]? = some y → VRel I w ρ c y := by
    intro c hc hx hvs
    subst hvs
    rw [cells_one (hx.one hc)]
    refine ⟨rfl, by simpa using hc, fun i c' y h1 h2 => ?_⟩
    cases i with
    | zero => simp at h1 h2; subst h1; subst h2; exact hx
    | succ i => simp at h1
  cases v with
  | pv p =>
    simp only [AV.cells, Option.some.injEq] at e
    subst e
    cases hv with
    | pv hp =>
      cases p with
      | agg cs =>
        cases hp with
        | agg _ vs' hl hs h =>
          refine ⟨by simp [PV.cells, Value.cells, hl], ?_, ?_⟩
          · intro c hc
            simp only [PV.cells, List.mem_map] at hc
            obtain ⟨q, hq, rfl⟩ := hc
            exact hs q hq
          · intro i c y hc hy
            simp only [PV.cells, List.getElem?_map, Option.map_eq_some_iff] at hc
            obtain ⟨q, hq, rfl⟩ := hc
            exact .pv (h i q y hq hy)
      | _ => exact single (c := .pv _) rfl (.pv hp) rfl
  | agg cs =>
    simp only [AV.cells, Option.some.injEq] at e
    subst e
    cases hv with
    | agg _ vs' hl hs h => exact ⟨by simp [Value.cells, hl], hs, fun i c y hc hy => h i c y hc hy⟩
  | ptr id off => cases e; exact single rfl hv rfl
  | row id vw => cases e; exact single rfl hv rfl
  | mapr id => cases e; exact single rfl hv rfl
  | _ => cases e
theorem pvs_rep : ∀ {cs : List AV} {ps : List PV}, pvs cs = some ps → cs = ps.map .pv
  | [], ps, e => by cases e; rfl
  | c :: r, ps, e => by
    cases c with
    | pv p =>
      simp only [pvs, Option.map_eq_some_iff] at e
      obtain ⟨qs, hq, rfl⟩ := e
      rw [List.map_cons, pvs_rep hq]
    | _ => cases e
theorem mkAgg_rep {cs : List AV} {vs : Array Value} (hl : cs.length = vs.size) (hs : ∀ c ∈ cs, c.sc = true) (hv : ∀ (i : Nat) (c : AV) (v : Value), cs[i]? = some c → vs[i]? = some v → VRel I w ρ c v) : VRel I w ρ (mkAgg cs) (.agg vs) := by
  unfold mkAgg
  split
  · rename_i ps hp
    have := pvs_rep hp
    subst this
    refine .pv (.agg ps vs (by simpa using hl) (fun c hc => hs (.pv c) (List.mem_map_of_mem hc)) fun i c v hc hv' => ?_)
    have := hv i (.pv c) v (by simp [hc]) hv'
    cases this with
    | pv h => exact h
  · exact .agg cs vs hl hs hv
/-- What an operation yields. -/
structure Out (X : Ctx) (I : Nat → Prop) (ρ : Rho) (w : World) (v : AV) (h' : Heap) (x : Value) (w' : World) : Prop where
  out : ∃ I' ρ', Ext I ρ w I' ρ' w' ∧ SRel X I' ρ' h' w' ∧ VRel I' w' ρ' v x
theorem Out.same {v : AV} {x : Value} (r : SRel X I ρ h w) (hv : VRel I w ρ v x) : Out X I ρ w v h x w := ⟨I, ρ, Ext.refl _ _ _, r, hv⟩
theorem Out.of {w1 w' : World} {I1 : Nat → Prop} {ρ1 : Rho} {v : AV} {h' : Heap} {x : Value} (e : Ext I ρ w I1 ρ1 w1) (o : Out X I1 ρ1 w1 v h' x w') : Out X I ρ w v h' x w' := by
  obtain ⟨I', ρ', e', r, hv⟩ := o
  exact ⟨I', ρ', e.trans e', r, hv⟩
theorem Ext.same {w' : World} (s : Same w w') : Ext I ρ w I ρ w' := s.ext
def Runs (P : Program) (s : Sem Value) (w : World) (x : Value) (w' : World) : Prop := s.run P w = .ok x w'
theorem run_isAgg {t : TypeId} {g : Bool} (e : isAggT P t = some g) (w : World) : (isAgg t).run P w = .ok g w := by
  simp only [isAggT, Option.map_eq_some_iff] at e
  obtain ⟨d, hd, hg⟩ := e
  subst hg
  unfold isAgg
  rw [Sem.run_bind, run_underlying hd]
  cases d <;> rfl
theorem run_sizeOf {t : TypeId} {n : Nat} (e : sizeT P t = some n) (w : World) : (sizeOf t).run P w = .ok n w := by
  simp only [sizeT, Option.map_eq_some_iff] at e
  obtain ⟨i, hi, hn⟩ := e
  subst hn
  simp [sizeOf, typeInfo, hi]
/-- A load of n cells, from where the cells hold cs. -/
theorem loadVar_run {t : TypeId} {n : Nat} {g : Bool} (hn : sizeT P t = some n) (hg : isAggT P t = some g) (b o : Nat) (vs : List Value) (hl : vs.length = n) (hc : ∀ (j : Nat) (v : Value), vs[j]? = some v → w.cell? ⟨b, o + j, none⟩ = some v) :
    (g = true → (loadVar t ⟨b, o, none⟩).run P w = .ok (.agg vs.toArray) w) ∧ (g = false → ∀ v r, vs = v :: r → (loadVar t ⟨b, o, none⟩).run P w = .ok v w) := by
  constructor
  · intro hg1
    subst hg1
    unfold loadVar
    rw [Sem.run_bind, run_isAgg hg]
    simp only [Result.andThen_ok, if_true, Sem.run_bind, run_sizeOf hn]
    rw [← hl, run_loadCells_list w _ vs (fun j v hj => by rw [addr_add]; exact hc j v hj)]
    rfl
  · intro hg1 v r hv
    subst hg1
    unfold loadVar
    rw [Sem.run_bind, run_isAgg hg]
    simp only [Result.andThen_ok, Bool.false_eq_true, if_false, run_load]
    have := hc 0 v (by rw [hv]; rfl)
    simp only [Nat.add_zero] at this
    rw [this]
/-- The cells that a list of abstract ones stands for. -/
theorem pick_cells {α : Type} {R : α → Value → Prop} {b o : Nat} : ∀ (cs : List α), (∀ (j : Nat) (c : α), cs[j]? = some c → ∃ v, w.cell? ⟨b, o + j, none⟩ = some v ∧ R c v) →
    ∃ vs : List Value, vs.length = cs.length ∧ (∀ (j : Nat) (v : Value), vs[j]? = some v → w.cell? ⟨b, o + j, none⟩ = some v) ∧ ∀ (j : Nat) (c : α) (v : Value), cs[j]? = some c → vs[j]? = some v → R c v := by
  intro cs
  induction cs generalizing o with
  | nil => intro _; exact ⟨[], rfl, by simp, by simp⟩
  | cons c r ih =>
    intro hc
    obtain ⟨v, hv, hr⟩ := hc 0 c rfl
    obtain ⟨vs, h1, h2, h3⟩ := ih (o := o + 1) (fun j c hj => by
      obtain ⟨v, hv, hr⟩ := hc (j + 1) c (by simpa using hj)
      exact ⟨v, by rw [show o + 1 + j = o + (j + 1) by omega]; exact hv, hr⟩)
    refine ⟨v :: vs, by simp [h1], ?_, ?_⟩
    · intro j v' hj
      cases j with
      | zero => simp at hj; subst hj; exact hv
      | succ j =>
        have := h2 j v' (by simpa using hj)
        rwa [show o + 1 + j = o + (j + 1) by omega] at this
    · intro j c' v' hj hj'
      cases j with
      | zero => simp at hj hj'; subst hj; subst hj'; exact hr
      | succ j => exact h3 j c' v' (by simpa using hj) (by simpa using hj')
end
end Go.Proofs.Ytkeipmkiilimeaa.V
namespace Go.Proofs.Ytkeipmkiilimeaa.V
open Go
section
variable {X : Ctx} {I : Nat → Prop} {ρ : Rho} {h : Heap} {w : World} {P : Program} {call : Call}
theorem kif_some {α : Type} {c : Prop} {i : Decidable c} {x y : Option α} {r : α} (e : @kif α c i x y = some r) : (c ∧ x = some r) ∨ (¬ c ∧ y = some r) := by
  unfold kif at e; split at e
  · exact .inl ⟨‹_›, e⟩
  · exact .inr ⟨‹_›, e⟩
theorem kb_inv {α β : Type} {x : Option α} {f : α → Option β} {r : β} (e : kb x f = some r) : ∃ a, x = some a ∧ f a = some r := Option.bind_eq_some_iff.1 e
theorem kg_inv {α β : Type} {x : Option (Option α)} {f : α → Option β} {r : β} (e : kg x f = some r) : ∃ a, x = some (some a) ∧ f a = some r := by
  unfold kg at e; split at e
  · exact ⟨_, rfl, e⟩
  · cases e
theorem kn_inv {α β : Type} {x : Option (Option α)} {y : Option β} {r : β} (e : kn x y = some r) : x = none ∧ y = some r := by
  unfold kn at e; split at e
  · exact ⟨rfl, e⟩
  · cases e
theorem chk_inv {c : Bool} {k : HP} {r : AV × Heap} (e : (chk c k).run call h = some r) : c = true ∧ k.run call h = some r := by
  rcases kif_some (show kif _ _ _ = _ from e) with ⟨hc, e⟩ | ⟨_, e⟩
  · exact ⟨hc, e⟩
  · cases e
theorem ret_inv {v : AV} {r : AV × Heap} (e : (HP.ret v).run call h = some r) : r = (v, h) := (Option.some.inj e).symm
theorem fail_inv {r : AV × Heap} (e : HP.fail.run call h = some r) : False := by cases e
theorem get_inv {id : Nat} {k : AObj → HP} {r : AV × Heap} (e : (HP.get id k).run call h = some r) : ∃ o, h id = some (some o) ∧ (k o).run call h = some r := kg_inv e
theorem put_inv {id : Nat} {o : AObj} {k : HP} {r : AV × Heap} (e : (HP.put id o k).run call h = some r) : (∃ o', h id = some (some o')) ∧ k.run call (hup h id (some (some o))) = some r := by
  obtain ⟨o', h1, h2⟩ := kg_inv e; exact ⟨⟨o', h1⟩, h2⟩
theorem new_inv {id : Nat} {o : AObj} {k : HP} {r : AV × Heap} (e : (HP.new id o k).run call h = some r) : h id = none ∧ k.run call (hup h id (some (some o))) = some r := kn_inv e
theorem del_inv {id : Nat} {k : HP} {r : AV × Heap} (e : (HP.del id k).run call h = some r) : (∃ o, h id = some (some o)) ∧ k.run call (hup h id (some none)) = some r := by
  obtain ⟨o', h1, h2⟩ := kg_inv e; exact ⟨⟨o', h1⟩, h2⟩
/-- An operation that yields a value. -/
def SOut (P : Program) (s : Sem Value) (X : Ctx) (I : Nat → Prop) (ρ : Rho) (w : World) (v : AV) (h' : Heap) : Prop := ∃ x w', s.run P w = .ok x w' ∧ Out X I ρ w v h' x w'
/-- An operation that yields nothing. -/
def UOut (P : Program) (s : Sem Unit) (X : Ctx) (I : Nat → Prop) (ρ : Rho) (w : World) (v : AV) (h' : Heap) : Prop := ∃ w', s.run P w = .ok () w' ∧ Out X I ρ w v h' undef w'
theorem SOut.now {s : Sem Value} {v : AV} {x : Value} (r : SRel X I ρ h w) (e : s.run P w = .ok x w) (hv : VRel I w ρ v x) : SOut P s X I ρ w v h := ⟨x, w, e, .same r hv⟩
theorem pick_sound {c a b : AV} {xc xa xb : Value} (r : SRel X I ρ h w) (hc : VRel I w ρ c xc) (ha : VRel I w ρ a xa) (hb : VRel I w ρ b xb) {v : AV} {h' : Heap} (e : (pickK c a b).run call h = some (v, h')) :
    SOut P (do pure (if ← asBool xc then xa else xb)) X I ρ w v h' := by
  have key : ∀ t, c = .pv (.bool t) → (Sem.run P (do pure (if ← asBool xc then xa else xb)) w) = .ok (if t then xa else xb) w := by
    intro t ht
    subst ht
    cases hc with
    | pv hp => cases hp; rfl
  have key2 : ∀ t, c = .pv (.bool t) → (HP.br t (.ret a) (.ret b)).run call h = some (v, h') → SOut P (do pure (if ← asBool xc then xa else xb)) X I ρ w v h' := by
    intro t ht hr
    have := key t ht
    rcases kif_some (show kif _ _ _ = _ from hr) with ⟨h1, h2⟩ | ⟨h1, h2⟩
    · cases ret_inv h2
      rw [if_pos h1] at this
      exact .now r this ha
    · cases ret_inv h2
      rw [if_neg h1] at this
      exact .now r this hb
  unfold pickK at e
  split at e
  · rename_i t x y
    have := key t rfl
    cases ret_inv e
    cases ha with
    | pv ha => cases hb with
      | pv hb =>
        cases ha; cases hb
        refine .now r this (.pv ?_)
        cases t <;> exact .bool _
  · exact key2 _ rfl e
  · exact (fail_inv e).elim
/-- A new block. -/
theorem push_but (w : World) (o : Obj) : But w { w with heap := w.heap.push o } (some w.heap.size) :=
  ⟨fun b hb _ => by rw [Array.getElem?_push, if_neg (by omega)], by simp, rfl, rfl, rfl⟩
theorem push_at (w : World) (o : Obj) : ({ w with heap := w.heap.push o } : World).heap[w.heap.size]? = some o := by simp
theorem free_new (X : Ctx) (I : Nat → Prop) (ρ : Rho) (h : Heap) (w : World) : Free X I ρ h w (some w.heap.size) := fun b e => by cases e; exact .inl (Nat.le_refl _)
theorem run_newRow (e : TypeId) (cs : Array Value) (w : World) : (newRow e cs).run P w = .ok ⟨w.heap.size, 0, none⟩ { w with heap := w.heap.push (.cells cs e) } := rfl
/-- A new variable. -/
theorem newVars {id : Nat} {cs : List AV} {arr : Array Value} {e : TypeId} (r : SRel X I ρ h w) (hid : h id = none) (hl : arr.size = cs.length) (hs : ∀ c ∈ cs, c.sc = true)
    (hv : ∀ (i : Nat) (c : AV) (v : Value), cs[i]? = some c → arr[i]? = some v → VRel I w ρ c v) :
    Out X I ρ w (.ptr id 0) (hup h id (some (some (.vars cs)))) (.pointer (some ⟨w.heap.size, 0, none⟩)) { w with heap := w.heap.push (.cells arr e) } := by
  have ex : Ext I ρ w I (rup ρ id (.obj w.heap.size)) { w with heap := w.heap.push (.cells arr e) } := r.butExt hid (free_new X I ρ h w) (push_but w _)
  refine ⟨I, rup ρ id (.obj w.heap.size), ex, r.add hid (free_new X I ρ h w) (push_but w _) rfl ?_, .ptr (rup_same _ _ _)⟩
  exact ⟨w.heap.size, arr, e, rup_same _ _ _, push_at w _, hl, hs, fun i c v hc hx => (hv i c v hc hx).ext ex⟩
theorem zero_run {qs : List PV} {t : TypeId} {ps : List PV} (e : zeroPV P qs t = some ps) : ∃ z, (∀ w, (zeroValue t).run P w = .ok z w) ∧ z.cells.size = ps.length ∧ (sizeT P t = some z.cells.size) ∧ (∀ c ∈ ps, c.sc = true) ∧ ∀ I w (i : Nat) (c : PV) (v : Value), ps[i]? = some c → z.cells[i]? = some v → PRep I w c v := by
  simp only [zeroPV, Option.bind_eq_some_iff] at e
  obtain ⟨i, hi, z, hz, e⟩ := e
  split at e
  · rename_i hsz
    have c := fun I w => constsPV_rep (I := I) (w := w) e
    refine ⟨z, fun w => by simp [zeroValue, typeInfo, hi, hz], ?_, by simp [sizeT, hi, hsz], (c (fun _ => True) default).2.1, fun I w i c' v h1 h2 => (c I w).2.2 i c' v h1 (by simpa using h2)⟩
    have := (c (fun _ => True) default).1
    simpa using this.symm
  · cases e
theorem alloc_sound {qs : List PV} {t : TypeId} {ps : List PV} (ht : zeroPV P qs t = some ps) (r : SRel X I ρ h w) {d : Nat} {v : AV} {h' : Heap} (e : (HP.new d (.vars (ps.map .pv)) (.ret (.ptr d 0))).run call h = some (v, h')) :
    SOut P (Instr.alloc t true (.tuple #[])) X I ρ w v h' := by
  obtain ⟨hid, e⟩ := new_inv e
  cases ret_inv e
  obtain ⟨z, h1, h2, _, h3, h4⟩ := zero_run ht
  refine ⟨_, _, ?_, newVars (arr := z.cells) (e := t) r hid (by simpa using h2) ?_ ?_⟩
  · simp only [Instr.alloc, Sem.run_bind, h1, Result.andThen_ok, newVar, run_newRow]
    rfl
  · intro c hc
    simp only [List.mem_map] at hc
    obtain ⟨q, hq, rfl⟩ := hc
    exact h3 q hq
  · intro i c v hc hv
    simp only [List.getElem?_map, Option.map_eq_some_iff] at hc
    obtain ⟨q, hq, rfl⟩ := hc
    exact .pv (h4 I w i q v hq hv)
theorem box_sound {t : TypeId} {x : AV} {xv : Value} (r : SRel X I ρ h w) (hx : VRel I w ρ x xv) {d : Nat} {v : AV} {h' : Heap} (e : (boxK d x.cells).run call h = some (v, h')) :
    SOut P (Instr.box t xv) X I ρ w v h' := by
  unfold boxK at e
  split at e
  · rename_i cs hc
    obtain ⟨hid, e⟩ := new_inv e
    cases ret_inv e
    obtain ⟨h1, h2, h3⟩ := cells_rep hc hx
    exact ⟨_, _, rfl, newVars (arr := xv.cells) (e := t) r hid h1.symm h2 h3⟩
  · exact (fail_inv e).elim
/-- A value that is read; nothing changes. -/
def NOut (P : Program) (s : Sem Value) (I : Nat → Prop) (ρ : Rho) (w : World) (v : AV) (h h' : Heap) : Prop := h' = h ∧ ∃ x, s.run P w = .ok x w ∧ VRel I w ρ v x
theorem NOut.now {s : Sem Value} {v : AV} {x : Value} (e : s.run P w = .ok x w) (hv : VRel I w ρ v x) : NOut P s I ρ w v h h := ⟨rfl, x, e, hv⟩
theorem retG_sound {t : TypeId} {n : Nat} {g : Bool} (hn : sizeT P t = some n) (hg : isAggT P t = some g) (hgn : g = true ∨ n = 1) {cs : List PV} {b o : Nat} (hs : ∀ c ∈ cs, c.sc = true)
    (hc : ∀ (j : Nat) (c : PV), cs[j]? = some c → ∃ v, w.cell? ⟨b, o + j, none⟩ = some v ∧ PRep I w c v) {v : AV} {h' : Heap} (e : (retG n cs g).run call h = some (v, h')) :
    NOut P (loadVar t ⟨b, o, none⟩) I ρ w v h h' := by
  obtain ⟨vs, h1, h2, h3⟩ := pick_cells cs hc
  cases g with
  | true =>
    obtain ⟨hle, e⟩ := chk_inv e
    cases ret_inv e
    have hle : n ≤ cs.length := by simpa using hle
    refine .now ((loadVar_run hn hg b o (vs.take n) (by simp [h1, hle]) fun j v hj => ?_).1 rfl) (.pv (.agg _ _ (by simp [h1]) (fun c hc => hs c (List.mem_of_mem_take hc)) fun i c v hc hv => ?_))
    · rw [List.getElem?_take] at hj
      split at hj
      · exact h2 j v hj
      · cases hj
    · rw [List.getElem?_take] at hc
      simp only [List.getElem?_toArray, List.getElem?_take] at hv
      split at hc
      · rw [if_pos ‹_›] at hv; exact h3 i c v hc hv
      · cases hc
  | false =>
    have hn1 : n = 1 := by rcases hgn with h | h; cases h; exact h
    cases cs with
    | nil => exact (fail_inv e).elim
    | cons c r' =>
      cases ret_inv e
      cases vs with
      | nil => simp at h1
      | cons y ys =>
        refine .now ((loadVar_run hn hg b o [y] (by simp [hn1]) fun j v hj => ?_).2 rfl y [] rfl) (.pv (h3 0 c y rfl rfl))
        cases j with
        | zero => exact h2 0 v (by simpa using hj)
        | succ j => simp at hj
theorem retV_sound {t : TypeId} {n : Nat} {g : Bool} (hn : sizeT P t = some n) (hg : isAggT P t = some g) (hgn : g = true ∨ n = 1) {cs : List AV} {b off : Nat} (hs : ∀ c ∈ cs, c.sc = true)
    (hc : ∀ (j : Nat) (c : AV), cs[j]? = some c → ∃ v, w.cell? ⟨b, 0 + j, none⟩ = some v ∧ VRel I w ρ c v) {v : AV} {h' : Heap} (e : (retV n off cs g).run call h = some (v, h')) :
    NOut P (loadVar t ⟨b, off, none⟩) I ρ w v h h' := by
  obtain ⟨vs, h1, h2, h3⟩ := pick_cells cs hc
  simp only [Nat.zero_add] at h2
  cases g with
  | true =>
    obtain ⟨hle, e⟩ := chk_inv e
    cases ret_inv e
    have hle : off + n ≤ cs.length := by simpa using hle
    refine .now ((loadVar_run hn hg b off ((vs.drop off).take n) (by simp [h1]; omega) fun j v hj => ?_).1 rfl) (mkAgg_rep (by simp [h1]) (fun c hc => hs c (List.mem_of_mem_drop (List.mem_of_mem_take hc))) fun i c v hc hv => ?_)
    · rw [List.getElem?_take] at hj
      split at hj
      · rw [List.getElem?_drop] at hj; exact h2 (off + j) v hj
      · cases hj
    · rw [List.getElem?_take] at hc
      simp only [List.getElem?_toArray, List.getElem?_take] at hv
      split at hc
      · rw [if_pos ‹_›] at hv
        rw [List.getElem?_drop] at hc hv
        exact h3 _ c v hc hv
      · cases hc
  | false =>
    have hn1 : n = 1 := by rcases hgn with h | h; cases h; exact h
    replace e : (match cs.drop off with | v :: _ => HP.ret v | [] => HP.fail).run call h = some (v, h') := e
    generalize hd : cs.drop off = ds at e
    cases ds with
    | nil => exact (fail_inv e).elim
    | cons c r' =>
      have hoff : cs[off]? = some c := by
        have := congrArg (fun l => l[0]?) hd
        simpa using this
      obtain ⟨y, hy, hr⟩ := hc off c hoff
      simp only [Nat.zero_add] at hy
      cases ret_inv e
      refine .now ((loadVar_run hn hg b off [y] (by simp [hn1]) fun j v hj => ?_).2 rfl y [] rfl) hr
      cases j with
      | zero => simp at hj; subst hj; exact hy
      | succ j => simp at hj
/-- The cells of a variable. -/
theorem vars_cells {id b : Nat} {cs : List AV} (r : SRel X I ρ h w) (hid : h id = some (some (.vars cs))) (hρ : ρ id = some (.obj b)) :
    (∀ c ∈ cs, c.sc = true) ∧ ∀ (j : Nat) (c : AV), cs[j]? = some c → ∃ v, w.cell? ⟨b, 0 + j, none⟩ = some v ∧ VRel I w ρ c v := by
  obtain ⟨b', arr, e, h1, h2, h3, h4, h5⟩ := r.objs id _ hid
  rw [hρ] at h1; cases h1
  refine ⟨h4, fun j c hj => ?_⟩
  have hlt : j < arr.size := by rw [h3]; exact (List.getElem?_eq_some_iff.1 hj).1
  refine ⟨arr[j], ?_, h5 j c _ hj (Array.getElem?_eq_getElem hlt)⟩
  rw [Nat.zero_add, cell_cells h2, Array.getElem?_eq_getElem hlt]
/-- The cells of an element of a row. -/
theorem row_cells {id b base n cap len : Nat} {c : PV} {m : Bool} (r : SRel X I ρ h w) (hid : h id = some (some (.row c m))) (hρ : ρ id = some (.row b base n cap len)) {i : Nat} (hi : i < c.len) :
    c.esz n = true ∧ c.len = len ∧ (∀ q ∈ (c.get i).cells, q.sc = true) ∧ (c.get i).cells.length = n ∧ ∀ (j : Nat) (q : PV), (c.get i).cells[j]? = some q → ∃ v, w.cell? ⟨b, base + i * n + j, none⟩ = some v ∧ PRep I w q v := by
  rcases r.objs id _ hid with ⟨h1, _⟩ | ⟨b', base', n', cap', arr, e, lo, hi', h1, h2, h3, h4, h5, h6, h7, h8⟩
  · rw [hρ] at h1; cases h1
  · rw [hρ] at h1; cases h1
    refine ⟨h5, rfl, ?_⟩
    cases c with
    | ints k l =>
      simp only [PV.len] at hi
      have hn1 : n = 1 := by simpa [PV.esz] using h5
      refine ⟨by simp [PV.get, PV.cells, PV.sc], by simp [PV.get, PV.cells, hn1], fun j q hj => ?_⟩
      cases j with
      | zero =>
        simp [PV.get, PV.cells] at hj
        subst hj
        refine ⟨_, ?_, .int k _⟩
        have := h6 i l[i] (List.getElem?_eq_getElem hi)
        rw [hn1, Nat.mul_one, Nat.add_zero, this]
        simp [List.getElem?_eq_getElem hi]
      | succ j => simp [PV.get, PV.cells] at hj
    | sl n' xs =>
      simp only [PV.len] at hi
      have hn1 : n' = n := by simpa [PV.esz] using h5
      subst hn1
      have hx : xs[i]? = some xs[i] := List.getElem?_eq_getElem hi
      have hget : (PV.sl n' xs).get i = xs[i] := by simp [PV.get, List.getD, hx]
      rw [hget]
      obtain ⟨g1, g2⟩ := h6.1 _ (List.getElem_mem hi)
      exact ⟨g2, g1, fun j q hj => h6.2 i _ j q hx hj⟩
    | _ => simp [PV.len] at hi
theorem load_now {t : TypeId} {n : Nat} {g : Bool} (hn : sizeT P t = some n) (hg : isAggT P t = some g) (hgn : g = true ∨ n = 1) {x : AV} {xv : Value} (r : SRel X I ρ h w) (hx : VRel I w ρ x xv) {v : AV} {h' : Heap}
    (e : (loadK n g x).run call h = some (v, h')) : NOut P (Instr.loadAt t xv) I ρ w v h h' := by
  have key : ∀ b o, NOut P (loadVar t ⟨b, o, none⟩) I ρ w v h h' → NOut P (Instr.loadAt t (.pointer (some ⟨b, o, none⟩))) I ρ w v h h' := fun b o ⟨h0, x, h1, h2⟩ => ⟨h0, x, h1, h2⟩
  unfold loadK at e
  split at e
  · rename_i id off
    obtain ⟨o, hid, e⟩ := get_inv e
    cases hx with
    | ptr hρ =>
      unfold loadVars at e
      split at e
      · rename_i cs
        obtain ⟨hs, hc⟩ := vars_cells r hid hρ
        exact key _ _ (retV_sound hn hg hgn hs hc e)
      · exact (fail_inv e).elim
  · rename_i cs
    cases hx with
    | cell _ b off hI hs hc => exact key _ _ (retG_sound hn hg hgn hs hc e)
  · rename_i id idx off
    obtain ⟨o, hid, e⟩ := get_inv e
    cases hx with
    | elem hρ =>
      rename_i b base n' cap len
      unfold loadElem at e
      split at e
      · rename_i c m
        obtain ⟨hlt, e⟩ := chk_inv e
        obtain ⟨_, _, hs, hl, hc⟩ := row_cells r hid hρ (i := idx) (by simpa using hlt)
        refine key _ _ (retG_sound hn hg hgn (fun c hc => hs c (List.mem_of_mem_drop hc)) (fun j q hj => ?_) e)
        rw [List.getElem?_drop] at hj
        obtain ⟨v, hv, hp⟩ := hc (off + j) q hj
        exact ⟨v, by rw [← hv]; congr 2; omega, hp⟩
      · exact (fail_inv e).elim
  · exact (fail_inv e).elim
theorem load_sound {t : TypeId} {n : Nat} {g : Bool} (hn : sizeT P t = some n) (hg : isAggT P t = some g) (hgn : g = true ∨ n = 1) {x : AV} {xv : Value} (r : SRel X I ρ h w) (hx : VRel I w ρ x xv) {v : AV} {h' : Heap}
    (e : (loadK n g x).run call h = some (v, h')) : SOut P (Instr.loadAt t xv) X I ρ w v h' := by
  obtain ⟨rfl, y, h1, h2⟩ := load_now hn hg hgn r hx e
  exact .now r h1 h2
end
end Go.Proofs.Ytkeipmkiilimeaa.V
namespace Go.Proofs.Ytkeipmkiilimeaa.V
open Go
section
variable {X : Ctx} {I : Nat → Prop} {ρ : Rho} {h : Heap} {w : World} {P : Program} {call : Call}
def Iadds (I : Nat → Prop) (ρ : Rho) (ids : List Nat) : Nat → Prop := fun b => I b ∨ ∃ id ∈ ids, (ρ id).bind RL.blk = some b
theorem Iadds.ext (ids : List Nat) : Ext I ρ w (Iadds I ρ ids) ρ w := ⟨fun _ h => .inl h, fun _ _ h => h, fun _ _ => rfl⟩
theorem Iadds.mono {ids ids' : List Nat} (hs : ∀ i ∈ ids, i ∈ ids') (b : Nat) (hb : Iadds I ρ ids b) : Iadds I ρ ids' b := hb.imp id fun ⟨i, h1, h2⟩ => ⟨i, hs i h1, h2⟩
theorem PRep.iadds {ids ids' : List Nat} (hs : ∀ i ∈ ids, i ∈ ids') {p : PV} {v : Value} (hp : PRep (Iadds I ρ ids) w p v) : PRep (Iadds I ρ ids') w p v := hp.mono (Iadds.mono hs) fun _ _ => rfl
theorem PV.len_sub {c : PV} {o l : Nat} (hs : c.isSlice = true) (hl : o + l ≤ c.len) : (c.sub o (o + l)).len = l := by
  cases c with
  | ints k l' => simp [PV.sub, PV.len] at *; omega
  | sl n xs => simp [PV.sub, PV.len] at *; omega
  | nil => simp [PV.sub, PV.len] at *; omega
  | _ => cases hs
theorem PV.isSlice_sub {c : PV} {o l : Nat} (hs : c.isSlice = true) : (c.sub o l).isSlice = true := by
  cases c <;> first | rfl | cases hs
theorem PV.esz_slice {c : PV} {n : Nat} (hs : c.esz n = true) : c.isSlice = true := by
  cases c <;> first | rfl | cases hs
theorem PV.esz_sub {c : PV} {n o l : Nat} (hs : c.esz n = true) : (c.sub o l).esz n = true := by
  cases c <;> first | exact hs | cases hs
/-- An empty list, at any slice of no length. -/
theorem prep_empty {c : PV} (hs : c.isSlice = true) (hn : c ≠ .nil) (hl : c.len = 0) (a : Option Addr) (cap : Nat) : PRep I w c (.slice a 0 cap) := by
  cases c with
  | ints k l => simp [PV.len] at hl; subst hl; exact .ints0 k a cap
  | sl n xs => simp [PV.len] at hl; subst hl; exact .sl0 n a cap
  | nil => exact absurd rfl hn
  | _ => cases hs
theorem prep_empty_nil {c : PV} (hs : c.isSlice = true) (hl : c.len = 0) : PRep I w c (.slice none 0 0) := by
  by_cases hn : c = .nil
  · subst hn; exact .nil
  · exact prep_empty hs hn hl _ _
theorem ContRep.sub {b base n : Nat} {c : PV} (hn : c.esz n = true) (hc : ContRep I w b base c) (o l : Nat) (hl : o + l ≤ c.len) : ContRep I w b (base + o * n) (c.sub o (o + l)) := by
  cases c with
  | ints k xs =>
    have hn1 : n = 1 := by simpa [PV.esz] using hn
    subst hn1
    intro i x hx
    simp only [PV.len] at hl
    rw [List.getElem?_take] at hx
    split at hx
    · rw [List.getElem?_drop] at hx
      have := hc (o + i) x hx
      rw [Nat.mul_one, show base + o + i = base + (o + i) by omega]; exact this
    · cases hx
  | sl n' xs =>
    have hn1 : n' = n := by simpa [PV.esz] using hn
    subst hn1
    refine ⟨fun x hx => hc.1 x (List.mem_of_mem_drop (List.mem_of_mem_take hx)), fun i x j q hx hq => ?_⟩
    rw [List.getElem?_take] at hx
    split at hx
    · rw [List.getElem?_drop] at hx
      obtain ⟨v, hv, hp⟩ := hc.2 (o + i) x j q hx hq
      refine ⟨v, ?_, hp⟩
      rw [← hv]; congr 2
      rw [Nat.add_mul]; omega
    · cases hx
  | nil => exact hc.elim
  | _ => cases hn
theorem ContRep.notNil {b base : Nat} {c : PV} (hc : ContRep I w b base c) : c ≠ .nil := by rintro rfl; exact hc
/-- A row, or a part of one, read as a plain value. -/
theorem row_view {id : Nat} {vw : Option (Nat × Nat)} {c : PV} {m : Bool} {x : Value} (r : SRel X I ρ h w) (hid : h id = some (some (.row c m))) (hx : VRel I w ρ (.row id vw) x) : PRep (Iadd I ρ id) w (viewOf c vw) x ∧ (m = false → PRep I w (viewOf c vw) x) ∧ c.isSlice = true := by
  rcases r.objs id _ hid with ⟨h1, h2, h3⟩ | ⟨b, base, n, cap, arr, e, lo, hi, h1, h2, h3, h4, h5, h6, h7, h8⟩
  · have key : ∀ J : Nat → Prop, PRep J w (viewOf c vw) x := by
      intro J
      cases hx with
      | row0 _ => exact prep_empty_nil h3 h2
      | row hρ _ => rw [h1] at hρ; cases hρ
      | view0 _ =>
        have hl : (c.sub 0 (0 + 0)).len = 0 := PV.len_sub h3 (by omega)
        exact prep_empty_nil (PV.isSlice_sub h3) hl
      | view hρ _ _ _ => rw [h1] at hρ; cases hρ
    exact ⟨key _, fun _ => key _, h3⟩
  · have key : ∀ J : Nat → Prop, (∀ b, I b → J b) → J b → PRep J w (viewOf c vw) x := by
      intro J hJ hb
      have hc : ContRep J w b base c := h6.mono hJ (fun _ _ => rfl) rfl
      cases hx with
      | row0 hρ => rw [h1] at hρ; cases hρ
      | row hρ _ => rw [h1] at hρ; cases hρ; exact prep_slice hb h4 hc
      | view0 hρ => rw [h1] at hρ; cases hρ
      | view hρ hl hcap ha =>
        rename_i b' base' n' cap' len' o l capx a
        rw [h1] at hρ; cases hρ
        have hlen : (c.sub o (o + l)).len = l := PV.len_sub (PV.esz_slice h5) hl
        have hsub := hc.sub h5 o l hl
        obtain ⟨o', rfl, _, rfl | ⟨rfl, rfl⟩⟩ := ha
        · have := prep_slice (cap := capx) hb (by rw [hlen]; exact hcap) hsub
          rw [hlen] at this
          exact this
        · exact prep_empty (PV.isSlice_sub (PV.esz_slice h5)) hsub.notNil hlen _ _
    exact ⟨key _ (fun _ h => .inl h) (.inr (by rw [h1]; rfl)), fun hm => key _ (fun _ h => h) (h8 hm), PV.esz_slice h5⟩
/-- These rows live, and are written still. -/
def Lent (h : Heap) (ids : List Nat) : Prop := ∀ id ∈ ids, ∃ c, h id = some (some (.row c true))
theorem isSlice_sc {c : PV} (hs : c.isSlice = true) : c.sc = true := by cases c <;> first | rfl | cases hs
theorem frz1_sound {v : AV} {x : Value} {k : PV → List Nat → HP} {r : AV × Heap} (s : SRel X I ρ h w) (hv : VRel I w ρ v x) (e : (frz1K v k).run call h = some r) :
    ∃ p ids, (k p ids).run call h = some r ∧ (v.sc = true → p.sc = true) ∧ Lent h ids ∧ PRep (Iadds I ρ ids) w p x := by
  unfold frz1K at e
  split at e
  · rename_i p
    cases hv with
    | pv hp => exact ⟨p, [], e, id, by simp [Lent], hp.ext (Iadds.ext [])⟩
  · rename_i id vw
    obtain ⟨o, hid, e⟩ := get_inv e
    split at e
    · rename_i c m
      obtain ⟨h1, h2, h3⟩ := row_view s hid hv
      have hsc : (viewOf c vw).sc = true := by
        cases vw with
        | none => exact isSlice_sc h3
        | some q => exact isSlice_sc (PV.isSlice_sub h3)
      cases m with
      | true => exact ⟨_, [id], e, fun _ => hsc, fun i hi => by simp at hi; subst hi; exact ⟨c, hid⟩, h1.mono (fun b hb => hb.imp (fun h => h) fun hb => ⟨id, by simp, hb⟩) fun _ _ => rfl⟩
      | false => exact ⟨_, [], e, fun _ => hsc, by simp [Lent], (h2 rfl).ext (Iadds.ext [])⟩
    · exact (fail_inv e).elim
  · exact (fail_inv e).elim
theorem frzs_sound : ∀ {vs : List AV} {xs : List Value} {k : List PV → List Nat → HP} {r : AV × Heap} (_ : SRel X I ρ h w) (_ : vs.length = xs.length) (_ : ∀ c ∈ vs, c.sc = true) (_ : ∀ (i : Nat) (c : AV) (x : Value), vs[i]? = some c → xs[i]? = some x → VRel I w ρ c x) (_ : (frzsK vs k).run call h = some r),
    ∃ ps ids, (k ps ids).run call h = some r ∧ ps.length = xs.length ∧ (∀ p ∈ ps, p.sc = true) ∧ Lent h ids ∧ ∀ (i : Nat) (p : PV) (x : Value), ps[i]? = some p → xs[i]? = some x → PRep (Iadds I ρ ids) w p x
  | [], xs, k, r, s, hl, _, _, e => ⟨[], [], e, hl, by simp, by simp [Lent], by simp⟩
  | v :: vs, xs, k, r, s, hl, hs, hv, e => by
    cases xs with
    | nil => simp at hl
    | cons x xs =>
      obtain ⟨p, ids, e, h1, h2, h3⟩ := frz1_sound s (hv 0 v x rfl rfl) e
      obtain ⟨ps, ids', e, g1, g2, g3, g4⟩ := frzs_sound s (by simpa using hl) (fun c hc => hs c (by simp [hc])) (fun i c x hc hx => hv (i + 1) c x (by simpa using hc) (by simpa using hx)) e
      refine ⟨p :: ps, ids ++ ids', e, by simp [g1], ?_, ?_, ?_⟩
      · intro q hq
        rcases List.mem_cons.1 hq with rfl | hq
        · exact h1 (hs v (by simp))
        · exact g2 q hq
      · intro i hi
        rcases List.mem_append.1 hi with hi | hi
        · exact h2 i hi
        · exact g3 i hi
      · intro i q y hq hy
        cases i with
        | zero => simp at hq hy; subst hq; subst hy; exact h3.iadds fun i hi => by simp [hi]
        | succ i => exact (g4 i q y (by simpa using hq) (by simpa using hy)).iadds fun i hi => by simp [hi]
theorem frz_sound {v : AV} {x : Value} {k : PV → List Nat → HP} {r : AV × Heap} (s : SRel X I ρ h w) (hv : VRel I w ρ v x) (e : (frzK v k).run call h = some r) :
    ∃ p ids, (k p ids).run call h = some r ∧ Lent h ids ∧ PRep (Iadds I ρ ids) w p x := by
  unfold frzK at e
  split at e
  · rename_i cs
    cases hv with
    | agg _ vs hl hs hc =>
      obtain ⟨ps, ids, e, h1, h2, h3, h4⟩ := frzs_sound s (xs := vs.toList) (by simpa using hl) hs (fun i c x h1 h2 => hc i c x h1 (by simpa using h2)) e
      exact ⟨_, ids, e, h3, .agg ps vs (by simpa using h1) h2 fun i c v hc hv => h4 i c v hc (by simpa using hv)⟩
  · obtain ⟨p, ids, e, _, h2, h3⟩ := frz1_sound s hv e
    exact ⟨p, ids, e, h2, h3⟩
/-- Rows shut. -/
theorem shut_sound : ∀ {ids : List Nat} {k : HP} {r : AV × Heap} {I : Nat → Prop} {h : Heap} (_ : SRel X I ρ h w) (_ : (shutK ids k).run call h = some r),
    ∃ I' h1, k.run call h1 = some r ∧ SRel X I' ρ h1 w ∧ Ext I ρ w I' ρ w ∧ (∀ b, Iadds I ρ ids b → I' b) ∧ (∀ j, j ∉ ids → h1 j = h j)
  | [], k, r, I, h, s, e => ⟨I, h, e, s, Ext.refl _ _ _, fun b hb => hb.elim id fun ⟨i, hi, _⟩ => by simp at hi, fun _ _ => rfl⟩
  | id :: ids, k, r, I, h, s, e => by
    obtain ⟨o, hid, e⟩ := get_inv e
    split at e
    · rename_i c m
      obtain ⟨_, e⟩ := put_inv e
      obtain ⟨I', h1, e, s', x, hb, hj⟩ := shut_sound (s.shut hid) e
      refine ⟨I', h1, e, s', (Iadd.ext id).trans x, fun b hb' => hb b ?_, fun j hj' => ?_⟩
      · rcases hb' with hb' | ⟨i, hi, hb'⟩
        · exact .inl (.inl hb')
        · rcases List.mem_cons.1 hi with rfl | hi
          · exact .inl (.inr hb')
          · exact .inr ⟨i, hi, hb'⟩
      · rw [hj j (fun h => hj' (by simp [h])), hup_ne (fun e => hj' (by simp [e]))]
    · exact (fail_inv e).elim
theorem setCells_get {α : Type} {l vs : List α} {off : Nat} (hl : off + vs.length ≤ l.length) (i : Nat) : (setCells l off vs)[i]? = if off ≤ i ∧ i < off + vs.length then vs[i - off]? else l[i]? := by
  unfold setCells
  by_cases h1 : i < off
  · rw [if_neg (by omega), List.append_assoc, List.getElem?_append_left (by simp; omega), List.getElem?_take, if_pos h1]
  · by_cases h2 : i < off + vs.length
    · rw [if_pos (by omega), List.append_assoc, List.getElem?_append_right (by simp; omega), List.getElem?_append_left (by simp; omega)]
      congr 1
      simp
      omega
    · rw [if_neg (by omega), List.getElem?_append_right (by simp; omega), List.getElem?_drop]
      congr 1
      simp
      omega
theorem setCells_length {α : Type} {l vs : List α} {off : Nat} (hl : off + vs.length ≤ l.length) : (setCells l off vs).length = l.length := by
  unfold setCells; simp; omega
theorem setCells_mem {α : Type} {l vs : List α} {off : Nat} {x : α} (hx : x ∈ setCells l off vs) : x ∈ l ∨ x ∈ vs := by
  unfold setCells at hx
  rcases List.mem_append.1 hx with hx | hx
  · rcases List.mem_append.1 hx with hx | hx
    · exact .inl (List.mem_of_mem_take hx)
    · exact .inr hx
  · exact .inl (List.mem_of_mem_drop hx)
theorem storeVar_run {t : TypeId} {n : Nat} (hn : sizeT P t = some n) {b o : Nat} {x : Value} {arr : Array Value} {e : TypeId} {lo hi : Nat} (hx : x.cells.size = n) (hb : w.heap[b]? = some (.cells arr e (lo, hi))) (hs : o + n ≤ arr.size)
    (hf : ∀ j, j < arr.size → ¬ (lo ≤ j ∧ j < hi)) (h1 : ∀ v ∈ x.cells.toList, Value.one v = true) :
    ∃ arr' w', (storeVar t ⟨b, o, none⟩ x).run P w = .ok () w' ∧ w'.heap[b]? = some (.cells arr' e (lo, hi)) ∧ arr'.size = arr.size ∧ (∀ j, arr'[j]? = if o ≤ j ∧ j < o + n then x.cells[j - o]? else arr[j]?) ∧ But w w' (some b) := by
  obtain ⟨arr', w', h2, h3, h4, h5, h6⟩ := store_run P b e lo hi x.cells.toList o 0 arr w hb (by simpa [hx] using hs) (fun j g1 g2 => hf j (by simp [hx] at g2; omega)) h1
  refine ⟨arr', w', ?_, h3, h4, fun j => ?_, h6⟩
  · unfold storeVar
    simp only [Sem.run_bind, run_sizeOf hn, Result.andThen_ok, hx, ne_eq, not_true_eq_false, if_false]
    exact h2
  · rw [h5 j]
    simp [hx]
theorem storePtr_sound {t : TypeId} {n : Nat} (hn : sizeT P t = some n) {id off : Nat} {x : AV} {xa xv : Value} (r : SRel X I ρ h w) (ha : VRel I w ρ (.ptr id off) xa) (hx : VRel I w ρ x xv) {v : AV} {h' : Heap}
    (e : (storePtr id n off x.cells).run call h = some (v, h')) : UOut P (Instr.storeAt t xa xv) X I ρ w v h' := by
  unfold storePtr at e
  split at e
  · rename_i vs hvs
    obtain ⟨o, hid, e⟩ := get_inv e
    unfold storeVars at e
    split at e
    · rename_i cs
      obtain ⟨hl, e⟩ := chk_inv e
      obtain ⟨hle, e⟩ := chk_inv e
      obtain ⟨_, e⟩ := put_inv e
      cases ret_inv e
      have hl : vs.length = n := by simpa using hl
      have hle : off + n ≤ cs.length := by simpa using hle
      obtain ⟨c1, c2, c3⟩ := cells_rep hvs hx
      cases ha with
      | ptr hρ =>
        rename_i b
        obtain ⟨b', arr, et, g1, g2, g3, g4, g5⟩ := r.objs id _ hid
        rw [hρ] at g1; cases g1
        have hone : ∀ y ∈ xv.cells.toList, Value.one y = true := by
          intro y hy
          obtain ⟨i, hi⟩ := List.mem_iff_getElem?.1 hy
          have hlt : i < vs.length := by rw [c1]; have := (List.getElem?_eq_some_iff.1 hi).1; simpa using this
          exact (c3 i vs[i] y (List.getElem?_eq_getElem hlt) (by simpa using hi)).one (c2 _ (List.getElem_mem hlt))
        obtain ⟨arr', w', k1, k2, k3, k4, k5⟩ := storeVar_run (w := w) hn (o := off) (c1.symm.trans hl) g2 (by omega) (fun j _ => by omega) hone
        have ex : Ext I ρ w I ρ w' := ⟨fun _ h => h, fun _ _ h => h, fun b' hb' => k5.heap b' (r.inI b' hb').1 fun e => (r.muts id _ b hid rfl (by rw [hρ]; rfl)).1 (by cases e; exact hb')⟩
        obtain ⟨s, _⟩ := r.put (w' := w') (o' := .vars (setCells cs off vs)) hid rfl rfl (by rw [hρ]; exact k5)
          ⟨b, arr', et, hρ, k2, by rw [k3, g3, setCells_length (by omega)], fun c hc => (setCells_mem hc).elim (g4 c) (c2 c), fun i c y hc hy => by
            rw [setCells_get (by omega)] at hc
            rw [k4 i] at hy
            rw [hl] at hc
            split at hc
            · rw [if_pos ‹_›] at hy; exact (c3 _ c y hc hy).ext ex
            · rw [if_neg ‹_›] at hy; exact (g5 i c y hc hy).ext ex⟩
        exact ⟨w', k1, I, ρ, ex, s, .und⟩
    · exact (fail_inv e).elim
  · exact (fail_inv e).elim
end
end Go.Proofs.Ytkeipmkiilimeaa.V
namespace Go.Proofs.Ytkeipmkiilimeaa.V
open Go
/-- The cells of a list's elements. -/
def ContG (I : Nat → Prop) (w : World) (b base n : Nat) (c : PV) : Prop :=
  ∀ i, i < c.len → (c.get i).cells.length = n ∧ (∀ q ∈ (c.get i).cells, q.sc = true) ∧ ∀ (j : Nat) (q : PV), (c.get i).cells[j]? = some q → ∃ v, w.cell? ⟨b, base + i * n + j, none⟩ = some v ∧ PRep I w q v
def PV.real : PV → Bool
  | .ints _ _ | .sl _ _ => true
  | _ => false
theorem PV.esz_ints {k : IntKind} {l : List Int} {n : Nat} (h : (PV.ints k l).esz n = true) : n = 1 := by simpa [PV.esz] using h
theorem PV.esz_sl {m : Nat} {xs : List PV} {n : Nat} (h : (PV.sl m xs).esz n = true) : m = n := by simpa [PV.esz] using h
theorem PV.get_ints {k : IntKind} {l : List Int} {i : Nat} (h : i < l.length) : (PV.ints k l).get i = .int k l[i] := by simp [PV.get, List.getElem?_eq_getElem h]
theorem PV.get_sl {m : Nat} {xs : List PV} {i : Nat} (h : i < xs.length) : (PV.sl m xs).get i = xs[i] := by simp [PV.get, List.getElem?_eq_getElem h]
theorem PRep.int_inv {I : Nat → Prop} {w : World} {k : IntKind} {n : Int} {v : Value} (h : PRep I w (.int k n) v) : v = .int k n := by cases h; rfl
theorem PV.real_slice {c : PV} (h : c.real = true) : c.isSlice = true := by cases c <;> first | rfl | cases h
theorem PV.real_of {c : PV} {n : Nat} (h : c.esz n = true) (hn : c ≠ .nil) : c.real = true := by
  cases c with
  | nil => exact absurd rfl hn
  | ints _ _ => rfl
  | sl _ _ => rfl
  | _ => cases h
section
variable {X : Ctx} {I : Nat → Prop} {ρ : Rho} {h : Heap} {w : World} {P : Program} {call : Call}
theorem ContRep.real {b base : Nat} {c : PV} (hc : ContRep I w b base c) : c.real = true := by cases c <;> first | rfl | exact hc.elim
theorem ContG.of {b base n : Nat} {c : PV} (he : c.esz n = true) (hc : ContRep I w b base c) : ContG I w b base n c := by
  intro i hi
  cases c with
  | ints k l =>
    have := PV.esz_ints he; subst this
    rw [PV.get_ints hi]
    refine ⟨rfl, by simp [PV.cells, PV.sc], fun j q hj => ?_⟩
    cases j with
    | zero =>
      simp [PV.cells] at hj; subst hj
      exact ⟨_, by rw [Nat.mul_one, Nat.add_zero]; exact hc i _ (List.getElem?_eq_getElem hi), .int _ _⟩
    | succ j => simp [PV.cells] at hj
  | sl m xs =>
    have := PV.esz_sl he; subst this
    rw [PV.get_sl hi]
    exact ⟨(hc.1 _ (List.getElem_mem hi)).1, (hc.1 _ (List.getElem_mem hi)).2, fun j q hj => hc.2 i _ j q (List.getElem?_eq_getElem hi) hj⟩
  | _ => simp [PV.len] at hi
theorem ContG.to {b base n : Nat} {c : PV} (he : c.esz n = true) (hr : c.real = true) (hc : ContG I w b base n c) : ContRep I w b base c := by
  cases c with
  | ints k l =>
    have := PV.esz_ints he; subst this
    intro i x hx
    have hi : i < l.length := (List.getElem?_eq_some_iff.1 hx).1
    obtain ⟨_, _, h3⟩ := hc i hi
    rw [PV.get_ints hi] at h3
    obtain ⟨v, hv, hp⟩ := h3 0 _ rfl
    have hx' : l[i] = x := by rw [List.getElem?_eq_getElem hi] at hx; exact Option.some.inj hx
    rw [hp.int_inv, hx', Nat.mul_one, Nat.add_zero] at hv
    exact hv
  | sl m xs =>
    have := PV.esz_sl he; subst this
    refine ⟨fun x hx => ?_, fun i x j q hx hq => ?_⟩
    · obtain ⟨i, hi, rfl⟩ := List.mem_iff_getElem.1 hx
      obtain ⟨h1, h2, _⟩ := hc i hi
      rw [PV.get_sl hi] at h1 h2
      exact ⟨h1, h2⟩
    · have hi : i < xs.length := (List.getElem?_eq_some_iff.1 hx).1
      obtain ⟨_, _, h3⟩ := hc i hi
      rw [PV.get_sl hi] at h3
      have hx' : xs[i] = x := by rw [List.getElem?_eq_getElem hi] at hx; exact Option.some.inj hx
      rw [hx'] at h3
      exact h3 j q hq
  | _ => cases hr
end
theorem PV.set_spec {c c' e : PV} {i n : Nat} (he : c.esz n = true) (h : c.set i e = some c') : c'.esz n = true ∧ c'.real = true ∧ c'.len = c.len ∧ (∀ j, j < c.len → c'.get j = if j = i then e else c.get j) := by
  cases c with
  | ints k l =>
    cases e with
    | int k' x =>
      replace h : (if k = k' then some (PV.ints k (l.set i x)) else none) = some c' := h
      split at h
      · rename_i hk
        subst hk
        cases h
        refine ⟨he, rfl, by simp [PV.len], fun j hj => ?_⟩
        have hj : j < l.length := hj
        rw [PV.get_ints (by simpa using hj), PV.get_ints hj, List.getElem_set]
        by_cases e : i = j
        · subst e; simp
        · rw [if_neg e, if_neg (fun h => e h.symm)]
      · cases h
    | _ => cases h
  | sl m xs =>
    replace h : (if e.cells.length = m then some (PV.sl m (xs.set i e)) else none) = some c' := h
    split at h
    · cases h
      refine ⟨he, rfl, by simp [PV.len], fun j hj => ?_⟩
      have hj : j < xs.length := hj
      rw [PV.get_sl (by simpa using hj), PV.get_sl hj, List.getElem_set]
      by_cases e : i = j
      · subst e; simp
      · rw [if_neg e, if_neg (fun h => e h.symm)]
    · cases h
  | nil => cases h
  | _ => cases he
theorem PV.app_spec {c s c' : PV} {n : Nat} (he : c.esz n = true) (h : c.app s = some c') : c'.esz n = true ∧ s.esz n = true ∧ c'.real = true ∧ s.real = true ∧ c'.len = c.len + s.len ∧ (∀ j, j < c'.len → c'.get j = if j < c.len then c.get j else s.get (j - c.len)) := by
  unfold PV.app at h
  split at h
  · rename_i k l k' m
    split at h
    · rename_i hk
      subst hk
      cases h
      refine ⟨he, by have := PV.esz_ints he; subst this; rfl, rfl, rfl, by simp [PV.len], fun j hj => ?_⟩
      have hj : j < (l ++ m).length := hj
      rw [PV.get_ints hj, List.getElem_append]
      split
      · rename_i h1; rw [if_pos (show j < (PV.ints k l).len from h1), PV.get_ints h1]
      · rename_i h1; rw [if_neg (show ¬ j < (PV.ints k l).len from h1), PV.get_ints (by simp [PV.len] at hj ⊢; omega)]; rfl
    · cases h
  · rename_i m xs m' ys
    split at h
    · rename_i hk
      subst hk
      cases h
      refine ⟨he, he, rfl, rfl, by simp [PV.len], fun j hj => ?_⟩
      have hj : j < (xs ++ ys).length := hj
      rw [PV.get_sl hj, List.getElem_append]
      split
      · rename_i h1; rw [if_pos (show j < (PV.sl m xs).len from h1), PV.get_sl h1]
      · rename_i h1; rw [if_neg (show ¬ j < (PV.sl m xs).len from h1), PV.get_sl (by simp [PV.len] at hj ⊢; omega)]; rfl
    · cases h
  · cases h
theorem PV.sub_spec {c : PV} {n lo hi : Nat} (he : c.esz n = true) (h1 : lo ≤ hi) (h2 : hi ≤ c.len) : (c.sub lo hi).esz n = true ∧ (c.real = true → (c.sub lo hi).real = true) ∧ (c.sub lo hi).len = hi - lo ∧ (∀ j, j < hi - lo → (c.sub lo hi).get j = c.get (lo + j)) := by
  cases c with
  | ints k l =>
    simp only [PV.len] at h2
    refine ⟨he, fun h => h, by simp [PV.sub, PV.len]; omega, fun j hj => ?_⟩
    rw [PV.get_ints (by omega)]
    show (PV.ints k ((l.drop lo).take (hi - lo))).get j = _
    rw [PV.get_ints (by simp; omega)]
    simp
  | sl m xs =>
    simp only [PV.len] at h2
    refine ⟨he, fun h => h, by simp [PV.sub, PV.len]; omega, fun j hj => ?_⟩
    rw [PV.get_sl (by omega)]
    show (PV.sl m ((xs.drop lo).take (hi - lo))).get j = _
    rw [PV.get_sl (by simp; omega)]
    simp
  | nil => simp only [PV.len] at h2; exact ⟨rfl, fun h => h, by simp [PV.sub, PV.len]; omega, fun j hj => by omega⟩
  | _ => cases he
theorem PV.splice_spec {c s c' : PV} {n off : Nat} (he : c.esz n = true) (hl : off + s.len ≤ c.len) (h : c.splice off s = some c') : c'.esz n = true ∧ s.esz n = true ∧ c'.real = true ∧ s.real = true ∧ c'.len = c.len ∧
    (∀ j, j < c.len → c'.get j = if off ≤ j ∧ j < off + s.len then s.get (j - off) else c.get j) := by
  unfold PV.splice at h
  split at h
  · rename_i k l k' m
    split at h
    · rename_i hk
      subst hk
      cases h
      simp only [PV.len] at hl
      have hlen : (l.take off ++ m ++ l.drop (off + m.length)).length = l.length := by simp; omega
      refine ⟨he, by have := PV.esz_ints he; subst this; rfl, rfl, rfl, hlen, fun j hj => ?_⟩
      have hj : j < l.length := hj
      rw [PV.get_ints (by omega), PV.get_ints hj]
      have key := setCells_get (l := l) (vs := m) (off := off) hl j
      unfold setCells at key
      by_cases hc : off ≤ j ∧ j < off + m.length
      · rw [if_pos hc] at key
        have : j < (l.take off ++ m ++ l.drop (off + m.length)).length := by omega
        rw [List.getElem?_eq_getElem this, List.getElem?_eq_getElem (by omega)] at key
        rw [if_pos (show off ≤ j ∧ j < off + (PV.ints k m).len from hc), Option.some.inj key, PV.get_ints (by omega)]
      · rw [if_neg hc] at key
        have : j < (l.take off ++ m ++ l.drop (off + m.length)).length := by omega
        rw [List.getElem?_eq_getElem this, List.getElem?_eq_getElem (by omega)] at key
        rw [if_neg (show ¬ (off ≤ j ∧ j < off + (PV.ints k m).len) from hc), Option.some.inj key]
    · cases h
  · rename_i m' l m'' m
    split at h
    · rename_i hk
      subst hk
      cases h
      simp only [PV.len] at hl
      have hlen : (l.take off ++ m ++ l.drop (off + m.length)).length = l.length := by simp; omega
      refine ⟨he, he, rfl, rfl, hlen, fun j hj => ?_⟩
      have hj : j < l.length := hj
      rw [PV.get_sl (by omega), PV.get_sl hj]
      have key := setCells_get (l := l) (vs := m) (off := off) hl j
      unfold setCells at key
      by_cases hc : off ≤ j ∧ j < off + m.length
      · rw [if_pos hc] at key
        have : j < (l.take off ++ m ++ l.drop (off + m.length)).length := by omega
        rw [List.getElem?_eq_getElem this, List.getElem?_eq_getElem (by omega)] at key
        rw [if_pos (show off ≤ j ∧ j < off + (PV.sl m' m).len from hc), Option.some.inj key, PV.get_sl (by omega)]
      · rw [if_neg hc] at key
        have : j < (l.take off ++ m ++ l.drop (off + m.length)).length := by omega
        rw [List.getElem?_eq_getElem this, List.getElem?_eq_getElem (by omega)] at key
        rw [if_neg (show ¬ (off ≤ j ∧ j < off + (PV.sl m' m).len) from hc), Option.some.inj key]
    · cases h
  · cases h
theorem elemOf_cells {g : PV} {off : Nat} {ps : List PV} (h1 : off + ps.length ≤ g.cells.length) (h0 : 1 ≤ ps.length) (hs : ∀ p ∈ ps, p.sc = true) : (elemOf g off ps).cells = setCells g.cells off ps := by
  have key : ∀ g : PV, g.cells = [g] → elemOf g off ps = ps.headD g → off + ps.length ≤ g.cells.length → (elemOf g off ps).cells = setCells g.cells off ps := by
    intro g hg he hl
    rw [hg] at hl
    simp at hl
    match ps, h0, hl, hs with
    | [p], _, hl, hs =>
      have : off = 0 := by simp at hl; omega
      subst this
      have hp : p.cells = [p] := by have := hs p (by simp); cases p <;> first | rfl | cases this
      rw [he, hg]
      simp [setCells, hp]
    | _ :: _ :: _, _, hl, _ => simp at hl; omega
  cases g with
  | agg cs => rfl
  | _ => exact key _ rfl rfl h1
section
variable {X : Ctx} {I : Nat → Prop} {ρ : Rho} {h : Heap} {w : World} {P : Program} {call : Call}
theorem mul_lt {i n len cap : Nat} (h1 : i < len) (h2 : len ≤ cap) : i * n + n ≤ cap * n := by
  have : (i + 1) * n ≤ cap * n := Nat.mul_le_mul_right n (by omega)
  rwa [Nat.add_mul, Nat.one_mul] at this
theorem idx_apart {i i' n j j' : Nat} (h : i ≠ i') (hj : j < n) (hj' : j' < n) : i * n + j ≠ i' * n + j' := by
  intro e
  rcases Nat.lt_or_gt_of_ne h with h | h
  · have := mul_lt (n := n) h (Nat.le_refl i'); omega
  · have := mul_lt (n := n) h (Nat.le_refl i); omega
theorem storeRow_sound {t : TypeId} {n : Nat} (hn : sizeT P t = some n) (hn0 : 1 ≤ n) {id idx off : Nat} {x : AV} {xa xv : Value} (r : SRel X I ρ h w) (ha : VRel I w ρ (.elem id idx off) xa) (hx : VRel I w ρ x xv) {v : AV} {h' : Heap}
    (e : (storeRow id n idx off x.cells).run call h = some (v, h')) : UOut P (Instr.storeAt t xa xv) X I ρ w v h' := by
  unfold storeRow at e
  split at e
  · rename_i vs hvs
    obtain ⟨c1, c2, c3⟩ := cells_rep hvs hx
    obtain ⟨ps, ids, e, p1, p2, p3, p4⟩ := frzs_sound r (xs := xv.cells.toList) (by simpa using c1) c2 (fun i c y hc hy => c3 i c y hc (by simpa using hy)) e
    obtain ⟨hids, e⟩ := chk_inv e
    have hids : id ∉ ids := by simpa using hids
    obtain ⟨o, hid, e⟩ := get_inv e
    unfold storeElem at e
    split at e
    · rename_i c m
      obtain ⟨hm, e1⟩ := chk_inv e
      clear e
      subst hm
      obtain ⟨hl, e⟩ := chk_inv e1
      obtain ⟨hi, e⟩ := chk_inv e
      obtain ⟨ho, e⟩ := chk_inv e
      have hl : ps.length = n := by simpa using hl
      have hi : idx < c.len := by simpa using hi
      have ho : off + n ≤ (c.get idx).cells.length := by simpa using ho
      unfold putRow at e
      split at e
      · rename_i c' hset
        obtain ⟨I', h1, e, s, ex, hb, hj⟩ := shut_sound (ids := ids) r e
        obtain ⟨_, e⟩ := put_inv e
        cases ret_inv e
        have hid1 : h1 id = some (some (.row c true)) := (hj id hids).trans hid
        cases ha with
        | elem hρ =>
          rename_i b base N cap len
          rcases s.objs id _ hid1 with ⟨g1, _⟩ | ⟨b', base', N', cap', arr, et, lo, hi', g1, g2, g3, g4, g5, g6, g7, g8⟩
          · rw [hρ] at g1; cases g1
          · rw [hρ] at g1; cases g1
            have hG := ContG.of g5 g6
            obtain ⟨q1, q2, q3⟩ := hG idx hi
            have hmul := mul_lt (n := N) hi g4
            have hone : ∀ y ∈ xv.cells.toList, Value.one y = true := by
              intro y hy
              obtain ⟨i, hi⟩ := List.mem_iff_getElem?.1 hy
              have hlt : i < vs.length := by rw [c1]; have := (List.getElem?_eq_some_iff.1 hi).1; simpa using this
              exact (c3 i vs[i] y (List.getElem?_eq_getElem hlt) (by simpa using hi)).one (c2 _ (List.getElem_mem hlt))
            have hxs : xv.cells.size = n := by rw [← hl, p1]; simp
            obtain ⟨arr', w', k1, k2, k3, k4, k5⟩ := storeVar_run (w := w) hn (o := base + idx * N + off) hxs g2 (by omega) (g7 rfl) hone
            have nb : ¬ I' b := (s.muts id _ b hid1 rfl (by rw [hρ]; rfl)).1
            have ex' : Ext I' ρ w I' ρ w' := ⟨fun _ h => h, fun _ _ h => h, fun b' hb' => k5.heap b' (s.inI b' hb').1 fun e => nb (by cases e; exact hb')⟩
            obtain ⟨s1, s2, s3, s4⟩ := PV.set_spec g5 hset
            have hcells := elemOf_cells (g := c.get idx) (off := off) (ps := ps) (by omega) (by omega) p2
            have hG' : ContG I' w' b base N c' := by
              intro i hi2
              rw [s3] at hi2
              rw [s4 i hi2]
              by_cases ei : i = idx
              · subst ei
                rw [if_pos rfl, hcells]
                refine ⟨by rw [setCells_length (by omega), q1], fun q hq => (setCells_mem hq).elim (q2 q) (p2 q), fun j q hq => ?_⟩
                rw [setCells_get (by omega)] at hq
                rw [cell_cells k2, k4]
                split at hq
                · rename_i hc
                  rw [if_pos (by omega)]
                  have hlt : j - off < xv.cells.size := by omega
                  refine ⟨xv.cells[j - off], ?_, ?_⟩
                  · rw [show base + i * N + j - (base + i * N + off) = j - off by omega]; exact Array.getElem?_eq_getElem hlt
                  · refine (p4 (j - off) q _ hq (by simp [hlt])).mono (fun b hb' => hb b hb') fun b' hb' => ?_
                    exact k5.heap b' (s.inI b' (hb b' hb')).1 fun e => nb (by cases e; exact hb _ hb')
                · rename_i hc
                  have hjN : j < N := by rw [← q1]; exact (List.getElem?_eq_some_iff.1 hq).1
                  rw [if_neg (by omega)]
                  obtain ⟨v, hv, hp⟩ := q3 j q hq
                  rw [cell_cells g2] at hv
                  exact ⟨v, hv, hp.ext ex'⟩
              · rw [if_neg ei]
                obtain ⟨r1, r2, r3⟩ := hG i hi2
                refine ⟨r1, r2, fun j q hq => ?_⟩
                have hjN : j < N := by rw [← r1]; exact (List.getElem?_eq_some_iff.1 hq).1
                obtain ⟨v, hv, hp⟩ := r3 j q hq
                rw [cell_cells g2] at hv
                refine ⟨v, ?_, hp.ext ex'⟩
                rw [cell_cells k2, k4, if_neg ?_]
                · exact hv
                · rintro ⟨a1, a2⟩
                  have := idx_apart ei hjN (j' := i * N + j - idx * N) (by omega)
                  omega
            obtain ⟨s', _⟩ := s.put (w' := w') (o' := .row c' true) hid1 rfl rfl (by rw [hρ]; exact k5)
              (.inr ⟨b, base, N, cap, arr', et, lo, hi', by rw [hρ, s3], k2, by rw [k3]; exact g3, by rw [s3]; exact g4, s1, hG'.to s1 s2, fun _ o ho' => g7 rfl o (by rw [← k3]; exact ho'), fun h => by cases h⟩)
            exact ⟨w', k1, I', ρ, ex.trans ex', s', .und⟩
      · exact (fail_inv e).elim
    · exact (fail_inv e).elim
  · exact (fail_inv e).elim
theorem store_sound {t : TypeId} {n : Nat} (hn : sizeT P t = some n) (hn0 : 1 ≤ n) {a x : AV} {xa xv : Value} (r : SRel X I ρ h w) (ha : VRel I w ρ a xa) (hx : VRel I w ρ x xv) {v : AV} {h' : Heap}
    (e : (storeK n a x).run call h = some (v, h')) : UOut P (Instr.storeAt t xa xv) X I ρ w v h' := by
  unfold storeK at e
  split at e
  · exact storePtr_sound hn r ha hx e
  · exact storeRow_sound hn hn0 r ha hx e
  · exact (fail_inv e).elim
end
end Go.Proofs.Ytkeipmkiilimeaa.V
namespace Go.Proofs.Ytkeipmkiilimeaa.V
open Go
section
variable {X : Ctx} {I : Nat → Prop} {ρ : Rho} {h : Heap} {w : World} {P : Program} {call : Call}
theorem faddr_sound {s f : Nat} {fs : Array Field} {fl : Field} {n : Nat} (hs : P.underlying s = some (.struct fs)) (hf : fs[f]? = some fl) (hn : sizeT P fl.type = some n) (hn0 : n ≠ 0) {x : AV} {xv : Value} (r : SRel X I ρ h w) (hx : VRel I w ρ x xv) {v : AV} {h' : Heap}
    (e : (faddrK fl.offset x).run call h = some (v, h')) : SOut P (Instr.fieldAt s xv f) X I ρ w v h' := by
  have key : ∀ b o, (Instr.fieldAt s (.pointer (some ⟨b, o, none⟩)) f).run P w = .ok (.pointer (some ⟨b, o + fl.offset, none⟩)) w := by
    intro b o
    unfold Instr.fieldAt
    simp only [Sem.run_bind, run_underlying hs, Result.andThen_ok, hf, Instr.sureAddr, Sem.run_pure, fieldPlace, run_sizeOf hn, if_neg hn0, addr_add]
  unfold faddrK at e
  split at e
  · cases ret_inv e
    cases hx with
    | ptr hρ => exact .now r (key _ _) (.ptr hρ)
  · cases ret_inv e
    cases hx with
    | elem hρ =>
      refine .now r (key _ _) ?_
      rw [Nat.add_assoc]
      exact .elem hρ
  · obtain ⟨hl, e⟩ := chk_inv e
    cases ret_inv e
    cases hx with
    | cell cs b off hI hs' hc =>
      refine .now r (key _ _) (.cell _ b _ hI (fun c hc => hs' c (List.mem_of_mem_drop hc)) fun j c hj => ?_)
      rw [List.getElem?_drop] at hj
      obtain ⟨v, hv, hp⟩ := hc _ c hj
      exact ⟨v, by rw [← hv]; congr 2; omega, hp⟩
  · exact (fail_inv e).elim
theorem field_sound {s f : Nat} {fs : Array Field} {fl : Field} {n : Nat} {g : Bool} (hs : P.underlying s = some (.struct fs)) (hf : fs[f]? = some fl) (hn : sizeT P fl.type = some n) (hg : isAggT P fl.type = some g) (hgn : g = true ∨ n = 1) {x : AV} {xv : Value} (r : SRel X I ρ h w) (hx : VRel I w ρ x xv) {v : AV} {h' : Heap}
    (e : (fieldK fl.offset n g x).run call h = some (v, h')) : SOut P (Instr.field s xv f) X I ρ w v h' := by
  have key1 : ∀ vs : Array Value, g = true → (Instr.field s (.agg vs) f).run P w = .ok (.agg (vs.extract fl.offset (fl.offset + n))) w := by
    intro vs hg1
    subst hg1
    unfold Instr.field
    simp only [Sem.run_bind, run_underlying hs, Result.andThen_ok, hf, asAgg, Sem.run_pure, part, run_isAgg hg, if_true, run_sizeOf hn]
  have key2 : ∀ (vs : Array Value) y, g = false → vs[fl.offset]? = some y → (Instr.field s (.agg vs) f).run P w = .ok y w := by
    intro vs y hg1 hy
    subst hg1
    unfold Instr.field
    simp only [Sem.run_bind, run_underlying hs, Result.andThen_ok, hf, asAgg, Sem.run_pure, part, run_isAgg hg, Bool.false_eq_true, if_false, hy]
  unfold fieldK at e
  split at e
  · rename_i cs
    cases hx with
    | pv hp => cases hp with
      | agg _ vs hl hsc hc =>
        cases g with
        | true =>
          obtain ⟨hle, e⟩ := chk_inv e
          cases ret_inv e
          have hle : n ≤ cs.length - fl.offset := by simpa using hle
          refine .now r (key1 vs rfl) (.pv (.agg _ _ (by simp; omega) (fun c hc => hsc c (List.mem_of_mem_drop (List.mem_of_mem_take hc))) fun i c v hc' hv => ?_))
          rw [List.getElem?_take] at hc'
          split at hc'
          · rw [List.getElem?_drop] at hc'
            rw [Array.getElem?_extract] at hv
            split at hv
            · exact hc _ c v hc' hv
            · cases hv
          · cases hc'
        | false =>
          replace e : (match cs.drop fl.offset with | c :: _ => HP.ret (.pv c) | [] => HP.fail).run call h = some (v, h') := e
          generalize hd : cs.drop fl.offset = ds at e
          cases ds with
          | nil => exact (fail_inv e).elim
          | cons c r' =>
            have hoff : cs[fl.offset]? = some c := by
              have := congrArg (fun l => l[0]?) hd
              simpa using this
            have hlt : fl.offset < vs.size := by rw [← hl]; exact (List.getElem?_eq_some_iff.1 hoff).1
            cases ret_inv e
            exact .now r (key2 vs _ rfl (Array.getElem?_eq_getElem hlt)) (.pv (hc _ c _ hoff (Array.getElem?_eq_getElem hlt)))
  · rename_i cs
    cases hx with
    | agg _ vs hl hsc hc =>
      cases g with
      | true =>
        obtain ⟨hle, e⟩ := chk_inv e
        cases ret_inv e
        have hle : fl.offset + n ≤ cs.length := by simpa using hle
        refine .now r (key1 vs rfl) (mkAgg_rep (by simp; omega) (fun c hc => hsc c (List.mem_of_mem_drop (List.mem_of_mem_take hc))) fun i c v hc' hv => ?_)
        rw [List.getElem?_take] at hc'
        split at hc'
        · rw [List.getElem?_drop] at hc'
          rw [Array.getElem?_extract] at hv
          split at hv
          · exact hc _ c v hc' hv
          · cases hv
        · cases hc'
      | false =>
        replace e : (match cs.drop fl.offset with | c :: _ => HP.ret c | [] => HP.fail).run call h = some (v, h') := e
        generalize hd : cs.drop fl.offset = ds at e
        cases ds with
        | nil => exact (fail_inv e).elim
        | cons c r' =>
          have hoff : cs[fl.offset]? = some c := by
            have := congrArg (fun l => l[0]?) hd
            simpa using this
          have hlt : fl.offset < vs.size := by rw [← hl]; exact (List.getElem?_eq_some_iff.1 hoff).1
          have := hc _ c _ hoff (Array.getElem?_eq_getElem hlt)
          cases ret_inv e
          exact .now r (key2 vs _ rfl (Array.getElem?_eq_getElem hlt)) this
  · exact (fail_inv e).elim
/-- A row, or a part of one: where it lies, and what it holds. -/
theorem row_at {id : Nat} {vw : Option (Nat × Nat)} {c : PV} {m : Bool} {x : Value} (r : SRel X I ρ h w) (hid : h id = some (some (.row c m))) (hx : VRel I w ρ (.row id vw) x) :
    (ρ id = some .nil ∧ x = .slice none 0 0 ∧ (viewOf c vw).len = 0 ∧ c.len = 0 ∧ c.isSlice = true ∧ viewOff vw = 0) ∨
    ∃ b base n cap a cap', ρ id = some (.row b base n cap c.len) ∧ x = .slice (some a) (viewOf c vw).len cap' ∧ viewOff vw + (viewOf c vw).len ≤ c.len ∧ (viewOf c vw).len ≤ cap' ∧
      (∃ o', a = ⟨b, base + o' * n, none⟩ ∧ o' + cap' ≤ cap ∧ (o' = viewOff vw ∨ ((viewOf c vw).len = 0 ∧ cap' = 0))) ∧ (viewOf c vw).esz n = true ∧ (viewOf c vw).real = true ∧ ∀ j, j < (viewOf c vw).len → (viewOf c vw).get j = c.get (viewOff vw + j) := by
  rcases r.objs id _ hid with ⟨g1, g2, g3⟩ | ⟨b, base, N, cap, arr, et, lo, hi, g1, g2, g3, g4, g5, g6, g7, g8⟩
  · left
    cases hx with
    | row0 _ => exact ⟨g1, rfl, g2, g2, g3, rfl⟩
    | row hρ _ => rw [g1] at hρ; cases hρ
    | view0 _ => exact ⟨g1, rfl, PV.len_sub g3 (by omega), g2, g3, rfl⟩
    | view hρ _ _ _ => rw [g1] at hρ; cases hρ
  · right
    cases hx with
    | row0 hρ => rw [g1] at hρ; cases hρ
    | row hρ hl =>
      rw [g1] at hρ; cases hρ
      refine ⟨b, base, N, cap, _, cap, g1, rfl, by simp [viewOff, viewOf], g4, ⟨0, by simp, by simp, .inl rfl⟩, g5, g6.real, fun j _ => by simp [viewOff, viewOf]⟩
    | view0 hρ => rw [g1] at hρ; cases hρ
    | @view _ _ _ _ _ _ o l capx a hρ hl hcap ha =>
      rw [g1] at hρ; cases hρ
      obtain ⟨s1, s2, s3, s4⟩ := PV.sub_spec g5 (Nat.le_add_right o l) hl
      have hlen : (viewOf c (some (o, l))).len = l := by show (c.sub o (o + l)).len = l; rw [s3]; omega
      rw [hlen]
      exact ⟨b, base, N, cap, a, capx, g1, rfl, hl, hcap, ha, s1, s2 g6.real, fun j hj => s4 j (by omega)⟩
theorem elemT_inv {t e : TypeId} {n : Nat} {k : Option IntKind} (h : elemT P t = some (e, n, k)) : ∃ i, P.underlying t = some (.slice e) ∧ P.info? e = some i ∧ i.bytes ≤ 16384 ∧ i.size = n ∧ n ≠ 0 ∧ k = kindT P e ∧ (k ≠ none → n = 1) := by
  unfold elemT at h
  split at h
  · rename_i e' he
    simp only [Option.bind_eq_some_iff] at h
    obtain ⟨i, hi, h⟩ := h
    split at h
    · split at h
      · cases h
      · rename_i hz
        cases h
        simp only [Bool.or_eq_true, decide_eq_true_eq, Bool.and_eq_true, bne_iff_ne, ne_eq, not_or, not_and, Decidable.not_not] at hz
        exact ⟨i, he, hi, ‹_›, rfl, hz.1, rfl, fun hk => hz.2 (Option.isSome_iff_ne_none.2 hk)⟩
    · cases h
  · cases h
theorem esz_unique {c : PV} {n m : Nat} (hr : c.real = true) (h1 : c.esz n = true) (h2 : c.esz m = true) : n = m := by
  cases c with
  | ints k l => rw [PV.esz_ints h1, PV.esz_ints h2]
  | sl m' xs => rw [← PV.esz_sl h1, ← PV.esz_sl h2]
  | _ => cases hr
theorem iaddr_run {t e n : Nat} {k : Option IntKind} (ht : elemT P t = some (e, n, k)) (a : Addr) (len cap : Nat) (kk : IntKind) (j : Int) (h0 : 0 ≤ j) (h1 : j < (len : Int)) :
    (Instr.indexAt t (.slice (some a) len cap) (.int kk j)).run P w = .ok (.pointer (some (a.add (j.toNat * n)))) w := by
  obtain ⟨i, g1, g2, _, g3, _, _, _⟩ := elemT_inv ht
  have hn : sizeT P e = some n := by simp [sizeT, g2, g3]
  unfold Instr.indexAt
  have hc : 0 ≤ j ∧ j < (len : Int) := ⟨h0, h1⟩
  simp only [asIntOf, pure_bind, Sem.run_bind, run_underlying g1, Result.andThen_ok, Sem.run_pure, hc, and_self, if_true, run_sizeOf hn]
theorem iaddr_sound {t e n : Nat} {k : Option IntKind} (ht : elemT P t = some (e, n, k)) {x y : AV} {xv yv : Value} (r : SRel X I ρ h w) (hx : VRel I w ρ x xv) (hy : VRel I w ρ y yv) {v : AV} {h' : Heap}
    (e : (iaddrK n x y).run call h = some (v, h')) : SOut P (Instr.indexAt t xv yv) X I ρ w v h' := by
  unfold iaddrK at e
  split at e
  · rename_i p kk j
    obtain ⟨he, e⟩ := chk_inv e
    obtain ⟨h0, e⟩ := chk_inv e
    obtain ⟨h1, e⟩ := chk_inv e
    cases ret_inv e
    have h0 : 0 ≤ j := by simpa using h0
    have h1 : j < (p.len : Int) := by simpa using h1
    cases hy with
    | pv hy =>
      cases hy.int_inv
      cases hx with
      | pv hp =>
        obtain ⟨a, cap, rfl, hcap, hz | ⟨b, off, rfl, hI, hc⟩⟩ := prep_slice_inv (PV.esz_slice he) hp
        · omega
        · obtain ⟨g1, g2, g3⟩ := ContG.of he hc j.toNat (by omega)
          refine .now r (iaddr_run ht _ _ cap kk j h0 h1) ?_
          rw [addr_add]
          exact .cell _ b _ hI g2 fun j' q hq => g3 j' q hq
  · rename_i id vw kk j
    obtain ⟨o, hid, e⟩ := get_inv e
    unfold iaddrRow at e
    split at e
    · rename_i c m
      obtain ⟨he, e⟩ := chk_inv e
      obtain ⟨h0, e⟩ := chk_inv e
      obtain ⟨h1, e⟩ := chk_inv e
      cases ret_inv e
      have h0 : 0 ≤ j := by simpa using h0
      have h1 : j < ((viewOf c vw).len : Int) := by simpa using h1
      cases hy with
      | pv hy =>
        cases hy.int_inv
        rcases row_at r hid hx with ⟨_, _, hz, _⟩ | ⟨b, base, N, cap, a, cap', g1, rfl, g2, g3, g4, g5, g6, _⟩
        · omega
        · have hN : n = N := by
            have hr : c.real = true := by
              rcases r.objs id _ hid with ⟨g1', _⟩ | ⟨_, _, _, _, _, _, _, _, _, _, _, _, _, g6', _⟩
              · rw [g1] at g1'; cases g1'
              · exact g6'.real
            rcases r.objs id _ hid with ⟨g1', _⟩ | ⟨_, _, _, _, _, _, _, _, g1', _, _, _, g5', _⟩
            · rw [g1] at g1'; cases g1'
            · rw [g1] at g1'; cases g1'; exact esz_unique hr he g5'
          subst hN
          obtain ⟨o', rfl, _, rfl | ⟨hz, _⟩⟩ := g4
          · refine .now r (iaddr_run ht _ _ _ kk j h0 h1) ?_
            rw [addr_add]
            have := VRel.elem (I := I) (w := w) (idx := viewOff vw + j.toNat) (off := 0) g1
            rw [show base + viewOff vw * n + j.toNat * n = base + (viewOff vw + j.toNat) * n + 0 by rw [Nat.add_mul]; omega]
            exact this
          · omega
    · exact (fail_inv e).elim
  · exact (fail_inv e).elim
theorem sidx_sound {t : TypeId} (ht : P.underlying t = some .string) {x y : AV} {xv yv : Value} (r : SRel X I ρ h w) (hx : VRel I w ρ x xv) (hy : VRel I w ρ y yv) {v : AV} {h' : Heap}
    (e : (sidxK x y).run call h = some (v, h')) : SOut P (Instr.index t xv yv) X I ρ w v h' := by
  unfold sidxK at e
  split at e
  · rename_i s kk j
    obtain ⟨h0, e⟩ := chk_inv e
    obtain ⟨h1, e⟩ := chk_inv e
    cases ret_inv e
    have h0 : 0 ≤ j := by simpa using h0
    have h1 : j < (s.length : Int) := by simpa using h1
    cases hy with
    | pv hy =>
      cases hy.int_inv
      cases hx with
      | pv hp =>
        cases hp with
        | str bs =>
          have hsz : bs.data.toList.length = bs.size := Array.length_toList
          have hlt : j.toNat < bs.data.size := by
            rw [hsz] at h1
            have : bs.data.size = bs.size := rfl
            omega
          have hb : bs[j.toNat]? = some (bs.data[j.toNat]'hlt) := by
            rw [getElem?_pos bs j.toNat hlt]; rfl
          refine .now r (x := .int .u8 ((bs.data[j.toNat]'hlt).toNat : Int)) ?_ (.pv ?_)
          · unfold Instr.index
            simp only [asIntOf, pure_bind, Sem.run_bind, run_underlying ht, Result.andThen_ok, if_pos h0, hb, Sem.run_pure]
          · have : bs.data.toList.getD j.toNat 0 = bs.data[j.toNat]'hlt := by
              rw [List.getD_eq_getElem?_getD, Array.getElem?_toList, Array.getElem?_eq_getElem hlt]; rfl
            rw [this]
            exact .int _ _
  · exact (fail_inv e).elim
theorem ext_sound {i : Nat} {x : AV} {xv : Value} (r : SRel X I ρ h w) (hx : VRel I w ρ x xv) {v : AV} {h' : Heap} (e : (extK i x).run call h = some (v, h')) : SOut P (Instr.extract xv i) X I ρ w v h' := by
  unfold extK at e
  split at e
  · rename_i vs
    cases hx with
    | tup _ xs hl hc =>
      generalize hd : vs.drop i = ds at e
      cases ds with
      | nil => exact (fail_inv e).elim
      | cons c r' =>
        have hoff : vs[i]? = some c := by
          have := congrArg (fun l => l[0]?) hd
          simpa using this
        have hlt : i < xs.size := by rw [← hl]; exact (List.getElem?_eq_some_iff.1 hoff).1
        have := hc _ c _ hoff (Array.getElem?_eq_getElem hlt)
        cases ret_inv e
        refine .now r ?_ this
        unfold Instr.extract
        simp [Array.getElem?_eq_getElem hlt]
  · exact (fail_inv e).elim
theorem slen_sound {t ty : TypeId} (ht : P.underlying t = some .string) {x : AV} {xv : Value} (r : SRel X I ρ h w) (hx : VRel I w ρ x xv) {v : AV} {h' : Heap} (e : (slenK x).run call h = some (v, h')) : SOut P (Builtin.len_ #[t] ty #[xv]) X I ρ w v h' := by
  unfold slenK at e
  split at e
  · cases ret_inv e
    cases hx with
    | pv hp => cases hp with
      | str bs =>
        refine .now r (x := .int .i64 (bs.size : Int)) ?_ (.pv ?_)
        · unfold Builtin.len_
          simp only [List.getElem?_toArray, List.getElem?_cons_zero, Sem.run_bind, run_underlying ht, Result.andThen_ok, Sem.run_pure, goInt]
        · have : bs.data.toList.length = bs.size := Array.length_toList
          rw [this]
          exact .int _ _
  · exact (fail_inv e).elim
theorem row_len {id : Nat} {vw : Option (Nat × Nat)} {c : PV} {m : Bool} {x : Value} (r : SRel X I ρ h w) (hid : h id = some (some (.row c m))) (hx : VRel I w ρ (.row id vw) x) : ∃ a cap, x = .slice a (viewOf c vw).len cap := by
  rcases row_at r hid hx with ⟨_, rfl, hz, _⟩ | ⟨_, _, _, _, a, cap', _, rfl, _⟩
  · exact ⟨_, _, by rw [hz]⟩
  · exact ⟨_, _, rfl⟩
theorem len_sound {t ty e : TypeId} (ht : P.underlying t = some (.slice e)) {x : AV} {xv : Value} (r : SRel X I ρ h w) (hx : VRel I w ρ x xv) {v : AV} {h' : Heap} (e : (lenK x).run call h = some (v, h')) : SOut P (Builtin.len_ #[t] ty #[xv]) X I ρ w v h' := by
  have key : ∀ a n c, (Builtin.len_ #[t] ty #[.slice a n c]).run P w = .ok (.int .i64 (n : Int)) w := by
    intro a n c
    unfold Builtin.len_
    simp only [List.getElem?_toArray, List.getElem?_cons_zero, Sem.run_bind, run_underlying ht, Result.andThen_ok, Sem.run_pure, goInt]
  unfold lenK at e
  split at e
  · obtain ⟨hs, e⟩ := chk_inv e
    cases ret_inv e
    cases hx with
    | pv hp =>
      obtain ⟨a, cap, rfl, _⟩ := prep_slice_inv hs hp
      exact .now r (key _ _ _) (.pv (.int _ _))
  · obtain ⟨o, hid, e⟩ := get_inv e
    unfold lenRow at e
    split at e
    · cases ret_inv e
      obtain ⟨a, cap, rfl⟩ := row_len r hid hx
      exact .now r (key _ _ _) (.pv (.int _ _))
    · exact (fail_inv e).elim
  · exact (fail_inv e).elim
theorem retO_sound {cv : CV} {s : Sem Value} (r : SRel X I ρ h w) (hs : ∀ c p, cv = some (c, p) → c = true → ∃ x, s.run P w = .ok x w ∧ PRep I w p x) {v : AV} {h' : Heap} (e : (retO cv).run call h = some (v, h')) : SOut P s X I ρ w v h' := by
  unfold retO at e
  split at e
  · rename_i c p
    obtain ⟨hc, e⟩ := chk_inv e
    cases ret_inv e
    obtain ⟨x, h1, h2⟩ := hs c p rfl hc
    exact .now r h1 (.pv h2)
  · exact (fail_inv e).elim
theorem bytes_eq {a b : ByteArray} : (a.toList == b.toList) = decide (a.data.toList = b.data.toList) := by
  rw [ByteArray.toList_eq, ByteArray.toList_eq]
  by_cases h : a.data.toList = b.data.toList
  · rw [h]; simp
  · rw [decide_eq_false h, beq_eq_false_iff_ne]; exact h
theorem str_mk (s : ByteArray) (l : List UInt8) (h : s.data.toList = l) : PRep I w (.str l) (.string s) := h ▸ .str s
theorem bin_sound {op : BinOp} {t : TypeId} {x y : AV} {xv yv : Value} (xo yo : Operand) (r : SRel X I ρ h w) (hx : VRel I w ρ x xv) (hy : VRel I w ρ y yv) {v : AV} {h' : Heap} (e : (binK op x y).run call h = some (v, h')) :
    SOut P (do eqGuard op t xo yo xv yv; binOp op t xv yv) X I ρ w v h' := by
  have guard : ∀ (a b : Value), (∀ cs, a ≠ .agg cs) → a ≠ .nilIface → (eqGuard op t xo yo a b).run P w = .ok () w := by
    intro a b h1 h2
    cases op <;> first
      | rfl
      | (cases a <;> first
          | rfl
          | exact absurd rfl h2
          | exact absurd rfl (h1 _))
  unfold binK at e
  split at e
  · rename_i p q
    cases hx with
    | pv hp => cases hy with
      | pv hq =>
        refine retO_sound r (fun c z hcv hc => ?_) e
        subst hc
        unfold binPV at hcv
        split at hcv
        · rename_i k a k' b
          cases hp.int_inv; cases hq.int_inv
          simp only [Sem.run_bind, guard (.int k a) (.int k' b) (fun _ => by simp) (by simp), Result.andThen_ok]
          split at hcv
          · simp only [Option.some.injEq, Prod.mk.injEq, decide_eq_true_eq] at hcv
            obtain ⟨hb, rfl⟩ := hcv
            exact ⟨_, by simp only [binOp, Op.shift, if_neg (by omega : ¬ b < 0), Sem.run_pure], .int _ _⟩
          · simp only [Option.some.injEq, Prod.mk.injEq, decide_eq_true_eq] at hcv
            obtain ⟨hb, rfl⟩ := hcv
            exact ⟨_, by simp only [binOp, Op.shift, if_neg (by omega : ¬ b < 0), Sem.run_pure], .int _ _⟩
          · split at hcv
            · rename_i hk
              subst hk
              have hbin : binOp op t (.int k a) (.int k b) = (match op with
                | .add | .sub | .mul => Op.intArith op k a b
                | .quo | .rem => Op.intDiv op k a b
                | .and | .or | .xor | .andNot => Op.intBits op k a b
                | _ => Op.intCmp op a b) := by
                cases op <;> first | rfl | (simp [binOp]; done) | contradiction
              rw [hbin]
              cases op <;> simp only [intPV, ok, Option.some.injEq, Prod.mk.injEq, true_and, decide_eq_true_eq, reduceCtorEq] at hcv
              all_goals first
                | (subst hcv; exact ⟨_, rfl, .int _ _⟩)
                | (subst hcv; exact ⟨_, rfl, .bool _⟩)
                | (obtain ⟨hb, rfl⟩ := hcv; exact ⟨_, by simp only [Op.intDiv, if_neg hb, Sem.run_pure], .int _ _⟩)
                | (subst hcv; exact ⟨_, rfl, by rw [show (decide (¬ a = b)) = (a != b) by by_cases hab : a = b <;> simp [hab]]; exact .bool _⟩)
            · cases hcv
        · rename_i a b
          cases hp with
          | str bs => cases hq with
            | str cs =>
              simp only [Sem.run_bind, guard (.string bs) (.string cs) (fun _ => by simp) (by simp), Result.andThen_ok]
              have hbin : binOp op t (.string bs) (.string cs) = Op.stringOp op bs cs := by cases op <;> rfl
              rw [hbin]
              cases op <;> simp only [strPV, ok, Option.some.injEq, Prod.mk.injEq, true_and, decide_eq_true_eq, reduceCtorEq] at hcv
              case add =>
                obtain ⟨hb, rfl⟩ := hcv
                refine ⟨.string (bs ++ cs), ?_, str_mk _ _ (by simp)⟩
                have : ¬ ((bs.size + cs.size : Nat) : Int) > IntKind.i64.max := by
                  have h1 : bs.data.toList.length = bs.size := Array.length_toList
                  have h2 : cs.data.toList.length = cs.size := Array.length_toList
                  rw [h1, h2] at hb
                  simp [big] at hb
                  simp [IntKind.max, IntKind.signed, IntKind.bits]
                  omega
                simp only [Op.stringOp, if_neg this, Sem.run_pure]
              all_goals (subst hcv; refine ⟨_, rfl, ?_⟩; (try rw [bytes_eq]); (try simp only [ByteArray.toList_eq]); (try simp only [decide_not]); exact .bool _)
        · cases hcv
  · exact (fail_inv e).elim
theorem beq_sound {op : BinOp} {t : TypeId} (ht : P.underlying t = some .bool) {x y : AV} {xv yv : Value} (xo yo : Operand) (r : SRel X I ρ h w) (hx : VRel I w ρ x xv) (hy : VRel I w ρ y yv) {v : AV} {h' : Heap} (e : (beqK op x y).run call h = some (v, h')) :
    SOut P (do eqGuard op t xo yo xv yv; binOp op t xv yv) X I ρ w v h' := by
  unfold beqK at e
  split at e
  · rename_i p q
    cases hx with
    | pv hp => cases hy with
      | pv hq =>
        refine retO_sound r (fun c z hcv hc => ?_) e
        subst hc
        unfold beqPV at hcv
        split at hcv
        · rename_i a b
          cases hp; cases hq
          have heq : (Op.equal t (.bool a) (.bool b)).run P w = .ok (a == b) w := by
            unfold Op.equal Op.maxDepth Op.equalIn
            simp only [Sem.run_bind, run_underlying ht, Result.andThen_ok, Sem.run_pure]
          split at hcv
          · cases hcv
            refine ⟨.bool (a == b), ?_, ?_⟩
            · simp only [Sem.run_bind]
              rw [show (eqGuard .eql t xo yo (.bool a) (.bool b)).run P w = .ok () w from rfl]
              simp only [Result.andThen_ok, binOp, Sem.run_bind, heq, Sem.run_pure]
            · rw [show decide (a = b) = (a == b) by cases a <;> cases b <;> rfl]; exact .bool _
          · cases hcv
            refine ⟨.bool (!(a == b)), ?_, ?_⟩
            · simp only [Sem.run_bind]
              rw [show (eqGuard .neq t xo yo (.bool a) (.bool b)).run P w = .ok () w from rfl]
              simp only [Result.andThen_ok, binOp, Sem.run_bind, heq, Sem.run_pure]
            · rw [show decide (¬ a = b) = (!(a == b)) by cases a <;> cases b <;> rfl]; exact .bool _
          · cases hcv
        · cases hcv
  · exact (fail_inv e).elim
theorem un_sound {op : UnOp} {x : AV} {xv : Value} (r : SRel X I ρ h w) (hx : VRel I w ρ x xv) {v : AV} {h' : Heap} (e : (unK op x).run call h = some (v, h')) : SOut P (Op.unary op xv) X I ρ w v h' := by
  unfold unK at e
  split at e
  · cases hx with
    | pv hp =>
      refine retO_sound r (fun c z hcv hc => ?_) e
      subst hc
      unfold unPV at hcv
      split at hcv
      · cases hp
        split at hcv <;> cases hcv
        · exact ⟨_, rfl, .int _ _⟩
        · exact ⟨_, rfl, .int _ _⟩
      · cases hp
        split at hcv <;> cases hcv
        exact ⟨_, rfl, .bool _⟩
      · cases hcv
  · exact (fail_inv e).elim
set_option linter.unusedVariables false in
theorem nilchk_sound {x : AV} {xv : Value} (r : SRel X I ρ h w) (hx : VRel I w ρ x xv) {v : AV} {h' : Heap} (e : (nilchkK x).run call h = some (v, h')) : v = x ∧ h' = h ∧ ∃ a, xv = .pointer (some a) := by
  unfold nilchkK at e
  split at e
  · cases ret_inv e; cases hx; exact ⟨rfl, rfl, _, rfl⟩
  · cases ret_inv e; cases hx; exact ⟨rfl, rfl, _, rfl⟩
  · cases ret_inv e; cases hx; exact ⟨rfl, rfl, _, rfl⟩
  · exact (fail_inv e).elim
theorem max_sound {at_ : Array TypeId} {ty : TypeId} {x y : AV} {xv yv : Value} (r : SRel X I ρ h w) (hx : VRel I w ρ x xv) (hy : VRel I w ρ y yv) {v : AV} {h' : Heap} (e : (maxK x y).run call h = some (v, h')) : SOut P (Builtin.max_ at_ ty #[xv, yv]) X I ρ w v h' := by
  unfold maxK at e
  split at e
  · cases ret_inv e
    cases hx with
    | pv hp => cases hy with
      | pv hq => cases hp; cases hq; exact .now r rfl (.pv (.int _ _))
  · exact (fail_inv e).elim
theorem min_sound {at_ : Array TypeId} {ty : TypeId} {x y : AV} {xv yv : Value} (r : SRel X I ρ h w) (hx : VRel I w ρ x xv) (hy : VRel I w ρ y yv) {v : AV} {h' : Heap} (e : (minK x y).run call h = some (v, h')) : SOut P (Builtin.min_ at_ ty #[xv, yv]) X I ρ w v h' := by
  unfold minK at e
  split at e
  · cases ret_inv e
    cases hx with
    | pv hp => cases hy with
      | pv hq => cases hp; cases hq; exact .now r rfl (.pv (.int _ _))
  · exact (fail_inv e).elim
end
end Go.Proofs.Ytkeipmkiilimeaa.V
set_option linter.unusedSimpArgs false
namespace Go.Proofs.Ytkeipmkiilimeaa.V
open Go
section
variable {X : Ctx} {I : Nat → Prop} {ρ : Rho} {h : Heap} {w : World} {P : Program} {call : Call}
theorem bound_run {x : Value} {k : IntKind} {i : Int} {y : Nat} {code : BoundsCode} (hx : x = .int k i) (h0 : 0 ≤ i) (h1 : i ≤ (y : Int)) : (Instr.sliceBound x y code).run P w = .ok i.toNat w := by
  subst hx
  have : 0 ≤ i ∧ i ≤ (y : Int) := ⟨h0, h1⟩
  unfold Instr.sliceBound
  simp only [asIntOf, pure_bind, if_pos this, Sem.run_pure]
/-- The bounds of a slice expression. -/
theorem bounds_run {isS : Bool} {len cap n : Nat} {lo hi : Option AV} {xlo xhi : Option Value} (hn : n ≤ cap) (hlen : len = n)
    (rlo : (lo = none ∧ xlo = none) ∨ ∃ a x, lo = some a ∧ xlo = some x ∧ VRel I w ρ a x) (rhi : (hi = none ∧ xhi = none) ∨ ∃ a x, hi = some a ∧ xhi = some x ∧ VRel I w ρ a x)
    {k : Nat → Nat → HP} {r : AV × Heap} (e : (boundHi n (fun h => boundLo h (fun l => k l h) lo) hi).run call h = some r) :
    ∃ l hh, l ≤ hh ∧ hh ≤ n ∧ (k l hh).run call h = some r ∧ (Instr.sliceBounds isS len cap xlo xhi none).run P w = .ok (l, hh, cap) w := by
  subst hlen
  have withLo : ∀ hh, hh ≤ len → (boundLo hh (fun l => k l hh) lo).run call h = some r → ∃ l, l ≤ hh ∧ (k l hh).run call h = some r ∧
      ((match xlo with | some v => Instr.sliceBound v hh .sliceB | none => pure 0) : Sem Nat).run P w = .ok l w := by
    clear e
    intro hh hle e1
    rcases rlo with ⟨rfl, rfl⟩ | ⟨a, x, rfl, rfl, hv⟩
    · exact ⟨0, Nat.zero_le _, e1, rfl⟩
    · unfold boundLo at e1
      split at e1
      · rename_i heq; cases heq
      · rename_i kk l heq
        cases heq
        obtain ⟨h0, e2⟩ := chk_inv e1
        obtain ⟨h1, e3⟩ := chk_inv e2
        have h0 : 0 ≤ l := by simpa using h0
        have h1 : l ≤ (hh : Int) := by simpa using h1
        cases hv with
        | pv hp => exact ⟨l.toNat, by omega, e3, bound_run hp.int_inv h0 h1⟩
      · exact (fail_inv e1).elim
  rcases rhi with ⟨rfl, rfl⟩ | ⟨a, x, rfl, rfl, hv⟩
  · obtain ⟨l, h1, h2, h3⟩ := withLo len (Nat.le_refl _) e
    refine ⟨l, len, h1, Nat.le_refl _, h2, ?_⟩
    unfold Instr.sliceBounds
    cases xlo with
    | none => cases h3; rfl
    | some v =>
      simp only [Option.isSome_none, Bool.false_eq_true, if_false, pure_bind, Sem.run_bind] at h3 ⊢
      rw [h3]; rfl
  · unfold boundHi at e
    split at e
    · rename_i heq; cases heq
    · rename_i kk j heq
      cases heq
      obtain ⟨h0, e⟩ := chk_inv e
      obtain ⟨h1, e⟩ := chk_inv e
      have h0 : 0 ≤ j := by simpa using h0
      have h1 : j ≤ (len : Int) := by simpa using h1
      cases hv with
      | pv hp =>
        obtain ⟨l, g1, g2, g3⟩ := withLo j.toNat (by omega) e
        refine ⟨l, j.toNat, g1, by omega, g2, ?_⟩
        have hb := fun code => bound_run (P := P) (w := w) (y := cap) (code := code) hp.int_inv h0 (by omega)
        unfold Instr.sliceBounds
        cases xlo with
        | none =>
          cases g3
          simp only [Option.isSome_none, pure_bind, Sem.run_bind, hb, Result.andThen_ok]
          rfl
        | some v =>
          simp only [Option.isSome_none, Bool.false_eq_true, if_false, pure_bind, Sem.run_bind, hb, Result.andThen_ok] at g3 ⊢
          rw [g3]; rfl
    · exact (fail_inv e).elim
theorem sslice_sound {t : TypeId} (ht : P.underlying t = some .string) {x : AV} {lo hi : Option AV} {xv : Value} {xlo xhi : Option Value} (r : SRel X I ρ h w) (hx : VRel I w ρ x xv)
    (rlo : (lo = none ∧ xlo = none) ∨ ∃ a x, lo = some a ∧ xlo = some x ∧ VRel I w ρ a x) (rhi : (hi = none ∧ xhi = none) ∨ ∃ a x, hi = some a ∧ xhi = some x ∧ VRel I w ρ a x)
    {v : AV} {h' : Heap} (e : (ssliceK lo hi x).run call h = some (v, h')) : SOut P (Instr.sliceAt t xv xlo xhi none) X I ρ w v h' := by
  unfold ssliceK at e
  split at e
  · cases hx with
    | pv hp => cases hp with
      | str bs =>
        have hsz : bs.data.toList.length = bs.size := Array.length_toList
        obtain ⟨l, hh, h1, h2, e, h3⟩ := bounds_run (P := P) (isS := false) (cap := bs.size) (by omega) rfl rlo rhi e
        cases ret_inv e
        refine .now r (x := .string (bs.extract l hh)) ?_ (.pv (str_mk _ _ (Lib.extract_data bs l hh)))
        rw [hsz] at h3
        unfold Instr.sliceAt Instr.slice
        simp only [Sem.run_bind, run_underlying ht, Result.andThen_ok, Option.isSome_none, Bool.false_eq_true, if_false, pure_bind, h3, Sem.run_pure]
  · exact (fail_inv e).elim
theorem slice_run {t e n : Nat} {k : Option IntKind} (ht : elemT P t = some (e, n, k)) {a : Option Addr} {len cap l hh : Nat} {xlo xhi : Option Value} (hb : (Instr.sliceBounds true len cap xlo xhi none).run P w = .ok (l, hh, cap) w) :
    (Instr.sliceAt t (.slice a len cap) xlo xhi none).run P w = .ok (.slice (if cap = l then a else a.map (·.add (l * n))) (hh - l) (cap - l)) w := by
  obtain ⟨i, g1, g2, _, g3, _, _, _⟩ := elemT_inv ht
  have hn : sizeT P e = some n := by simp [sizeT, g2, g3]
  unfold Instr.sliceAt Instr.slice
  simp only [Sem.run_bind, run_underlying g1, Result.andThen_ok, hb, run_sizeOf hn, Sem.run_pure]
theorem slice_sound {t e n : Nat} {k : Option IntKind} (ht : elemT P t = some (e, n, k)) {x : AV} {lo hi : Option AV} {xv : Value} {xlo xhi : Option Value} (r : SRel X I ρ h w) (hx : VRel I w ρ x xv)
    (rlo : (lo = none ∧ xlo = none) ∨ ∃ a x, lo = some a ∧ xlo = some x ∧ VRel I w ρ a x) (rhi : (hi = none ∧ xhi = none) ∨ ∃ a x, hi = some a ∧ xhi = some x ∧ VRel I w ρ a x)
    {v : AV} {h' : Heap} (e : (sliceK n lo hi x).run call h = some (v, h')) : SOut P (Instr.sliceAt t xv xlo xhi none) X I ρ w v h' := by
  have hn0 : n ≠ 0 := by obtain ⟨_, _, _, _, _, h, _⟩ := elemT_inv ht; exact h
  unfold sliceK at e
  split at e
  · rename_i p
    obtain ⟨hs, e⟩ := chk_inv e
    cases hx with
    | pv hp =>
      obtain ⟨a, cap, rfl, hcap, hz⟩ := prep_slice_inv (PV.esz_slice hs) hp
      obtain ⟨l, hh, h1, h2, e, h3⟩ := bounds_run (P := P) (isS := true) hcap rfl rlo rhi e
      cases ret_inv e
      refine .now r (slice_run ht h3) (.pv ?_)
      by_cases hnil : p = .nil
      · subst hnil
        cases hp with
        | nil =>
          have hl : l = 0 := by simp [PV.len] at h2; omega
          have hh0 : hh = 0 := by simp [PV.len] at h2; omega
          subst hl; subst hh0
          exact .nil
      · have hr := PV.real_of hs hnil
        obtain ⟨s1, s2, s3, s4⟩ := PV.sub_spec hs h1 h2
        by_cases he : hh = l
        · subst he
          rw [Nat.sub_self]
          exact prep_empty (PV.esz_slice s1) (fun e => by have := s2 hr; rw [e] at this; cases this) (by rw [s3]; omega) _ _
        · rcases hz with hz | ⟨b, off, rfl, hI, hc⟩
          · omega
          · rw [if_neg (by omega)]
            have hG := ContG.of hs hc
            have hG' : ContG I w b (off + l * n) n (p.sub l hh) := by
              intro i hi
              rw [s3] at hi
              rw [s4 i hi]
              obtain ⟨q1, q2, q3⟩ := hG (l + i) (by omega)
              refine ⟨q1, q2, fun j q hq => ?_⟩
              obtain ⟨v, hv, hp⟩ := q3 j q hq
              exact ⟨v, by rw [← hv, Nat.add_mul]; congr 2; omega, hp⟩
            have := prep_slice (cap := cap - l) hI (by rw [s3]; omega) (hG'.to s1 (s2 hr))
            rw [s3] at this
            simp only [Option.map_some, addr_add]
            exact this
  · rename_i id vw
    obtain ⟨o, hid, e⟩ := get_inv e
    unfold sliceRow at e
    split at e
    · rename_i c m
      obtain ⟨hs, e⟩ := chk_inv e
      rcases row_at r hid hx with ⟨g1, rfl, g2, g3, g4, g5⟩ | ⟨b, base, N, cap, a, cap', g1, rfl, g2, g3, g4, g5, g6, _⟩
      · obtain ⟨l, hh, h1, h2, e, h3⟩ := bounds_run (P := P) (isS := true) (cap := 0) (by omega) g2.symm rlo rhi e
        cases ret_inv e
        have hl : l = 0 := by omega
        have hh0 : hh = 0 := by omega
        subst hl; subst hh0
        refine .now r (slice_run ht h3) ?_
        have : subView vw 0 0 = some (0, 0) := by
          cases vw with
          | none => rfl
          | some q => simp only [viewOff] at g5; simp [subView, g5]
        rw [this]
        exact .view0 g1
      · obtain ⟨l, hh, h1, h2, e, h3⟩ := bounds_run (P := P) (isS := true) g3 rfl rlo rhi e
        cases ret_inv e
        refine .now r (slice_run ht h3) ?_
        have hN : n = N := by
          rcases r.objs id _ hid with ⟨g1', _⟩ | ⟨_, _, _, _, _, _, _, _, g1', _, _, _, g5', g6', _⟩
          · rw [g1] at g1'; cases g1'
          · rw [g1] at g1'; cases g1'; exact esz_unique g6'.real hs g5'
        subst hN
        have hvw : subView vw l hh = some (viewOff vw + l, hh - l) := by
          cases vw with
          | none => simp [subView, viewOff]
          | some q => rfl
        rw [hvw]
        obtain ⟨o', rfl, g4, g4'⟩ := g4
        by_cases hcl : cap' = l
        · rw [if_pos hcl]
          exact .view g1 (by omega) (by omega) ⟨o', rfl, by omega, .inr ⟨by omega, by omega⟩⟩
        · rw [if_neg hcl]
          simp only [Option.map_some]
          rw [addr_add]
          refine .view g1 (by omega) (by omega) ⟨o' + l, ?_, by omega, ?_⟩
          · congr 1
            rw [Nat.add_mul]; omega
          · rcases g4' with rfl | g4'
            · exact .inl rfl
            · omega
    · exact (fail_inv e).elim
  · exact (fail_inv e).elim
end
end Go.Proofs.Ytkeipmkiilimeaa.V
set_option linter.unusedSimpArgs false
namespace Go.Proofs.Ytkeipmkiilimeaa.V
open Go
section
variable {X : Ctx} {I : Nat → Prop} {ρ : Rho} {h : Heap} {w : World} {P : Program} {call : Call}
/-- A row in a place of its own. -/
theorem addRow {w' : World} {id b base n cap : Nat} {c : PV} {arr : Array Value} {et : TypeId} {lo hi : Nat} (r : SRel X I ρ h w) (hid : h id = none) (f : Free X I ρ h w (some b)) (s : But w w' (some b))
    (hb : w'.heap[b]? = some (.cells arr et (lo, hi))) (hsz : base + cap * n ≤ arr.size) (hl : c.len ≤ cap) (he : c.esz n = true) (hc : ContRep I w' b base c) (hf : ∀ o, o < arr.size → ¬ (lo ≤ o ∧ o < hi)) :
    Out X I ρ w (.row id none) (hup h id (some (some (.row c true)))) (.slice (some ⟨b, base, none⟩) c.len cap) w' := by
  have ex : Ext I ρ w I (rup ρ id (.row b base n cap c.len)) w' := r.butExt hid f s
  refine ⟨I, rup ρ id (.row b base n cap c.len), ex, r.add (l := .row b base n cap c.len) hid f s rfl ?_, .row (rup_same _ _ _) hl⟩
  exact .inr ⟨b, base, n, cap, arr, et, lo, hi, rup_same _ _ _, hb, hsz, hl, he, hc, fun _ => hf, fun h => by cases h⟩
theorem drew_same (w : World) : Same w w.drew := ⟨rfl, rfl, rfl, rfl⟩
theorem But.same {w w' w'' : World} {ob : Option Nat} (s : But w w' ob) (t : Same w' w'') : But w w'' ob :=
  ⟨fun b hb he => by rw [t.heap]; exact s.heap b hb he, by rw [t.heap]; exact s.size, t.os.trans s.os, t.tape.trans s.tape, t.output.trans s.output⟩
theorem Same.butL {w w' w'' : World} {ob : Option Nat} (t : Same w w') (s : But w' w'' ob) : But w w'' ob :=
  ⟨fun b hb he => by rw [s.heap b (by rw [t.heap]; exact hb) he, t.heap], by rw [← t.heap]; exact s.size, s.os.trans t.os, s.tape.trans t.tape, s.output.trans t.output⟩
theorem strToBytes_sound {e : TypeId} {d : Nat} {s : List UInt8} {xv : Value} (r : SRel X I ρ h w) (hx : VRel I w ρ (.pv (.str s)) xv) {v : AV} {h' : Heap}
    (hr : (HP.new d (.row (.ints .u8 (bytesOf s)) true) (.ret (.row d none))).run call h = some (v, h')) : ∃ bs, xv = .string bs ∧ SOut P (Conv.stringToBytes e bs) X I ρ w v h' := by
  obtain ⟨hid, hr⟩ := new_inv hr
  cases ret_inv hr
  cases hx with
  | pv hp =>
    cases hp with
    | str bs =>
      refine ⟨bs, rfl, ?_⟩
      have hsz : bs.data.size = bs.size := rfl
      generalize hcap : (Question.appendCap bs.size 0 e).cut (w.tape w.drawn (.appendCap bs.size 0 e)) = cap
      have hge : bs.size ≤ cap := by rw [← hcap]; simp only [Question.cut]; omega
      let arr : Array Value := (bs.data.map fun b => Value.int .u8 b.toNat) ++ Array.replicate (cap - bs.size) (.int .u8 0)
      have harr : arr.size = cap := by simp [arr, hsz]; omega
      have hrun : (Conv.stringToBytes e bs).run P w = .ok (.slice (some ⟨w.heap.size, 0, none⟩) bs.size cap) (({ w.drew with heap := w.heap.push (.cells arr e) } : World).freeze ⟨w.heap.size, arr.size, none⟩ 1) := by
        unfold Conv.stringToBytes
        simp only [Sem.run_bind, run_choose, Question.forced, Bool.false_eq_true, if_false, Result.andThen_ok, hcap, run_newRow, markStringish, run_shape]
        simp [World.shape?, arr]
        rfl
      let w1 : World := { w.drew with heap := w.heap.push (.cells arr e) }
      have hb1 : w1.heap[w.heap.size]? = some (.cells arr e (0, 0)) := by simp [w1]
      have hb2 : (w1.freeze ⟨w.heap.size, arr.size, none⟩ 1).heap[w.heap.size]? = some (.cells arr e (arr.size, arr.size + 1)) := by
        simp only [World.freeze, Nat.reduceEqDiff, if_false, Array.getElem?_modify, hb1, if_true, Option.map_some]
        rfl
      have but : But w (w1.freeze ⟨w.heap.size, arr.size, none⟩ 1) (some w.heap.size) := by
        refine ⟨fun b hb hne => ?_, ?_, rfl, rfl, rfl⟩
        · simp only [World.freeze, Nat.reduceEqDiff, if_false, Array.getElem?_modify]
          rw [if_neg (fun e => hne (by rw [e]))]
          simp [w1, Array.getElem?_push, show b ≠ w.heap.size by omega]
        · simp [World.freeze, w1]
      have hlen : (PV.ints .u8 (bytesOf bs.data.toList)).len = bs.size := by simp [PV.len, bytesOf, hsz]
      have hcont : ContRep I (w1.freeze ⟨w.heap.size, arr.size, none⟩ 1) w.heap.size 0 (.ints .u8 (bytesOf bs.data.toList)) := by
        intro i x hi
        rw [cell_cells hb2, Nat.zero_add]
        simp only [bytesOf, List.getElem?_map, Option.map_eq_some_iff] at hi
        obtain ⟨b, hb, rfl⟩ := hi
        have hlt : i < bs.data.size := by have := (List.getElem?_eq_some_iff.1 hb).1; simpa using this
        rw [Array.getElem?_toList, Array.getElem?_eq_getElem hlt] at hb
        cases hb
        simp only [arr]
        rw [Array.getElem?_append_left (by simpa using hlt), Array.getElem?_map, Array.getElem?_eq_getElem hlt]
        rfl
      have out := addRow (base := 0) (n := 1) (cap := cap) (c := .ints .u8 (bytesOf bs.data.toList)) r hid (free_new X I ρ h w) but hb2 (by omega) (by rw [hlen]; exact hge) rfl hcont (fun o ho => by omega)
      rw [hlen] at out
      exact ⟨_, _, hrun, out⟩
theorem retText_sound {p : PV} {xv : Value} (r : SRel X I ρ h w) {J : Nat → Prop} (hp : PRep J w p xv) {v : AV} {h' : Heap} (e : (retText p).run call h = some (v, h')) : SOut P (Conv.bytesToString xv) X I ρ w v h' := by
  unfold retText at e
  split at e
  · rename_i l
    cases ret_inv e
    obtain ⟨a, cap, rfl, _, hz⟩ := prep_slice_inv rfl hp
    have push : ∀ (l : List Int) (s : ByteArray), (l.foldl (fun r n => r.push (UInt8.ofNat n.toNat)) s).data.toList = s.data.toList ++ textOf l := by
      intro l
      induction l with
      | nil => intro s; simp [textOf]
      | cons n l ih => intro s; rw [List.foldl_cons, ih]; simp [textOf]
    have fin : ∀ (a : Addr), (loadCells a l.length).run P w = .ok (l.map (Value.int .u8)).toArray w → SOut P (Conv.bytesToString (.slice (some a) l.length cap)) X I ρ w (.pv (.str (textOf l))) h := by
      intro a hl
      refine .now r (run_bytesToString w a l.length cap l hl) (.pv (str_mk _ _ ?_))
      rw [push]; rfl
    rcases hz with hz | ⟨b, off, rfl, _, hc⟩
    · have hl : l = [] := List.eq_nil_of_length_eq_zero hz
      subst hl
      cases a with
      | none => exact .now r rfl (.pv (str_mk _ _ rfl))
      | some a => exact fin a rfl
    · refine fin ⟨b, off, none⟩ ?_
      have := run_loadCells_list (P := P) w ⟨b, off, none⟩ (l.map (Value.int .u8)) (fun j v hj => by
        simp only [List.getElem?_map, Option.map_eq_some_iff] at hj
        obtain ⟨x, hx, rfl⟩ := hj
        rw [addr_add]; exact hc j x hx)
      simpa using this
  · cases ret_inv e
    cases hp with
    | nil => exact .now r rfl (.pv (str_mk _ _ rfl))
  · exact (fail_inv e).elim
theorem conv_sound {s d : TypeId} {c : ACv} (ht : trConv P s d = some c) {dst : Nat} {x : AV} {xv : Value} (r : SRel X I ρ h w) (hx : VRel I w ρ x xv) {v : AV} {h' : Heap} (e : (convK dst c x).run call h = some (v, h')) :
    SOut P (convert s d xv) X I ρ w v h' := by
  unfold trConv at ht
  split at ht
  · rename_i k1 k2 hs hd
    cases ht
    unfold convK at e
    split at e <;> (try (rename_i heq; cases heq; done)) <;> try exact (fail_inv e).elim
    · rename_i heq; cases heq
      cases ret_inv e
      cases hx with
      | pv hp =>
        cases hp.int_inv
        refine .now r ?_ (.pv (.int _ _))
        unfold convert
        simp only [Sem.run_bind, run_underlying hs, run_underlying hd, Result.andThen_ok, Conv.intToInt, Sem.run_pure]
  · rename_i hs hd
    cases ht
    unfold convK at e
    split at e <;> (try (rename_i heq; cases heq; done)) <;> try exact (fail_inv e).elim
    · cases ret_inv e
      cases hx with
      | pv hp =>
        cases hp
        refine .now r ?_ (.pv (.str _))
        unfold convert
        simp only [Sem.run_bind, run_underlying hs, run_underlying hd, Result.andThen_ok, Sem.run_pure]
  · rename_i e1 hs hd
    split at ht
    · rename_i hk
      cases ht
      have hu : P.underlying e1 = some (.int .u8) := by
        unfold kindT at hk
        split at hk
        · rename_i k hk'; cases hk; exact hk'
        · cases hk
      have red : ∀ a l c, (convert s d (.slice a l c)).run P w = (Conv.bytesToString (.slice a l c)).run P w := fun a l c => run_convert_bytes_string w s d e1 a l c hs hu hd
      unfold convK at e
      split at e <;> (try (rename_i heq; cases heq; done)) <;> try exact (fail_inv e).elim
      · cases hx with
        | pv hp =>
          have hsl : ∃ a l c, xv = .slice a l c := by
            unfold retText at e
            split at e
            · obtain ⟨a, cap, rfl, _⟩ := prep_slice_inv rfl hp; exact ⟨_, _, _, rfl⟩
            · cases hp; exact ⟨_, _, _, rfl⟩
            · exact (fail_inv e).elim
          obtain ⟨a, l, c, rfl⟩ := hsl
          obtain ⟨x, w', h1, h2⟩ := retText_sound (P := P) r hp e
          exact ⟨x, w', (red _ _ _).trans h1, h2⟩
      · obtain ⟨o, hid, e⟩ := get_inv e
        unfold rowText at e
        split at e
        · obtain ⟨h1, _, _⟩ := row_view r hid hx
          obtain ⟨a, cap, rfl⟩ := row_len r hid hx
          obtain ⟨x, w', h1, h2⟩ := retText_sound (P := P) r h1 e
          exact ⟨x, w', (red _ _ _).trans h1, h2⟩
        · exact (fail_inv e).elim
    · cases ht
  · rename_i e1 hs hd
    split at ht
    · rename_i hk
      cases ht
      have hu : P.underlying e1 = some (.int .u8) := by
        unfold kindT at hk
        split at hk
        · rename_i k hk'; cases hk; exact hk'
        · cases hk
      unfold convK at e
      split at e <;> (try (rename_i heq; cases heq; done)) <;> try exact (fail_inv e).elim
      · obtain ⟨bs, rfl, x, w', h1, h2⟩ := strToBytes_sound (P := P) (e := e1) r hx e
        refine ⟨x, w', ?_, h2⟩
        unfold convert
        simp only [Sem.run_bind, run_underlying hs, run_underlying hd, run_underlying hu, Result.andThen_ok]
        exact h1
    · cases ht
  · cases ht
end
end Go.Proofs.Ytkeipmkiilimeaa.V
set_option linter.unusedSimpArgs false
namespace Go.Proofs.Ytkeipmkiilimeaa.V
open Go
section
variable {X : Ctx} {I : Nat → Prop} {ρ : Rho} {h : Heap} {w : World} {P : Program} {call : Call}
theorem fold_set (off : Nat) : ∀ (l : List Value) (s : Nat) (cells : Array Value), off + s + l.length ≤ cells.size →
    ((l.zipIdx s).foldl (fun cs (x : Value × Nat) => cs.setIfInBounds (off + x.2) x.1) cells).size = cells.size ∧
    ∀ i, ((l.zipIdx s).foldl (fun cs (x : Value × Nat) => cs.setIfInBounds (off + x.2) x.1) cells)[i]? = if off + s ≤ i ∧ i < off + s + l.length then l[i - (off + s)]? else cells[i]?
  | [], s, cells, _ => ⟨rfl, fun i => by rw [if_neg (by rintro ⟨h1, h2⟩; simp at h2; omega)]; rfl⟩
  | v :: l, s, cells, hl => by
    simp only [List.length_cons] at hl
    simp only [List.zipIdx_cons, List.foldl_cons]
    obtain ⟨h1, h2⟩ := fold_set off l (s + 1) (cells.setIfInBounds (off + s) v) (by simp; omega)
    refine ⟨by rw [h1]; simp, fun i => ?_⟩
    rw [h2 i]
    by_cases e0 : i = off + s
    · subst e0
      rw [if_neg (by omega), if_pos (by simp)]
      simp [show off + s < cells.size by omega]
    · rw [Array.getElem?_setIfInBounds_ne (by omega)]
      by_cases e1 : off + (s + 1) ≤ i ∧ i < off + (s + 1) + l.length
      · rw [if_pos e1, if_pos (by simp; omega)]
        obtain ⟨d, hd⟩ : ∃ d, i - (off + s) = d + 1 := ⟨i - (off + s) - 1, by omega⟩
        rw [hd, List.getElem?_cons_succ]
        congr 1
        omega
      · rw [if_neg e1, if_neg (by simp; omega)]
theorem fill_set (off : Nat) (v : Value) (cells : Array Value) (hl : off + v.cells.size ≤ cells.size) :
    (v.cells.zipIdx.foldl (fun cs (c, j) => cs.setIfInBounds (off + j) c) cells).size = cells.size ∧
    ∀ i, (v.cells.zipIdx.foldl (fun cs (c, j) => cs.setIfInBounds (off + j) c) cells)[i]? = if off ≤ i ∧ i < off + v.cells.size then v.cells[i - off]? else cells[i]? := by
  have := fold_set off v.cells.toList 0 cells (by simpa using hl)
  have e : v.cells.zipIdx.foldl (fun cs (c, j) => cs.setIfInBounds (off + j) c) cells = (v.cells.toList.zipIdx 0).foldl (fun cs (x : Value × Nat) => cs.setIfInBounds (off + x.2) x.1) cells := by
    rw [← Array.foldl_toList, Array.toList_zipIdx]
  rw [e]
  simpa using this
theorem places_at (P : Program) : ∀ (fs : List Field) (places : List (Nat × Nat)), fs.mapM (fun f => (P.info? f.type).map fun i => (f.offset, i.size)) = some places → ∀ (i : Nat) (f : Field) (n : Nat), fs[i]? = some f → sizeT P f.type = some n → places[i]? = some (f.offset, n)
  | [], places, h, i, f, n, hf, _ => by simp at hf
  | g :: fs, places, h, i, f, n, hf, hn => by
    simp only [List.mapM_cons, Option.bind_eq_bind, Option.pure_def, Option.bind_eq_some_iff, Option.map_eq_some_iff] at h
    obtain ⟨p, ⟨j, hj, rfl⟩, rest, hr, h⟩ := h
    cases h
    cases i with
    | zero =>
      simp at hf; subst hf
      simp only [sizeT, hj, Option.map_some, Option.some.injEq] at hn
      simp [hn]
    | succ i => simpa using places_at P fs rest hr i f n (by simpa using hf) hn
theorem places_some {P : Program} : ∀ (fs : List Field), fs.all (fun f => (P.info? f.type).isSome) = true → ∃ places, fs.mapM (fun f => (P.info? f.type).map fun i => (f.offset, i.size)) = some places
  | [], _ => ⟨[], rfl⟩
  | f :: fs, h => by
    simp only [List.all_cons, Bool.and_eq_true] at h
    obtain ⟨i, hi⟩ := Option.isSome_iff_exists.1 h.1
    obtain ⟨r, hr⟩ := places_some fs h.2
    exact ⟨(f.offset, i.size) :: r, by simp [List.mapM_cons, hi, hr]⟩
theorem build_fill {fs : Array Field} {place : Nat → Option (Nat × Nat)} (hp : ∀ (i : Nat) (f : Field) (n : Nat), fs[i]? = some f → sizeT P f.type = some n → place i = some (f.offset, n)) {env : Env} {a : Act} (he : ERel I w ρ env a.tmps) :
    ∀ (qs0 : List AOpd) (parts : List (Nat × Operand)) (ps : List (Nat × Nat × AOpd)) (_ : trParts P fs qs0 parts = some ps) (cs cs' : List AV) (arr : Array Value) (_ : arr.size = cs.length) (_ : ∀ c ∈ cs, c.sc = true)
      (_ : ∀ (i : Nat) (c : AV) (v : Value), cs[i]? = some c → arr[i]? = some v → VRel I w ρ c v) (_ : layParts cs (ps.map fun p => (p.1, p.2.1, (opd env p.2.2).cells)) = some cs'),
    ∃ arr', Instr.fill place arr (parts.map fun p => (p.1, a.eval p.2)) = some arr' ∧ arr'.size = cs'.length ∧ (∀ c ∈ cs', c.sc = true) ∧ ∀ (i : Nat) (c : AV) (v : Value), cs'[i]? = some c → arr'[i]? = some v → VRel I w ρ c v
  | _, [], ps, ht, cs, cs', arr, h1, h2, h3, hl => by
    simp only [trParts, Option.some.injEq] at ht
    subst ht
    cases hl
    exact ⟨arr, rfl, h1, h2, h3⟩
  | qs0, (i, x) :: parts, ps, ht, cs, cs', arr, h1, h2, h3, hl => by
    simp only [trParts, Option.bind_eq_some_iff, Option.map_eq_some_iff] at ht
    obtain ⟨f, hf, n, hn, y, hy, qs, hq, rfl⟩ := ht
    simp only [List.map_cons] at hl ⊢
    cases hc : (opd env y).cells with
    | none => rw [hc] at hl; cases hl
    | some vs =>
      rw [hc] at hl
      simp only [layParts] at hl
      split at hl
      · rename_i hvn
        split at hl
        · rename_i hle
          obtain ⟨c1, c2, c3⟩ := cells_rep hc (trOpd_rep hy he)
          have hsz : f.offset + (a.eval x).cells.size ≤ arr.size := by rw [← c1, h1]; exact hle
          obtain ⟨g1, g2⟩ := fill_set f.offset (a.eval x) arr hsz
          obtain ⟨arr', k1, k2, k3, k4⟩ := build_fill hp he qs0.tail parts qs hq (setCells cs f.offset vs) cs' _ (by rw [g1, h1, setCells_length hle]) (fun c hc => (setCells_mem hc).elim (h2 c) (c2 c)) (fun j c v hj hv => by
            rw [setCells_get hle] at hj
            rw [g2 j, ← c1] at hv
            split at hj
            · rw [if_pos ‹_›] at hv; exact c3 _ c v hj hv
            · rw [if_neg ‹_›] at hv; exact h3 j c v hj hv) hl
          refine ⟨arr', ?_, k2, k3, k4⟩
          simp only [Instr.fill, hp i f n hf hn]
          rw [if_neg (by simp only [ne_eq, Bool.or_eq_true, decide_eq_true_eq, not_or, Decidable.not_not, Nat.not_lt]; exact ⟨by rw [← c1, hvn], by rw [← c1] at hsz ⊢; exact hsz⟩)]
          exact k1
        · cases hl
      · cases hl
theorem build_sound {qz : List PV} {qo : List AOpd} {t : TypeId} {fs : Array Field} {z : List PV} {parts : Array (Nat × Operand)} {ps : List (Nat × Nat × AOpd)} (hu : P.underlying t = some (.struct fs)) (hz : zeroPV P qz t = some z) (hsz : trSizes P fs = true) (ht : trParts P fs qo parts.toList = some ps)
    {env : Env} {a : Act} (r : SRel X I ρ h w) (he : ERel I w ρ env a.tmps) {v : AV} {h' : Heap} (e : (retCells (layParts (z.map .pv) (ps.map fun p => (p.1, p.2.1, (opd env p.2.2).cells)))).run call h = some (v, h')) :
    SOut P (Instr.build t (parts.map fun (i, x) => (i, a.eval x))) X I ρ w v h' := by
  unfold retCells at e
  split at e
  · rename_i cs' hl
    cases ret_inv e
    simp only [zeroPV, Option.bind_eq_some_iff] at hz
    obtain ⟨it, hit, zv, hzv, hz⟩ := hz
    split at hz
    · obtain ⟨p1, p2, p3⟩ := constsPV_rep (I := I) (w := w) hz
      obtain ⟨places, hpl⟩ := places_some fs.toList hsz
      obtain ⟨arr', k1, k2, k3, k4⟩ := build_fill (P := P) (fs := fs) (place := (places.toArray[·]?)) (fun i f n hf hn => by
        have := places_at P fs.toList places hpl i f n (by simpa using hf) hn
        simpa using this) he qo parts.toList ps ht (z.map .pv) cs' zv.cells (by simpa using p1.symm) (fun c hc => by
          obtain ⟨q, hq, rfl⟩ := List.mem_map.1 hc; exact p2 q hq) (fun i c v hc hv => by
          simp only [List.getElem?_map, Option.map_eq_some_iff] at hc
          obtain ⟨q, hq, rfl⟩ := hc
          exact .pv (p3 i q v hq (by simpa using hv))) hl
      refine .now r (run_build w t _ arr' ?_) (mkAgg_rep k2.symm k3 k4)
      unfold Program.built
      simp only [hit, hu, hzv, hpl, Array.toList_map]
      exact k1
    · cases hz
  · exact (fail_inv e).elim
end
/-- The elements of a composite literal, one behind the other. -/
theorem fill_elems (n : Nat) : ∀ (vals : List Value) (i : Nat) (arr : Array Value), (∀ v ∈ vals, v.cells.size = n) → (i + vals.length) * n ≤ arr.size →
    ∃ arr', Instr.fill (fun i => some (i * n, n)) arr (vals.zipIdx i |>.map fun x => (x.2, x.1)) = some arr' ∧ arr'.size = arr.size ∧ (∀ j, j < i * n → arr'[j]? = arr[j]?) ∧
      ∀ (k : Nat) (v : Value) (j : Nat), vals[k]? = some v → j < n → arr'[(i + k) * n + j]? = v.cells[j]?
  | [], i, arr, _, _ => ⟨arr, rfl, rfl, fun _ _ => rfl, fun k v j h => by simp at h⟩
  | v :: vals, i, arr, hn, hs => by
    have hv := hn v (by simp)
    have hmul : (i + 1) * n ≤ arr.size := Nat.le_trans (Nat.mul_le_mul_right n (by simp)) hs
    have hi1 : (i + 1) * n = i * n + n := by rw [Nat.add_mul, Nat.one_mul]
    obtain ⟨g1, g2⟩ := fill_set (i * n) v arr (by rw [hv]; omega)
    obtain ⟨arr', k1, k2, k3, k4⟩ := fill_elems n vals (i + 1) _ (fun u hu => hn u (by simp [hu])) (by rw [g1]; simpa [Nat.add_assoc, Nat.add_comm 1] using hs)
    refine ⟨arr', ?_, k2.trans g1, fun j hj => ?_, fun k u j hk hj => ?_⟩
    · simp only [List.zipIdx_cons, List.map_cons, Instr.fill]
      rw [if_neg (by simp only [ne_eq, Bool.or_eq_true, decide_eq_true_eq, not_or, Decidable.not_not, Nat.not_lt]; exact ⟨hv, by rw [hv]; omega⟩)]
      exact k1
    · rw [k3 j (by omega), g2 j, if_neg (by omega)]
    · cases k with
      | zero =>
        simp at hk; subst hk
        rw [Nat.add_zero, k3 _ (by omega), g2, if_pos (by omega)]
        congr 1; omega
      | succ k =>
        rw [show i + (k + 1) = i + 1 + k by omega]
        exact k4 k u j (by simpa using hk) hj
theorem inOrder_zip : ∀ (parts : List (Nat × Operand)) (i : Nat), inOrder i parts = true → parts = ((parts.map (·.2)).zipIdx i).map fun x => (x.2, x.1)
  | [], i, _ => rfl
  | (j, x) :: r, i, h => by
    simp only [inOrder, Bool.and_eq_true, beq_iff_eq] at h
    simp only [List.map_cons, List.zipIdx_cons]
    rw [← inOrder_zip r (i + 1) h.2, h.1]
theorem elemV_cells {n : Nat} {qs : List PV} (hl : qs.length = n) (hs : ∀ q ∈ qs, q.sc = true) : (elemV n qs).cells = qs := by
  unfold elemV
  split
  · match qs, hl, hs with
    | [q], _, hs =>
      have := hs q (by simp)
      cases q <;> first | rfl | cases this
  · rfl
theorem PV.lits_get {k : IntKind} : ∀ {ps : List PV} {l : List Int}, PV.lits k ps = some l → ps = l.map (PV.int k)
  | [], l, h => by cases h; rfl
  | p :: ps, l, h => by
    cases p with
    | int k' x =>
      replace h : (if k = k' then (PV.lits k ps).map (x :: ·) else none) = some l := h
      split at h
      · rename_i hk
        subst hk
        simp only [Option.map_eq_some_iff] at h
        obtain ⟨l', hl, rfl⟩ := h
        rw [PV.lits_get hl]; rfl
      · cases h
    | _ => cases h
theorem PV.ofLits_spec {n : Nat} {k : Option IntKind} {ps : List PV} {c : PV} (hn : k ≠ none → n = 1) (h : PV.ofLits n k ps = some c) : c.esz n = true ∧ c.real = true ∧ c.len = ps.length ∧ ∀ i (hi : i < ps.length), c.get i = ps[i] := by
  unfold PV.ofLits at h
  split at h
  · rename_i k
    simp only [Option.map_eq_some_iff] at h
    obtain ⟨l, hl, rfl⟩ := h
    have := PV.lits_get hl
    subst this
    have hn1 := hn (by simp)
    subst hn1
    refine ⟨rfl, rfl, by simp [PV.len], fun i hi => ?_⟩
    rw [PV.get_ints (by simpa using hi)]
    simp
  · split at h
    · cases h
      exact ⟨by simp [PV.esz], rfl, rfl, fun i hi => PV.get_sl hi⟩
    · cases h
section
variable {X : Ctx} {I : Nat → Prop} {ρ : Rho} {h : Heap} {w : World} {P : Program} {call : Call}
theorem elems_sound {n : Nat} : ∀ {xs : List AV} {vals : List Value} {k : List PV → List Nat → HP} {r : AV × Heap} (_ : SRel X I ρ h w) (_ : xs.length = vals.length) (_ : ∀ (i : Nat) (x : AV) (v : Value), xs[i]? = some x → vals[i]? = some v → VRel I w ρ x v)
    (_ : (elemsK (xs.map AV.cells) n k).run call h = some r), ∃ ps ids, (k ps ids).run call h = some r ∧ ps.length = vals.length ∧ Lent h ids ∧ (∀ v ∈ vals, v.cells.size = n) ∧ (∀ v ∈ vals, ∀ y ∈ v.cells.toList, Value.one y = true) ∧
      (∀ p ∈ ps, p.cells.length = n ∧ ∀ q ∈ p.cells, q.sc = true) ∧ ∀ (i : Nat) (p : PV) (v : Value) (j : Nat) (q : PV) (y : Value), ps[i]? = some p → vals[i]? = some v → p.cells[j]? = some q → v.cells[j]? = some y → PRep (Iadds I ρ ids) w q y
  | [], vals, k, r, s, hl, _, e => by
    cases vals with
    | nil => exact ⟨[], [], e, rfl, by simp [Lent], by simp, by simp, by simp, by simp⟩
    | cons _ _ => simp at hl
  | x :: xs, vals, k, r, s, hl, hv, e => by
    cases vals with
    | nil => simp at hl
    | cons v vals =>
      simp only [List.map_cons] at e
      cases hc : x.cells with
      | none => rw [hc] at e; exact (fail_inv e).elim
      | some vs =>
        rw [hc] at e
        obtain ⟨hvn, e⟩ := chk_inv e
        have hvn : vs.length = n := by simpa using hvn
        have hx := hv 0 x v rfl rfl
        obtain ⟨c1, c2, c3⟩ := cells_rep hc hx
        obtain ⟨qs, ids, e, p1, p2, p3, p4⟩ := frzs_sound s (xs := v.cells.toList) (by simpa using c1) c2 (fun i c y hc hy => c3 i c y hc (by simpa using hy)) e
        obtain ⟨ps, ids', e, q1, q2, q3, q5, q6, q7⟩ := elems_sound s (by simpa using hl) (fun i x' v' h1 h2 => hv (i + 1) x' v' (by simpa using h1) (by simpa using h2)) e
        have hql : qs.length = n := by rw [p1, ← hvn, c1]; simp
        refine ⟨elemV n qs :: ps, ids ++ ids', e, by simp [q1], ?_, ?_, ?_, ?_, ?_⟩
        · intro i hi
          rcases List.mem_append.1 hi with hi | hi
          · exact p3 i hi
          · exact q2 i hi
        · intro u hu
          rcases List.mem_cons.1 hu with rfl | hu
          · rw [← c1, hvn]
          · exact q3 u hu
        · intro u hu y hy
          rcases List.mem_cons.1 hu with rfl | hu
          · obtain ⟨i, hi⟩ := List.mem_iff_getElem?.1 hy
            have hlt : i < vs.length := by rw [c1]; have := (List.getElem?_eq_some_iff.1 hi).1; simpa using this
            exact (c3 i vs[i] y (List.getElem?_eq_getElem hlt) (by simpa using hi)).one (c2 _ (List.getElem_mem hlt))
          · exact q5 u hu y hy
        · intro p hp
          rcases List.mem_cons.1 hp with rfl | hp
          · rw [elemV_cells hql p2]; exact ⟨hql, p2⟩
          · exact q6 p hp
        · intro i p u j q y hp hu hq hy
          cases i with
          | zero =>
            simp at hp hu
            subst hp; subst hu
            rw [elemV_cells hql p2] at hq
            exact (p4 j q y hq (by simpa using hy)).iadds fun i hi => by simp [hi]
          | succ i => exact (q7 i p u j q y (by simpa using hp) (by simpa using hu) hq hy).iadds fun i hi => by simp [hi]
theorem bslice_sound {qz : List PV} {qo : List AOpd} {t e : TypeId} {n len : Nat} {k : Option IntKind} (ht : elemT P t = some (e, n, k)) {parts : Array (Nat × Operand)} {xs : List AOpd} (ho : inOrder 0 parts.toList = true) (hlen : parts.size = len) (hbig : len * n ≤ 65536) (hz : (zeroPV P qz e).isSome = true)
    (hxs : trOpds qo (parts.toList.map (·.2)) = some xs) {env : Env} {a : Act} (r : SRel X I ρ h w) (he : ERel I w ρ env a.tmps) {d : Nat} {v : AV} {h' : Heap} (er : (bsliceK d n k (xs.map fun x => (opd env x).cells)).run call h = some (v, h')) :
    SOut P (Instr.buildSlice t len (parts.map fun (i, x) => (i, a.eval x))) X I ρ w v h' := by
  obtain ⟨i, g1, g2, _, g3, g4, _, g5⟩ := elemT_inv ht
  have hn : sizeT P e = some n := by simp [sizeT, g2, g3]
  obtain ⟨z, hz⟩ := Option.isSome_iff_exists.1 hz
  obtain ⟨zv, z1, z2, z3, z4, z5⟩ := zero_run hz
  obtain ⟨o1, o2⟩ := trOpds_rep he hxs
  unfold bsliceK at er
  have : (xs.map fun x => (opd env x).cells) = (xs.map (opd env)).map AV.cells := by simp
  rw [this] at er
  obtain ⟨ps, ids, er, q1, q2, q3, q4, q5, q6⟩ := elems_sound (n := n) r (xs := xs.map (opd env)) (vals := (parts.toList.map (·.2)).map a.eval) (by simp [o1]) (fun i x v hx hv => by
    simp only [List.getElem?_map, Option.map_eq_some_iff] at hx hv
    obtain ⟨y, hy, rfl⟩ := hx
    obtain ⟨u, hu, rfl⟩ := hv
    exact o2 i y u hy (by simpa using hu)) er
  unfold newRowK at er
  split at er
  · rename_i c hc
    obtain ⟨I', h1, er, s, ex, hb, hj⟩ := shut_sound (ids := ids) r er
    obtain ⟨hid, er⟩ := new_inv er
    cases ret_inv er
    obtain ⟨s1, s2, s3, s4⟩ := PV.ofLits_spec g5 hc
    have hsz : zv.cells.size = n := by rw [hn] at z3; exact (Option.some.inj z3).symm
    have hlen' : ((parts.toList.map (·.2)).map a.eval).length = len := by simp [hlen]
    let arr0 : Array Value := (Array.range (len * n)).map (zv.cells[· % zv.cells.size]!)
    obtain ⟨arr, k1, k2, _, k4⟩ := fill_elems n ((parts.toList.map (·.2)).map a.eval) 0 arr0 q3 (by rw [hlen']; simp [arr0])
    have hasz : arr.size = len * n := by rw [k2]; simp [arr0]
    have hparts : (parts.map fun (i, x) => (i, a.eval x)).toList = (((parts.toList.map (·.2)).map a.eval).zipIdx 0).map fun x => (x.2, x.1) := by
      have := inOrder_zip parts.toList 0 ho
      rw [Array.toList_map]
      conv => lhs; rw [this]
      generalize parts.toList.map (·.2) = L
      rw [List.zipIdx_map, List.map_map, List.map_map]
      rfl
    have hlc : c.len = len := by rw [s3, q1, hlen']
    have hrun : (Instr.buildSlice t len (parts.map fun (i, x) => (i, a.eval x))).run P w = .ok (.slice (some ⟨w.heap.size, 0, none⟩) len len) { w with heap := w.heap.push (.cells arr e) } := by
      unfold Instr.buildSlice
      have hnb : ¬ (len * n > 2 ^ 24) := by omega
      simp only [Sem.run_bind, run_underlying g1, Result.andThen_ok, run_sizeOf hn, if_neg hnb, hparts]
      by_cases h0 : len * n = 0
      · rw [if_pos h0]
        have ha0 : arr0 = #[] := by simp [arr0, h0]
        rw [ha0] at k1
        have hr0 : (Array.range 0).map (fun x : Nat => (#[] : Array Value)[x % (#[] : Array Value).size]!) = #[] := by apply Array.eq_empty_of_size_eq_zero; simp
        simp only [pure_bind, Sem.run_bind, Sem.run_pure, Result.andThen_ok, h0, hr0, k1, run_newRow]
      · rw [if_neg h0]
        simp only [Sem.run_bind, z1, Result.andThen_ok, Sem.run_pure, pure_bind]
        simp only [arr0] at k1
        rw [k1]
        simp only [Sem.run_bind, run_newRow, Result.andThen_ok, Sem.run_pure]
    have hcont : ContRep I' ({ w with heap := w.heap.push (.cells arr e) } : World) w.heap.size 0 c := by
      refine ContG.to (n := n) s1 s2 fun i hi => ?_
      have hi' : i < ps.length := by rw [← s3]; exact hi
      rw [s4 i hi']
      obtain ⟨u1, u2⟩ := q5 _ (List.getElem_mem hi')
      refine ⟨u1, u2, fun j q hq => ?_⟩
      have hjn : j < n := by rw [← u1]; exact (List.getElem?_eq_some_iff.1 hq).1
      have hiv : i < ((parts.toList.map (·.2)).map a.eval).length := by rw [← q1]; exact hi'
      have hval := List.getElem?_eq_getElem hiv
      have hcz := q3 _ (List.getElem_mem hiv)
      have hy : (((parts.toList.map (·.2)).map a.eval)[i]).cells[j]? = some _ := Array.getElem?_eq_getElem (by omega)
      refine ⟨_, ?_, (q6 i _ _ j q _ (List.getElem?_eq_getElem hi') hval hq hy).mono hb fun b hb' => ?_⟩
      · rw [cell_cells (push_at w _)]
        have := k4 i _ j hval hjn
        rw [Nat.zero_add] at this
        rw [Nat.zero_add, this]
        exact hy
      · rw [Array.getElem?_push, if_neg (by have := (s.inI b (hb b hb')).1; omega)]
    have out := addRow (base := 0) (n := n) (cap := len) (c := c) s hid (free_new X I' ρ h1 w) (push_but w (.cells arr e)) (push_at w _) (by omega) (by omega) s1 hcont (fun o _ => by omega)
    rw [hlc] at out
    exact ⟨_, _, hrun, Out.of ex out⟩
  · exact (fail_inv er).elim
end
end Go.Proofs.Ytkeipmkiilimeaa.V
set_option linter.unusedSimpArgs false
namespace Go.Proofs.Ytkeipmkiilimeaa.V
open Go
theorem wrap_small {n : Int} (h0 : 0 ≤ n) (h1 : n < 9223372036854775808) : IntKind.i64.wrap n = n := by
  simp [IntKind.wrap, IntKind.bits, IntKind.signed]; omega
section
variable {X : Ctx} {I : Nat → Prop} {ρ : Rho} {h : Heap} {w : World} {P : Program} {call : Call}
theorem zeroOf_spec {qs : List PV} {e : TypeId} {n : Nat} {k : Option IntKind} {z : PV} (hn : sizeT P e = some n) (hk : k ≠ none → n = 1) (hz : zeroOf P qs e k = some z) :
    ∃ zs, zeroPV P qs e = some zs ∧ zs.length = n ∧ (∀ q ∈ zs, q.sc = true) ∧ ∀ l, (zeros n z l k).esz n = true ∧ (zeros n z l k).real = true ∧ (zeros n z l k).len = l ∧ ∀ i, i < l → ((zeros n z l k).get i).cells = zs := by
  simp only [zeroOf, Option.bind_eq_some_iff] at hz
  obtain ⟨zs, hzs, hz⟩ := hz
  obtain ⟨zv, _, z2, z3, z4, _⟩ := zero_run hzs
  have hlen : zs.length = n := by rw [hn] at z3; rw [← z2]; exact (Option.some.inj z3).symm
  refine ⟨zs, hzs, hlen, z4, fun l => ?_⟩
  split at hz
  · rename_i k k'
    have := hk (by simp)
    subst this
    split at hz
    · rename_i hkk
      subst hkk
      refine ⟨rfl, rfl, by simp [zeros, PV.len], fun i hi => ?_⟩
      simp only [zeros]
      rw [PV.get_ints (by simpa using hi)]
      simp [PV.cells]
    · cases hz
  · cases hz
  · rename_i zs'
    have hget : ∀ z', z = z' → z'.cells = zs → (zeros n z l none).esz n = true ∧ (zeros n z l none).real = true ∧ (zeros n z l none).len = l ∧ ∀ i, i < l → ((zeros n z l none).get i).cells = zs := by
      rintro z' rfl hc
      refine ⟨by simp [zeros, PV.esz], rfl, by simp [zeros, PV.len], fun i hi => ?_⟩
      show ((PV.sl n (List.replicate l z)).get i).cells = _
      rw [PV.get_sl (by simpa using hi)]
      simpa using hc
    simp only [Option.bind_eq_some_iff] at hz
    obtain ⟨g, _, hz⟩ := hz
    cases g with
    | true => cases hz; exact hget _ rfl rfl
    | false =>
      simp only [Bool.false_eq_true, if_false] at hz
      split at hz
      · rename_i q
        cases hz
        refine hget _ rfl ?_
        have := z4 z (by simp)
        cases z <;> first | rfl | cases this
      · cases hz
theorem mkslice_sound {qs : List PV} {t e : TypeId} {n : Nat} {k : Option IntKind} (ht : elemT P t = some (e, n, k)) {z : PV} (hz : zeroOf P qs e k = some z) {x y : AV} {xv yv : Value} (r : SRel X I ρ h w) (hx : VRel I w ρ x xv) (hy : VRel I w ρ y yv) {d : Nat} {v : AV} {h' : Heap}
    (er : (mksliceK d n k z x y).run call h = some (v, h')) : SOut P (Instr.makeSlice t xv yv) X I ρ w v h' := by
  obtain ⟨i, g1, g2, gb, g3, g4, _, g5⟩ := elemT_inv ht
  have hn : sizeT P e = some n := by simp [sizeT, g2, g3]
  obtain ⟨zs, hzs, z1, z2, z3⟩ := zeroOf_spec hn g5 hz
  obtain ⟨zv, y1, y2, y3, y4, y5⟩ := zero_run hzs
  unfold mksliceK at er
  split at er
  · rename_i k1 l k2 c
    obtain ⟨h0, er⟩ := chk_inv er
    obtain ⟨h1, er⟩ := chk_inv er
    obtain ⟨h2, er⟩ := chk_inv er
    obtain ⟨hid, er⟩ := new_inv er
    cases ret_inv er
    have h0 : 0 ≤ l := by simpa using h0
    have h1 : l ≤ c := by simpa using h1
    have h2 : c < 4294967296 := by have h2 := of_decide_eq_true h2; simp only [big] at h2; omega
    cases hx with
    | pv hx => cases hy with
      | pv hy =>
        cases hx.int_inv; cases hy.int_inv
        have wl := wrap_small h0 (by omega)
        have wc := wrap_small (n := c) (by omega) (by omega)
        obtain ⟨s1, s2, s3, s4⟩ := z3 l.toNat
        let arr : Array Value := (Array.range (c.toNat * n)).map (zv.cells[· % zv.cells.size]!)
        have hbytes : ¬ ((i.bytes : Int) * c > 2 ^ 48) := by
          have hb : (i.bytes : Int) ≤ 16384 := by omega
          have : (i.bytes : Int) * c ≤ 16384 * 4294967296 := Int.mul_le_mul hb (by omega) (by omega) (by omega)
          omega
        have hrun : (Instr.makeSlice t (.int k1 l) (.int k2 c)).run P w = .ok (.slice (some ⟨w.heap.size, 0, none⟩) l.toNat c.toNat) { w with heap := w.heap.push (.cells arr e) } := by
          unfold Instr.makeSlice
          have hti : (typeInfo e).run P w = .ok i w := by simp [typeInfo, g2]
          have hcond : ((decide (c < 0) || decide ((i.bytes : Int) * c > 2 ^ 48)) || decide (l < 0) || decide (l > c)) = false := by
            simp only [Bool.or_eq_false_iff, decide_eq_false_iff_not]
            exact ⟨⟨⟨by omega, hbytes⟩, by omega⟩, by omega⟩
          have hasInt : ∀ k' n', (asInt (.int k' n')).run P w = .ok n' w := fun _ _ => rfl
          simp only [Sem.run_bind, run_underlying g1, Result.andThen_ok, hasInt, hti, wl, wc, hcond, Bool.false_eq_true, if_false, run_askRoom, run_sizeOf hn, pure_bind]
          by_cases hc0 : c.toNat * n = 0
          · rw [if_pos hc0]
            have : arr = #[] := by simp [arr, hc0]
            have hr0 : (Array.range 0).map (fun x : Nat => (#[] : Array Value)[x % (#[] : Array Value).size]!) = #[] := by apply Array.eq_empty_of_size_eq_zero; simp
            simp only [Sem.run_bind, Sem.run_pure, Result.andThen_ok, hc0, hr0, run_newRow, this]
          · rw [if_neg hc0]
            simp only [Sem.run_bind, y1, Result.andThen_ok, Sem.run_pure, run_newRow, arr]
        have hzsz : zv.cells.size = n := by rw [hn] at y3; exact (Option.some.inj y3).symm
        have hcont : ContRep I ({ w with heap := w.heap.push (.cells arr e) } : World) w.heap.size 0 (zeros n z l.toNat k) := by
          refine ContG.to (n := n) s1 s2 fun j hj => ?_
          rw [s3] at hj
          rw [s4 j hj]
          refine ⟨z1, z2, fun q p hp => ?_⟩
          have hq : q < n := by rw [← z1]; exact (List.getElem?_eq_some_iff.1 hp).1
          have hmul := mul_lt (n := n) hj (show l.toNat ≤ c.toNat by omega)
          refine ⟨zv.cells[q]'(by omega), ?_, y5 I _ q p _ hp (Array.getElem?_eq_getElem (by omega))⟩
          rw [cell_cells (push_at w _), Nat.zero_add, Array.getElem?_eq_getElem (by simp [arr]; omega)]
          have hmod : (j * n + q) % zv.cells.size = q := by rw [hzsz, Nat.mul_comm, Nat.mul_add_mod, Nat.mod_eq_of_lt hq]
          simp only [arr, Array.getElem_map, Array.getElem_range, hmod]
          rw [getElem!_pos zv.cells q (by omega)]
        have out := addRow (base := 0) (n := n) (cap := c.toNat) (c := zeros n z l.toNat k) r hid (free_new X I ρ h w) (push_but w (.cells arr e)) (push_at w _) (by simp [arr]) (by rw [s3]; omega) s1 hcont (fun o _ => by omega)
        rw [s3] at out
        exact ⟨_, _, hrun, out⟩
  · exact (fail_inv er).elim
/-- What a source of append holds: m elements of n cells. -/
structure SrcRep (I : Nat → Prop) (P : Program) (w : World) (n : Nat) (tx : TypeId) (x : Value) (s : PV) (news : List Value) : Prop where
  src : Src P n tx x s.len news w
  rep : ∀ i, i < s.len → (s.get i).cells.length = n ∧ (∀ q ∈ (s.get i).cells, q.sc = true) ∧ ∀ (j : Nat) (q : PV), (s.get i).cells[j]? = some q → ∃ v, news[i * n + j]? = some v ∧ PRep I w q v
theorem prep_one {q : PV} {v : Value} (h : PRep I w q v) (hs : q.sc = true) : v.oneCell' = true := one_cell' (h.one hs)
/-- The cells of a list in memory, one behind the other. -/
theorem cont_list {b base n : Nat} {s : PV} (hG : ContG I w b base n s) : ∃ news : List Value, news.length = s.len * n ∧ (∀ (j : Nat) (u : Value), news[j]? = some u → w.cell? ⟨b, base + j, none⟩ = some u) ∧ (∀ u ∈ news, u.oneCell' = true) ∧
    ∀ i, i < s.len → (s.get i).cells.length = n ∧ (∀ q ∈ (s.get i).cells, q.sc = true) ∧ ∀ (j : Nat) (q : PV), (s.get i).cells[j]? = some q → ∃ v, news[i * n + j]? = some v ∧ PRep I w q v := by
  by_cases hn : n = 0
  · subst hn
    refine ⟨[], by simp, by simp, by simp, fun i hi => ?_⟩
    obtain ⟨h1, h2, h3⟩ := hG i hi
    exact ⟨h1, h2, fun j q hq => by have := (List.getElem?_eq_some_iff.1 hq).1; omega⟩
  · have hall : ∀ m, m < s.len * n → ∃ v, w.cell? ⟨b, base + m, none⟩ = some v ∧ ∀ q, (s.get (m / n)).cells[m % n]? = some q → PRep I w q v ∧ v.oneCell' = true := by
      intro m hm
      have hi : m / n < s.len := Nat.div_lt_of_lt_mul (by rw [Nat.mul_comm]; exact hm)
      have hj : m % n < n := Nat.mod_lt _ (by omega)
      obtain ⟨h1, h2, h3⟩ := hG _ hi
      obtain ⟨v, hv, hp⟩ := h3 (m % n) _ (List.getElem?_eq_getElem (by rw [h1]; exact hj))
      refine ⟨v, ?_, fun q hq => ?_⟩
      · rw [← hv]; congr 2
        have := Nat.div_add_mod m n
        rw [Nat.mul_comm] at this
        omega
      · rw [List.getElem?_eq_getElem (by rw [h1]; exact hj)] at hq
        cases hq
        exact ⟨hp, prep_one hp (h2 _ (List.getElem_mem _))⟩
    obtain ⟨f, hf⟩ : ∃ f : Nat → Value, ∀ m, m < s.len * n → w.cell? ⟨b, base + m, none⟩ = some (f m) ∧ ∀ q, (s.get (m / n)).cells[m % n]? = some q → PRep I w q (f m) ∧ (f m).oneCell' = true := by
      refine ⟨fun m => if hm : m < s.len * n then (hall m hm).choose else undef, fun m hm => ?_⟩
      simp only [dif_pos hm]
      exact (hall m hm).choose_spec
    refine ⟨(List.range (s.len * n)).map f, by simp, fun j u hj => ?_, fun u hu => ?_, fun i hi => ?_⟩
    · simp only [List.getElem?_map, Option.map_eq_some_iff] at hj
      obtain ⟨m, hm, rfl⟩ := hj
      have hm' := List.getElem?_eq_some_iff.1 hm
      obtain ⟨hlt, rfl⟩ := hm'
      simp only [List.getElem_range]
      exact (hf j (by simpa using hlt)).1
    · simp only [List.mem_map, List.mem_range] at hu
      obtain ⟨m, hm, rfl⟩ := hu
      have hi : m / n < s.len := Nat.div_lt_of_lt_mul (by rw [Nat.mul_comm]; exact hm)
      obtain ⟨h1, _, _⟩ := hG _ hi
      exact ((hf m hm).2 _ (List.getElem?_eq_getElem (by rw [h1]; exact Nat.mod_lt _ (by omega)))).2
    · obtain ⟨h1, h2, h3⟩ := hG i hi
      refine ⟨h1, h2, fun j q hq => ?_⟩
      have hj : j < n := by rw [← h1]; exact (List.getElem?_eq_some_iff.1 hq).1
      have hm : i * n + j < s.len * n := by have := mul_lt (n := n) hi (Nat.le_refl s.len); omega
      refine ⟨f (i * n + j), by simp [hm], ((hf _ hm).2 q ?_).1⟩
      rw [show (i * n + j) / n = i by rw [Nat.mul_comm, Nat.mul_add_div (by omega), Nat.div_eq_of_lt hj, Nat.add_zero], show (i * n + j) % n = j by rw [Nat.mul_comm, Nat.mul_add_mod, Nat.mod_eq_of_lt hj]]
      exact hq
theorem srcK_sound {tx : TypeId} {n : Nat} {k : Option IntKind} (hk : (∃ e', P.underlying tx = some (.slice e')) ∨ P.underlying tx = some .string) {y : AV} {yv : Value} (r : SRel X I ρ h w) (hy : VRel I w ρ y yv) {f : PV → HP} {res : AV × Heap}
    (e : (srcK n k f y).run call h = some res) : ∃ s, (f s).run call h = some res ∧ (s.esz n = true → (s.len = 0 ∨ s.real = true) ∧ ∃ news, SrcRep I P w n tx yv s news) := by
  have ofBlock : ∀ (s : PV) (b off cap : Nat), s.esz n = true → ContRep I w b off s → ∃ news, SrcRep I P w n tx (.slice (some ⟨b, off, none⟩) s.len cap) s news := by
    intro s b off cap hs hc
    obtain ⟨news, n1, n2, n3, n4⟩ := cont_list (ContG.of hs hc)
    have n2' : ∀ j u, news[j]? = some u → w.cell? ((⟨b, off, none⟩ : Addr).add j) = some u := fun j u hj => by rw [addr_add]; exact n2 j u hj
    exact ⟨news, ⟨hk, fun _ => rfl, run_firstCells_some w n s.len _ _ cap news n1 n2', run_firstCells_some w.drew n s.len _ _ cap news n1 (by simpa using n2'), n1, n3⟩, n4⟩
  have ofEmpty : ∀ (s : PV) (a : Option Addr) (cap : Nat), s.len = 0 → ∃ news, SrcRep I P w n tx (.slice a s.len cap) s news := by
    intro s a cap hs
    rw [hs]
    refine ⟨[], ⟨hk, fun _ => by rw [hs]; rfl, ?_, ?_, by rw [hs]; simp, by simp⟩, fun i hi => by omega⟩
    · rw [hs]; cases a with
      | none => rfl
      | some a => exact run_firstCells_some w n 0 a 0 cap [] (by simp) (by simp)
    · rw [hs]; cases a with
      | none => rfl
      | some a => exact run_firstCells_some w.drew n 0 a 0 cap [] (by simp) (by simp)
  unfold srcK at e
  split at e
  · rename_i bs
    cases hy with
    | pv hp =>
      cases hp with
      | str t =>
        refine ⟨_, e, fun hs => ⟨.inr rfl, byteCells t, ?_⟩⟩
        have hn1 := PV.esz_ints hs
        subst hn1
        have hlen : (PV.ints .u8 (bytesOf t.data.toList)).len = t.size := by simp [PV.len, bytesOf]
        have hbl := byteCells_length t
        refine ⟨⟨hk, fun _ => by rw [hlen]; rfl, by rw [hlen]; exact firstCells_string t w, by rw [hlen]; exact firstCells_string t _, by rw [hlen, hbl, Nat.mul_one], fun u hu => by
          obtain ⟨_, _, rfl⟩ := List.mem_map.1 hu; rfl⟩, fun i hi => ?_⟩
        have hi' : i < (bytesOf t.data.toList).length := hi
        rw [PV.get_ints hi']
        refine ⟨rfl, by simp [PV.cells, PV.sc], fun j q hj => ?_⟩
        cases j with
        | zero =>
          simp [PV.cells] at hj; subst hj
          refine ⟨_, ?_, .int _ _⟩
          simp only [bytesOf, byteCells, Nat.mul_one, Nat.add_zero, List.getElem?_map, List.getElem_map]
          rw [List.getElem?_eq_getElem (by simpa [bytesOf] using hi')]
          rfl
        | succ j => simp [PV.cells] at hj
  · rename_i p _
    obtain ⟨hs, e⟩ := chk_inv e
    refine ⟨_, e, fun he => ?_⟩
    cases hy with
    | pv hp =>
      obtain ⟨a, cap, rfl, _, hz⟩ := prep_slice_inv hs hp
      by_cases hnil : p = .nil
      · subst hnil
        have hz0 : (PV.ty n k .nil).len = 0 := by cases k <;> rfl
        exact ⟨.inl hz0, by have hh := ofEmpty (PV.ty n k .nil) a cap hz0; rwa [hz0] at hh⟩
      · have hty : p.ty n k = p := by cases p <;> first | rfl | exact absurd rfl hnil
        rw [hty] at he ⊢
        refine ⟨.inr (PV.real_of he hnil), ?_⟩
        rcases hz with hz | ⟨b, off, rfl, _, hc⟩
        · exact ofEmpty p a cap hz
        · exact ofBlock p b off cap he hc
  · rename_i id vw
    obtain ⟨o, hid, e⟩ := get_inv e
    unfold srcRow at e
    split at e
    · rename_i c m
      refine ⟨_, e, fun he => ?_⟩
      obtain ⟨hp, _, hsl⟩ := row_view r hid hy
      rcases row_at r hid hy with ⟨_, rfl, hz, _⟩ | ⟨b, base, N, cap, a, cap', g1, rfl, g2, g3, g4, g5, g6, g7⟩
      · exact ⟨.inl hz, by have hh := ofEmpty (viewOf c vw) none 0 hz; rwa [hz] at hh⟩
      · refine ⟨.inr g6, ?_⟩
        obtain ⟨o', rfl, _, rfl | ⟨hz, _⟩⟩ := g4
        · have hN : n = N := esz_unique g6 he g5
          subst hN
          refine ofBlock (viewOf c vw) b _ cap' he (ContG.to he g6 fun i hi => ?_)
          rw [g7 i hi]
          rcases r.objs id _ hid with ⟨g1', _⟩ | ⟨_, _, _, _, _, _, _, _, g1', _, _, _, g5', g6', _⟩
          · rw [g1] at g1'; cases g1'
          · rw [g1] at g1'; cases g1'
            obtain ⟨q1, q2, q3⟩ := ContG.of g5' g6' (viewOff vw + i) (by omega)
            refine ⟨q1, q2, fun j q hq => ?_⟩
            obtain ⟨v, hv, hp⟩ := q3 j q hq
            exact ⟨v, by rw [← hv, Nat.add_mul]; congr 2; omega, hp⟩
        · exact ofEmpty _ _ _ hz
    · exact (fail_inv e).elim
  · exact (fail_inv e).elim
end
end Go.Proofs.Ytkeipmkiilimeaa.V
set_option linter.unusedSimpArgs false
namespace Go.Proofs.Ytkeipmkiilimeaa.V
open Go
section
variable {X : Ctx} {I : Nat → Prop} {ρ : Rho} {h : Heap} {w : World} {P : Program} {call : Call}
/-- A list in memory that is a run of values. -/
def ListRep (I : Nat → Prop) (w : World) (n : Nat) (s : PV) (vs : List Value) : Prop :=
  ∀ i, i < s.len → (s.get i).cells.length = n ∧ (∀ q ∈ (s.get i).cells, q.sc = true) ∧ ∀ (j : Nat) (q : PV), (s.get i).cells[j]? = some q → ∃ v, vs[i * n + j]? = some v ∧ PRep I w q v
/-- How an append runs whose second argument yields these cells. -/
structure Feed (P : Program) (e : TypeId) (i : TypeInfo) (tx : TypeId) (x : Value) (n : Nat) (news : List Value) (w : World) : Prop where
  newsLen : news.length = n * i.size
  one : ∀ u ∈ news, u.oneCell' = true
  room : ∀ (t ty : TypeId) (b off sLen sCap : Nat), P.underlying t = some (.slice e) → sLen + n ≤ sCap → (∀ j, j < news.length → (w.cell? ⟨b, off + sLen * i.size + j, none⟩).isSome = true) → (∀ j, j < news.length → w.frozen? ⟨b, off + sLen * i.size + j, none⟩ = false) →
    (Builtin.append_ #[t, tx] ty #[.slice (some ⟨b, off, none⟩) sLen sCap, x]).run P w = .ok (.slice (some ⟨b, off, none⟩) (sLen + n) sCap) (w.setCells b (off + sLen * i.size) news)
  grow : ∀ (t ty : TypeId) (z : Value) (base : Option Addr) (sLen sCap : Nat) (olds : List Value), P.underlying t = some (.slice e) → i.zero = some z → (Builtin.firstCells i.size sLen (.slice base sLen sCap)).run P w.drew = .ok olds.toArray w.drew →
    sCap < sLen + n → ((sLen + n : Nat) : Int) ≤ 9223372036854775807 → Builtin.nextslicecap (sLen + n) sCap * i.bytes ≤ 281474976710656 →
    (Builtin.append_ #[t, tx] ty #[.slice base sLen sCap, x]).run P w = .ok (.slice (some ⟨w.heap.size, 0, none⟩) (sLen + n) (grownCap w (sLen + n) sCap e))
      (w.drew.alloc (.cells ((olds ++ news).toArray ++ Builtin.zeroCells z.cells (grownCap w (sLen + n) sCap e - (sLen + n))) e))
  nothing : n = 0 → ∀ t ty : TypeId, P.underlying t = some (.slice e) → (Builtin.append_ #[t, tx] ty #[.slice none 0 0, x]).run P w = .ok (.slice none 0 0) w
theorem src_feed {e tx : TypeId} {i : TypeInfo} {x : Value} {n : Nat} {news : List Value} (hi : P.info? e = some i) (h : Src P i.size tx x n news w) : Feed P e i tx x n news w :=
  ⟨h.newsLen, h.one, fun t ty b off sLen sCap ht hr hc hf => run_append_room_src w t tx ty e i ht hi b off sLen sCap x n news h hr hc hf,
    fun t ty z base sLen sCap olds ht hz hold hg h63 hfit => run_append_grow_src w t tx ty e i z ht hi hz base sLen sCap olds hold x n news h hg h63 hfit,
    fun h0 t ty ht => by
      subst h0
      have hn : news = [] := List.eq_nil_of_length_eq_zero (by rw [h.newsLen, Nat.zero_mul])
      subst hn
      exact run_append_nothing w t tx ty e i ht hi none 0 0 (Nat.le_refl _) x h⟩
structure FeedRep (I : Nat → Prop) (P : Program) (w : World) (n : Nat) (e tx : TypeId) (x : Value) (s : PV) (news : List Value) : Prop where
  feed : ∀ i, P.info? e = some i → Feed P e i tx x s.len news w
  rep : ∀ i, i < s.len → (s.get i).cells.length = n ∧ (∀ q ∈ (s.get i).cells, q.sc = true) ∧ ∀ (j : Nat) (q : PV), (s.get i).cells[j]? = some q → ∃ v, news[i * n + j]? = some v ∧ PRep I w q v
theorem SrcRep.feed {n : Nat} {e tx : TypeId} {x : Value} {s : PV} {news : List Value} (hn : ∀ i, P.info? e = some i → i.size = n) (h : SrcRep I P w n tx x s news) : FeedRep I P w n e tx x s news :=
  ⟨fun i hi => by have := hn i hi; subst this; exact src_feed hi h.src, h.rep⟩
theorem app_list {n : Nat} {c s c' : PV} {olds news : List Value} (hlen : c'.len = c.len + s.len) (hget : ∀ j, j < c'.len → c'.get j = if j < c.len then c.get j else s.get (j - c.len)) (ho : olds.length = c.len * n) (rc : ListRep I w n c olds) (rs : ListRep I w n s news) : ListRep I w n c' (olds ++ news) := by
  intro i hi
  rw [hget i hi]
  split
  · rename_i hlt
    obtain ⟨h1, h2, h3⟩ := rc i hlt
    refine ⟨h1, h2, fun j q hq => ?_⟩
    obtain ⟨v, hv, hp⟩ := h3 j q hq
    exact ⟨v, by rw [List.getElem?_append_left (List.getElem?_eq_some_iff.1 hv).1]; exact hv, hp⟩
  · rename_i hge
    obtain ⟨h1, h2, h3⟩ := rs (i - c.len) (by omega)
    refine ⟨h1, h2, fun j q hq => ?_⟩
    obtain ⟨v, hv, hp⟩ := h3 j q hq
    refine ⟨v, ?_, hp⟩
    have : c.len * n ≤ i * n := Nat.mul_le_mul_right n (by omega)
    rw [List.getElem?_append_right (by rw [ho]; omega), ho, ← hv]
    congr 1
    rw [Nat.sub_mul]; omega
/-- append, where a new row is made. -/
theorem grow_out {qs : List PV} {t tx ty e : TypeId} {n : Nat} {k : Option IntKind} (ht : elemT P t = some (e, n, k)) (hz : (zeroPV P qs e).isSome = true) {d : Nat} {base : Option Addr} {L cap : Nat} {olds news : List Value} {c s c' : PV} {yv : Value}
    (r : SRel X I ρ h w) (hid : h d = none) (hL : L = c.len) (hlen : c'.len = c.len + s.len) (hget : ∀ j, j < c'.len → c'.get j = if j < c.len then c.get j else s.get (j - c.len)) (he : c'.esz n = true) (hr : c'.real = true) (hbig : c'.len < big)
    (hold : (Builtin.firstCells n L (.slice base L cap)).run P w.drew = .ok olds.toArray w.drew) (ho : olds.length = L * n) (rc : ListRep I w n c olds) (hs : FeedRep I P w n e tx yv s news) (hg : cap < L + s.len) :
    SOut P (Builtin.append_ #[t, tx] ty #[.slice base L cap, yv]) X I ρ w (.row d none) (hup h d (some (some (.row c' true)))) := by
  obtain ⟨i, g1, g2, gb, g3, g4, _, g5⟩ := elemT_inv ht
  obtain ⟨zs, hzs⟩ := Option.isSome_iff_exists.1 hz
  have hzi : ∃ z, i.zero = some z ∧ z.cells.size = n := by
    simp only [zeroPV, Option.bind_eq_some_iff] at hzs
    obtain ⟨i', hi', z, hz, hc⟩ := hzs
    rw [g2] at hi'; cases hi'
    split at hc
    · exact ⟨z, hz, by rw [‹z.cells.size = i.size›, g3]⟩
    · cases hc
  obtain ⟨z, hz, hzn⟩ := hzi
  subst g3
  have hb : c'.len < 4294967296 := hbig
  have hfit : Builtin.nextslicecap (L + s.len) cap * i.bytes ≤ 281474976710656 := by
    refine growslice_fits hg ?_
    have h1 : L + s.len ≤ 4294967296 := by omega
    have := Nat.mul_le_mul h1 gb
    omega
  have hrun := (hs.feed i g2).grow t ty z base L cap olds g1 hz hold hg (by omega) hfit
  have hge := grownCap_ge w (L + s.len) cap e
  generalize grownCap w (L + s.len) cap e = C at hrun hge
  let arr : Array Value := (olds ++ news).toArray ++ Builtin.zeroCells z.cells (C - (L + s.len))
  have harr : arr.size = C * i.size := by
    simp only [arr, Array.size_append, List.size_toArray, List.length_append, ho, (hs.feed i g2).newsLen, size_zeroCells, hzn]
    rw [← Nat.add_mul, ← Nat.add_mul]
    congr 1
    omega
  have hlist := app_list hlen hget (by rw [ho, hL]) rc hs.rep
  have but : But w (w.drew.alloc (.cells arr e)) (some w.heap.size) := (drew_same w).butL (push_but w.drew _)
  have hat : (w.drew.alloc (.cells arr e)).heap[w.heap.size]? = some (.cells arr e (0, 0)) := heap_alloc_new w.drew _
  have hcont : ContRep I (w.drew.alloc (.cells arr e)) w.heap.size 0 c' := by
    refine ContG.to (n := i.size) he hr fun j hj => ?_
    obtain ⟨h1, h2, h3⟩ := hlist j hj
    refine ⟨h1, h2, fun q p hp => ?_⟩
    obtain ⟨v, hv, hpr⟩ := h3 q p hp
    refine ⟨v, ?_, hpr.mono (fun _ h => h) fun b hb => but.heap b (r.inI b hb).1 (by intro e; cases e; exact absurd (r.inI _ hb).1 (Nat.lt_irrefl _))⟩
    rw [cell_cells hat, Nat.zero_add]
    simp only [arr]
    rw [Array.getElem?_append_left (by simpa using (List.getElem?_eq_some_iff.1 hv).1)]
    simpa using hv
  have out := addRow (base := 0) (n := i.size) (cap := C) (c := c') r hid (free_new X I ρ h w) but hat (by rw [harr]; omega) (by omega) he hcont (fun o _ => by omega)
  rw [show c'.len = L + s.len by omega] at out
  exact ⟨_, _, hrun, out⟩
/-- append, where nothing is appended to nothing. -/
theorem nil_out {t tx ty e : TypeId} {n : Nat} {k : Option IntKind} (ht : elemT P t = some (e, n, k)) {d : Nat} {c' s : PV} {yv : Value} {news : List Value} (r : SRel X I ρ h w) (hid : h d = none) (hz : c'.len = 0) (he : c'.esz n = true)
    (hs : FeedRep I P w n e tx yv s news) (hs0 : s.len = 0) : SOut P (Builtin.append_ #[t, tx] ty #[.slice none 0 0, yv]) X I ρ w (.row d none) (hup h d (some (some (.row c' true)))) := by
  obtain ⟨i, g1, g2, gb, g3, g4, _, g5⟩ := elemT_inv ht
  subst g3
  have hrun := (hs.feed i g2).nothing hs0 t ty g1
  have f : Free X I ρ h w (RL.blk .nil) := fun b e => by cases e
  have ex : Ext I ρ w I (rup ρ d .nil) w := r.butExt hid f ((Same.refl w).but _)
  exact ⟨_, _, hrun, I, rup ρ d .nil, ex, r.add hid f ((Same.refl w).but _) rfl (.inl ⟨rup_same _ _ _, hz, PV.esz_slice he⟩), .row0 (rup_same _ _ _)⟩
/-- append, where there is room behind a row of the function's own. -/
theorem room_out {t tx ty e : TypeId} {n : Nat} {k : Option IntKind} (ht : elemT P t = some (e, n, k)) {d b base cap : Nat} {arr : Array Value} {et : TypeId} {lo hi : Nat} {c s c' : PV} {yv : Value} {news : List Value}
    (r : SRel X I ρ h w) (hid : h d = none) (f : Free X I ρ h w (some b)) (hlen : c'.len = c.len + s.len) (hget : ∀ j, j < c'.len → c'.get j = if j < c.len then c.get j else s.get (j - c.len)) (he : c'.esz n = true) (hr : c'.real = true)
    (hb : w.heap[b]? = some (.cells arr et (lo, hi))) (hsz : base + cap * n ≤ arr.size) (hf : ∀ o, o < arr.size → ¬ (lo ≤ o ∧ o < hi)) (hG : ContG I w b base n c) (hs : FeedRep I P w n e tx yv s news) (hroom : c.len + s.len ≤ cap) :
    SOut P (Builtin.append_ #[t, tx] ty #[.slice (some ⟨b, base, none⟩) c.len cap, yv]) X I ρ w (.row d none) (hup h d (some (some (.row c' true)))) := by
  obtain ⟨i, g1, g2, gb, g3, g4, _, g5⟩ := elemT_inv ht
  subst g3
  have hF := hs.feed i g2
  have hnl := hF.newsLen
  have hmul : (c.len + s.len) * i.size ≤ cap * i.size := Nat.mul_le_mul_right _ hroom
  rw [Nat.add_mul] at hmul
  have hcell : ∀ j, j < news.length → (w.cell? ⟨b, base + c.len * i.size + j, none⟩).isSome = true := fun j hj => by
    rw [cell_cells hb, Array.getElem?_eq_getElem (by omega)]; rfl
  have hfr : ∀ j, j < news.length → w.frozen? ⟨b, base + c.len * i.size + j, none⟩ = false := fun j hj => by
    rw [frozen_cells hb]
    have := hf (base + c.len * i.size + j) (by omega)
    simp only [Bool.and_eq_false_iff, decide_eq_false_iff_not]
    omega
  have hrun := hF.room t ty b base c.len cap g1 hroom hcell hfr
  have hone : ∀ u ∈ news, Value.one u = true := fun u hu => by
    have := hF.one u hu
    cases u <;> first | rfl | cases this
  obtain ⟨arr', w', s1, s2, s3, s4, s5⟩ := store_run P b et lo hi news (base + c.len * i.size) 0 arr w hb (by omega) (fun j h1 h2 => hf j (by omega)) hone
  have hst := run_storeCells_cells (P := P) b (base + c.len * i.size) news 0 w (by simpa using hcell) (by simpa using hfr) hF.one
  rw [s1] at hst
  simp only [Nat.add_zero, Result.ok.injEq, true_and] at hst
  rw [← hst] at hrun
  simp only [Nat.add_zero] at s4
  have nI : ∀ b', I b' → w'.heap[b']? = w.heap[b']? := fun b' hb' => s5.heap b' (r.inI b' hb').1 fun e => (f.notI r e).1 hb'
  have hcont : ContRep I w' b base c' := by
    refine ContG.to (n := i.size) he hr fun j hj => ?_
    rw [hget j hj]
    split
    · rename_i hlt
      obtain ⟨h1, h2, h3⟩ := hG j hlt
      refine ⟨h1, h2, fun q p hp => ?_⟩
      obtain ⟨v, hv, hpr⟩ := h3 q p hp
      have hq : q < i.size := by rw [← h1]; exact (List.getElem?_eq_some_iff.1 hp).1
      have := mul_lt (n := i.size) hlt (Nat.le_refl c.len)
      refine ⟨v, ?_, hpr.mono (fun _ h => h) nI⟩
      rw [cell_cells s2, s4, if_neg (by omega), ← cell_cells hb]
      exact hv
    · rename_i hge
      obtain ⟨h1, h2, h3⟩ := hs.rep (j - c.len) (by omega)
      refine ⟨h1, h2, fun q p hp => ?_⟩
      obtain ⟨v, hv, hpr⟩ := h3 q p hp
      have hq : q < i.size := by rw [← h1]; exact (List.getElem?_eq_some_iff.1 hp).1
      refine ⟨v, ?_, hpr.mono (fun _ h => h) nI⟩
      have e1 : (j - c.len) * i.size = j * i.size - c.len * i.size := Nat.sub_mul _ _ _
      have e2 : c.len * i.size ≤ j * i.size := Nat.mul_le_mul_right _ (by omega)
      have e3 := (List.getElem?_eq_some_iff.1 hv).1
      rw [cell_cells s2, s4, if_pos (by omega), ← hv]
      congr 1
      omega
  have out := addRow (base := base) (n := i.size) (cap := cap) (c := c') r hid f s5 s2 (by rw [s3]; exact hsz) (by omega) he hcont (fun o ho => hf o (by rw [← s3]; exact ho))
  rw [hlen] at out
  exact ⟨_, _, hrun, out⟩
theorem appK_sound {qs : List PV} {t tx ty e : TypeId} {n : Nat} {k : Option IntKind} (ht : elemT P t = some (e, n, k)) (hz : (zeroPV P qs e).isSome = true) {x : AV} {s : PV} {xv yv : Value} (r : SRel X I ρ h w) (hx : VRel I w ρ x xv) {d : Nat} {v : AV} {h' : Heap}
    (er : (appK d n x s).run call h = some (v, h')) (hsrc : s.esz n = true → (s.len = 0 ∨ s.real = true) ∧ ∃ news, FeedRep I P w n e tx yv s news) : SOut P (Builtin.append_ #[t, tx] ty #[xv, yv]) X I ρ w v h' := by
  have firstNone : ∀ w', (Builtin.firstCells n 0 (.slice none 0 0)).run P w' = .ok ([] : List Value).toArray w' := fun _ => rfl
  unfold appK at er
  split at er
  · cases hx with
    | pv hp =>
      cases hp
      unfold grow at er
      obtain ⟨he, er⟩ := chk_inv er
      obtain ⟨hb, er⟩ := chk_inv er
      obtain ⟨hid, er⟩ := new_inv er
      cases ret_inv er
      have hb : s.len < big := by simpa using hb
      obtain ⟨hr, news, hs⟩ := hsrc he
      by_cases h0 : s.len = 0
      · exact nil_out ht r hid h0 he hs h0
      · have hr : s.real = true := hr.resolve_left h0
        exact grow_out (c := .sl n []) (olds := []) ht hz r hid rfl (by simp [PV.len]) (fun j hj => by rw [if_neg (by simp [PV.len])]; simp [PV.len]) he hr hb (firstNone _) (by simp) (fun i hi => by simp [PV.len] at hi) hs (by omega)
  · rename_i id vw
    obtain ⟨o, hid, er⟩ := get_inv er
    unfold appRow at er
    split at er
    · rename_i c m
      obtain ⟨hm, er1⟩ := chk_inv er
      clear er
      subst hm
      unfold growO at er1
      split at er1
      · rename_i c' happ
        obtain ⟨_, er⟩ := del_inv er1
        unfold grow at er
        obtain ⟨he, er⟩ := chk_inv er
        obtain ⟨hb, er⟩ := chk_inv er
        obtain ⟨hid', er⟩ := new_inv er
        cases ret_inv er
        have hb : c'.len < big := by simpa using hb
        have rd := r.del hid
        have hcs : ∃ N, (viewOf c vw).esz N = true := by
          obtain ⟨_, _, hsl⟩ := row_view r hid hx
          have : (viewOf c vw).isSlice = true := by
            cases vw with
            | none => exact hsl
            | some q => exact PV.isSlice_sub hsl
          generalize viewOf c vw = cc at this
          cases cc with
          | ints k l => exact ⟨1, rfl⟩
          | sl m xs => exact ⟨m, by simp [PV.esz]⟩
          | nil => exact ⟨0, rfl⟩
          | _ => cases this
        obtain ⟨N0, hN0⟩ := hcs
        obtain ⟨s1, s2, s3, s4, s5, s6⟩ := PV.app_spec hN0 happ
        have : n = N0 := esz_unique s3 he s1
        subst this
        obtain ⟨_, news, hs⟩ := hsrc s2
        rcases row_at r hid hx with ⟨g1, rfl, g2, g3, g4, g5⟩ | ⟨b, base, N, cap, a, cap', g1, rfl, g2, g3, g4, g5, g6, g7⟩
        · by_cases h0 : s.len = 0
          · exact nil_out ht rd hid' (by omega) he hs h0
          · exact grow_out (c := viewOf c vw) (olds := []) ht hz rd hid' (by omega) s5 s6 he s3 hb (firstNone _) (by simp) (fun i hi => by omega) hs (by omega)
        · have hN : n = N := esz_unique g6 hN0 g5
          subst hN
          obtain ⟨o', rfl, hcap, ho'⟩ := g4
          rcases r.objs id _ hid with ⟨g1', _⟩ | ⟨b', base', N', cap0, arr, et, lo, hi', g1', q2, q3, q4, q5, q6, q7, q8⟩
          · rw [g1] at g1'; cases g1'
          · rw [g1] at g1'; cases g1'
            have hG0 := ContG.of q5 q6
            have hG : ContG I w b (base + o' * n) n (viewOf c vw) := by
              intro i hi
              rcases ho' with rfl | ⟨hz, _⟩
              · rw [g7 i hi]
                obtain ⟨u1, u2, u3⟩ := hG0 (viewOff vw + i) (by omega)
                refine ⟨u1, u2, fun j q hq => ?_⟩
                obtain ⟨v, hv, hp⟩ := u3 j q hq
                exact ⟨v, by rw [← hv, Nat.add_mul]; congr 2; omega, hp⟩
              · omega
            have hbase : base + o' * n + cap' * n ≤ arr.size := by
              have := Nat.mul_le_mul_right n hcap
              rw [Nat.add_mul] at this
              omega
            have hfree : Free X I ρ (hup h id (some none)) w (some b) := by
              intro b' hb'
              cases hb'
              have hmu := r.muts id _ b hid rfl (by rw [g1]; rfl)
              refine .inr ⟨hmu.1, hmu.2, fun j oj hj e => ?_⟩
              by_cases ej : j = id
              · subst ej; rw [hup_same] at hj; cases hj
              · rw [hup_ne ej] at hj
                exact ej (r.sep j id _ _ b hj hid e (by rw [g1]; rfl))
            by_cases hroom : (viewOf c vw).len + s.len ≤ cap'
            · exact room_out ht rd hid' hfree s5 s6 he s3 q2 hbase (q7 rfl) hG hs hroom
            · obtain ⟨olds, o1, o2, o3, o4⟩ := cont_list hG
              have hfc := run_firstCells_some (P := P) w.drew n (viewOf c vw).len ⟨b, base + o' * n, none⟩ (viewOf c vw).len cap' olds o1 (fun j u hj => by rw [addr_add]; simpa using o2 j u hj)
              exact grow_out (c := viewOf c vw) (olds := olds) ht hz rd hid' rfl s5 s6 he s3 hb hfc o1 o4 hs (by omega)
      · exact (fail_inv er1).elim
    · exact (fail_inv er).elim
  · exact (fail_inv er).elim
theorem append_sound {qs : List PV} {t tx ty e : TypeId} {n : Nat} {k : Option IntKind} (ht : elemT P t = some (e, n, k)) (hz : (zeroPV P qs e).isSome = true) (hk : (∃ e', P.underlying tx = some (.slice e')) ∨ P.underlying tx = some .string) {x y : AV} {xv yv : Value} (r : SRel X I ρ h w) (hx : VRel I w ρ x xv) (hy : VRel I w ρ y yv) {d : Nat} {v : AV} {h' : Heap}
    (er0 : (appendK d n k x y).run call h = some (v, h')) : SOut P (Builtin.append_ #[t, tx] ty #[xv, yv]) X I ρ w v h' := by
  unfold appendK at er0
  obtain ⟨s, er, hsrc⟩ := srcK_sound hk r hy er0
  obtain ⟨i, g1, g2, gb, g3, g4, _, g5⟩ := elemT_inv ht
  refine appK_sound ht hz r hx er fun he => ?_
  obtain ⟨h1, news, h2⟩ := hsrc he
  exact ⟨h1, news, h2.feed fun i' hi' => by rw [g2] at hi'; cases hi'; exact g3⟩
/-- The cells of zeros. -/
theorem zeros_feed {e tx : TypeId} {kn k1 : IntKind} {i : TypeInfo} {z : Value} {l : Nat} (hk : P.underlying tx = some (.int kn)) (hi : P.info? e = some i) (hz : i.zero = some z) (hzs : z.cells.size = i.size) (hb : i.bytes ≤ 16384) (hl : l < 4294967296) (hone : ∀ u ∈ z.cells, u.oneCell' = true) :
    Feed P e i tx (.int k1 (l : Int)) l (Builtin.zeroCells z.cells l).toList w := by
  have hsz : (Builtin.zeroCells z.cells l).toList.length = l * i.size := by simp [size_zeroCells, hzs]
  have hw : IntKind.i64.wrap (l : Int) = l := wrap_small (by omega) (by omega)
  have h48i : ¬ (281474976710656 < (l : Int) * (i.bytes : Int)) := by
    have h1 := Nat.mul_le_mul (Nat.le_of_lt hl) hb
    have h2 : ((l * i.bytes : Nat) : Int) ≤ 4294967296 * 16384 := by omega
    rw [Int.natCast_mul] at h2
    omega
  have h0 : ¬ ((l : Int) < 0) := by omega
  have hnone : l * i.size = 0 → (Builtin.zeroCells z.cells l) = #[] := fun h => by
    apply Array.eq_empty_of_size_eq_zero
    rw [size_zeroCells, hzs, h]
  have happ : ∀ w' : World, (if l * i.size = 0 then (pure #[] : Sem (Array Value)) else do pure (Builtin.zeroCells (← zeroValue e).cells l)).run P w' = .ok (Builtin.zeroCells z.cells l) w' := by
    intro w'
    split
    · rw [hnone ‹_›]; rfl
    · simp [zeroValue, typeInfo, hi, hz]
  have hz0 : ∀ w' : World, (zeroValue e).run P w' = .ok z w' := fun w' => by simp [zeroValue, typeInfo, hi, hz]
  have hai : ∀ w' : World, (asInt (.int k1 (l : Int))).run P w' = .ok (l : Int) w' := fun _ => rfl
  have hone' : ∀ u ∈ (Builtin.zeroCells z.cells l).toList, u.oneCell' = true := fun u hu => by
    have hu' : u ∈ Builtin.zeroCells z.cells l := by simpa using hu
    obtain ⟨q, hq, rfl⟩ := Array.mem_map.1 hu'
    have hq : q < l * z.cells.size := by simpa using hq
    have hpos : 0 < z.cells.size := by
      rcases Nat.eq_zero_or_pos z.cells.size with h | h
      · rw [h, Nat.mul_zero] at hq; omega
      · exact h
    rw [getElem!_pos z.cells _ (Nat.mod_lt _ hpos)]
    exact hone _ (Array.getElem_mem _)
  refine ⟨hsz, hone', fun t ty b off sLen sCap ht hroom hc hf => ?_, fun t ty z' base sLen sCap olds ht hz' hold hg h63 hfit => ?_, fun hl0 t ty ht => ?_⟩
  · have hst := run_storeCells_cells (P := P) b (off + sLen * i.size) (Builtin.zeroCells z.cells l).toList 0 w (by simpa using hc) (by simpa using hf) hone'
    simp only [Nat.add_zero] at hst
    by_cases hn0 : l * i.size = 0
    · have he := hnone hn0
      rw [he] at hst ⊢
      simp only [List.toList_toArray] at hst
      simp [Builtin.append_, run_underlying ht, run_underlying hk, sizeOf, typeInfo, hi, hai, hw, h0, h48i, hroom, hn0, Addr.add_lit, hst]
    · simp [Builtin.append_, run_underlying ht, run_underlying hk, sizeOf, typeInfo, hi, hai, hw, h0, h48i, hroom, hn0, zeroValue, hz, Addr.add_lit, hst]
  · have hzz : z' = z := by rw [hz] at hz'; exact (Option.some.inj hz').symm
    subst hzz
    have hn : ¬ (sLen + l ≤ sCap) := by omega
    have h63' : ¬ (9223372036854775807 < ((sLen : Int) + (l : Int))) := by omega
    have h48' : ¬ (281474976710656 < Builtin.nextslicecap (sLen + l) sCap * i.bytes) := by omega
    by_cases hn0 : l * i.size = 0
    · have he := hnone hn0
      rw [he]
      simp [Builtin.append_, run_underlying ht, run_underlying hk, sizeOf, typeInfo, zeroValue, hi, hz, hai, hw, h0, h48i, hn, hn0, h63', h48', Question.forced, hold, newRow, grownCap]
    · simp [Builtin.append_, run_underlying ht, run_underlying hk, sizeOf, typeInfo, zeroValue, hi, hz, hai, hw, h0, h48i, hn, hn0, h63', h48', Question.forced, hold, newRow, grownCap]
      congr 2
      apply Array.ext'
      simp
  · subst hl0
    have hai0 : ∀ w' : World, (asInt (.int k1 0)).run P w' = .ok 0 w' := fun _ => rfl
    have hw0 : IntKind.i64.wrap 0 = 0 := rfl
    simp [Builtin.append_, run_underlying ht, run_underlying hk, sizeOf, typeInfo, hi, hai0, hw0, storeCells]
end
end Go.Proofs.Ytkeipmkiilimeaa.V
set_option linter.unusedSimpArgs false
namespace Go.Proofs.Ytkeipmkiilimeaa.V
open Go
section
variable {X : Ctx} {I : Nat → Prop} {ρ : Rho} {h : Heap} {w : World} {P : Program} {call : Call}
theorem copy_run {t tx ty e : TypeId} {n : Nat} {k : Option IntKind} (ht : elemT P t = some (e, n, k)) {base : Option Addr} {dLen cap m : Nat} {yv : Value} {news : List Value} {w' : World} (hs : Src P n tx yv m news w) (hle : m ≤ dLen)
    (hst : ∀ a, base = some a → (storeCells a news).run P w = .ok () w') (hn : base = none → w' = w) : (Builtin.copy_ #[t, tx] ty #[.slice base dLen cap, yv]).run P w = .ok (.int .i64 (m : Int)) w' := by
  obtain ⟨i, g1, g2, gb, g3, g4, _, g5⟩ := elemT_inv ht
  subst g3
  have hsz : (sizeOf e).run P w = .ok i.size w := by simp [sizeOf, typeInfo, g2]
  have hmin : Nat.min m dLen = m := Nat.min_eq_left hle
  unfold Builtin.copy_
  simp only [List.getElem?_toArray, List.getElem?_cons_zero, List.getElem?_cons_succ, Sem.run_bind, run_underlying g1, Result.andThen_ok, hs.len, hmin, hsz, hs.cells]
  cases base with
  | none => rw [hn rfl]; rfl
  | some a =>
    have := hst a rfl
    simp only [Sem.run_bind, this, Result.andThen_ok, Sem.run_pure, goInt]
theorem copy_sound {t tx ty e : TypeId} {n : Nat} {k : Option IntKind} (ht : elemT P t = some (e, n, k)) (hk : (∃ e', P.underlying tx = some (.slice e')) ∨ P.underlying tx = some .string) {x y : AV} {xv yv : Value} (r : SRel X I ρ h w) (hx : VRel I w ρ x xv) (hy : VRel I w ρ y yv) {v : AV} {h' : Heap}
    (er0 : (copyK n k x y).run call h = some (v, h')) : SOut P (Builtin.copy_ #[t, tx] ty #[xv, yv]) X I ρ w v h' := by
  unfold copyK at er0
  split at er0
  · rename_i id vw
    obtain ⟨s, er, hsrc⟩ := srcK_sound hk r hy er0
    clear er0
    obtain ⟨o, hid, er⟩ := get_inv er
    unfold copyRow at er
    split at er
    · rename_i c m
      obtain ⟨hm, er1⟩ := chk_inv er
      clear er
      subst hm
      obtain ⟨he, er1⟩ := chk_inv er1
      obtain ⟨hle, er1⟩ := chk_inv er1
      have hle : s.len ≤ (viewOf c vw).len := by simpa using hle
      unfold copyO at er1
      split at er1
      · rename_i c' hsp
        obtain ⟨_, er⟩ := put_inv er1
        cases ret_inv er
        rcases row_at r hid hx with ⟨g1, rfl, g2, g3, g4, g5⟩ | ⟨b, base, N, cap, a, cap', g1, rfl, g2, g3, g4, g5, g6, g7⟩
        · obtain ⟨s1, s2, s3, s4, s5, s6⟩ := PV.splice_spec he (by omega) hsp
          obtain ⟨_, news, hs⟩ := hsrc s2
          have hrun := copy_run (ty := ty) (base := none) (dLen := 0) (cap := 0) (w' := w) ht hs.src (by omega) (fun a h => by cases h) (fun _ => rfl)
          obtain ⟨s', ex⟩ := r.put (w' := w) (o' := .row c' true) hid rfl rfl ((Same.refl w).but _) (.inl ⟨g1, by omega, PV.real_slice s3⟩)
          exact ⟨_, _, hrun, I, ρ, ex, s', .pv (.int _ _)⟩
        · obtain ⟨s1, s2, s3, s4, s5, s6⟩ := PV.splice_spec he (by omega) hsp
          obtain ⟨_, news, hs⟩ := hsrc s2
          rcases r.objs id _ hid with ⟨g1', _⟩ | ⟨b', base', N', cap0, arr, et, lo, hi', g1', q2, q3, q4, q5, q6, q7, q8⟩
          · rw [g1] at g1'; cases g1'
          · rw [g1] at g1'; cases g1'
            have hN : n = N := esz_unique q6.real he q5
            subst hN
            obtain ⟨o', rfl, hcap, ho'⟩ := g4
            have hG0 := ContG.of q5 q6
            have hnl := hs.src.newsLen
            have hone : ∀ u ∈ news, Value.one u = true := fun u hu => by
              have := hs.src.one u hu
              cases u <;> first | rfl | cases this
            have hin : (o' = viewOff vw) ∨ s.len = 0 := by rcases ho' with h | ⟨h, _⟩; exact .inl h; exact .inr (by omega)
            have hb1 : base + o' * n + news.length ≤ arr.size := by
              rcases hin with rfl | h0
              · have : (viewOff vw + s.len) * n ≤ cap * n := Nat.mul_le_mul_right n (by omega)
                rw [Nat.add_mul] at this
                omega
              · have := Nat.mul_le_mul_right n (show o' ≤ cap by omega)
                rw [hnl, h0, Nat.zero_mul]; omega
            obtain ⟨arr', w', t1, t2, t3, t4, t5⟩ := store_run P b et lo hi' news (base + o' * n) 0 arr w q2 hb1 (fun j h1 h2 => q7 rfl j (by omega)) hone
            have hrun := copy_run (ty := ty) (base := some ⟨b, base + o' * n, none⟩) (dLen := (viewOf c vw).len) (cap := cap') (w' := w') ht hs.src hle (fun a h => by cases h; exact t1) (fun h => by cases h)
            simp only [Nat.add_zero] at t4
            have nb : ¬ I b := (r.muts id _ b hid rfl (by rw [g1]; rfl)).1
            have nI : ∀ b', I b' → w'.heap[b']? = w.heap[b']? := fun b' hb' => t5.heap b' (r.inI b' hb').1 fun e => nb (by cases e; exact hb')
            have hcont : ContRep I w' b base c' := by
              refine ContG.to (n := n) s1 s3 fun j hj => ?_
              rw [s5] at hj
              rw [s6 j hj]
              split
              · rename_i hin'
                have hoo : o' = viewOff vw := by rcases hin with h | h; exact h; omega
                subst hoo
                obtain ⟨u1, u2, u3⟩ := hs.rep (j - viewOff vw) (by omega)
                refine ⟨u1, u2, fun q p hp => ?_⟩
                obtain ⟨v, hv, hpr⟩ := u3 q p hp
                have hq : q < n := by rw [← u1]; exact (List.getElem?_eq_some_iff.1 hp).1
                refine ⟨v, ?_, hpr.mono (fun _ h => h) nI⟩
                have e1 : (j - viewOff vw) * n = j * n - viewOff vw * n := Nat.sub_mul _ _ _
                have e2 : viewOff vw * n ≤ j * n := Nat.mul_le_mul_right _ (by omega)
                have e3 := (List.getElem?_eq_some_iff.1 hv).1
                rw [cell_cells t2, t4, if_pos (by omega), ← hv]
                congr 1
                omega
              · rename_i hout
                obtain ⟨u1, u2, u3⟩ := hG0 j hj
                refine ⟨u1, u2, fun q p hp => ?_⟩
                obtain ⟨v, hv, hpr⟩ := u3 q p hp
                have hq : q < n := by rw [← u1]; exact (List.getElem?_eq_some_iff.1 hp).1
                refine ⟨v, ?_, hpr.mono (fun _ h => h) nI⟩
                rw [cell_cells t2, t4, if_neg ?_, ← cell_cells q2]
                · exact hv
                · rintro ⟨a1, a2⟩
                  rw [hnl] at a2
                  rcases hin with rfl | h0
                  · by_cases hjlt : j < viewOff vw
                    · have := mul_lt (n := n) hjlt (Nat.le_refl _); omega
                    · have : (viewOff vw + s.len) * n ≤ j * n := Nat.mul_le_mul_right n (by omega)
                      rw [Nat.add_mul] at this
                      omega
                  · rw [h0, Nat.zero_mul] at a2; omega
            obtain ⟨s', ex⟩ := r.put (w' := w') (o' := .row c' true) hid rfl rfl (by rw [g1]; exact t5)
              (.inr ⟨b, base, n, cap, arr', et, lo, hi', by rw [g1, s5], t2, by rw [t3]; exact q3, by rw [s5]; exact q4, s1, hcont, fun _ o ho => q7 rfl o (by rw [← t3]; exact ho), fun h => by cases h⟩)
            exact ⟨_, _, hrun, I, ρ, ex, s', .pv (.int _ _)⟩
      · exact (fail_inv er1).elim
    · exact (fail_inv er).elim
  · exact (fail_inv er0).elim
end
end Go.Proofs.Ytkeipmkiilimeaa.V
