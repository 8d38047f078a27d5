/- That the law BreedMore holds of every input (the tied card BreedMoreCardSaid), where the two listed tables lie as the program's text lays them. (Part 1 of this claim's texts.) -/
import GoSem.Core.Ast
import GoSem.Core.Next
import Derived.WalkKit
import Derived.Below
import Derived.Laws.Append
import Derived.Laws.Cells
import Derived.Laws.Tables
import Derived.Laws.StructEq
import Derived.Laws.Concat
import Derived.Laws.IdiomStrings
import Derived.Laws.MakeOwn
import Derived.Lib.Strings
import Derived.Great.BuildSlice
import Derived.Laws.Slices
import Derived.Laws.Strings2
import Derived.Orders
import Derived.Calls
import Derived.StillTail
set_option linter.unusedSimpArgs false
set_option linter.unusedVariables false
set_option linter.unnecessarySimpa false
section
/- A small language Gc in which each Go function of the cut is told once: its values, its heap of numbered blocks, its operations and its code, with an evaluator that has a bound on its rounds. No Go program and no memory of the model stands in it. -/
set_option linter.unusedVariables false
namespace Gc
open Go (IntKind BinOp UnOp)
/-- A value. A slice bears its block, where it begins there (in cells), its length and its capacity (in elements); no capacity: some capacity, at least the length. -/
inductive Val where
  | undef
  | bool (b : Bool)
  | int (k : IntKind) (n : Int)
  | str (s : List UInt8)
  | nilp
  | ptr (blk off : Nat)
  | nils
  | slice (blk off len : Nat) (cap : Option Nat)
  | fn (f : Nat) (cs : List Val)
  | nilf
  | iface (t : Nat) (v : Val)
  | nili
  | agg (cs : List Val)
  | tup (vs : List Val)
instance : Inhabited Val := ⟨.undef⟩
def Val.cells : Val → List Val
  | .agg cs => cs
  | v => [v]
/-- Does it lie in one cell? -/
def Val.one : Val → Bool
  | .agg _ => false
  | .tup _ => false
  | .undef => false
  | _ => true
def Val.ofCells (agg : Bool) (cs : List Val) : Option Val :=
  if agg then some (.agg cs) else match cs with
    | [c] => some c
    | _ => none
/-- A frame: its slots by their numbers, rising; a slot that isn't there holds nothing. -/
abbrev Frame := List (Nat × Val)
def Frame.get : Frame → Nat → Val
  | [], _ => .undef
  | (j, v) :: r, k => if j = k then v else Frame.get r k
def Frame.put : Frame → Nat → Val → Frame
  | [], k, v => [(k, v)]
  | (j, u) :: r, k, v => if k < j then (k, v) :: (j, u) :: r else if k = j then (k, v) :: r else (j, u) :: Frame.put r k v
def Frame.drop (fr : Frame) (ks : List Nat) : Frame := fr.filter fun p => !ks.contains p.1
def Frame.dst (fr : Frame) : Option Nat → Val → Frame
  | some k, v => fr.put k v
  | none, _ => fr
def Frame.enterFrom : Nat → List Val → Frame
  | _, [] => []
  | i, v :: vs => (i, v) :: Frame.enterFrom (i + 1) vs
/-- A block of cells; may it be written? -/
structure Blk where
  cells : List Val
  rw : Bool
  esz : Nat
/-- A block that is not to be looked at any more. -/
def Blk.dead : Blk := ⟨[], false, 0⟩
/-- The heap: the blocks by their numbers, the newest first; a block that is not laid yet is none. -/
abbrev Heap := List (Nat × Option Blk)
def Heap.size : Heap → Nat
  | [] => 0
  | (k, _) :: _ => k + 1
def Heap.get : Heap → Nat → Option Blk
  | [], _ => none
  | (j, b) :: r, k => if j = k then b else Heap.get r k
def Heap.has : Heap → Nat → Bool
  | [], _ => false
  | (j, _) :: r, k => if j = k then true else Heap.has r k
def Heap.push (h : Heap) (b : Option Blk) : Heap := (h.size, b) :: h
def Heap.set : Heap → Nat → Option Blk → Heap
  | [], k, c => [(k, c)]
  | (j, b) :: r, k, c => if j = k then (j, c) :: r else (j, b) :: Heap.set r k c
def Heap.reserve (h : Heap) : Nat → Heap
  | 0 => h
  | n + 1 => Heap.reserve (h.push none) n
def Heap.load (h : Heap) (agg : Bool) (size k o : Nat) : Option Val :=
  match h.get k with
  | some b => if o + size ≤ b.cells.length then Val.ofCells agg ((b.cells.drop o).take size) else none
  | none => none
def splice (l : List Val) (o : Nat) (cs : List Val) : List Val := l.take o ++ cs ++ l.drop (o + cs.length)
def Heap.store (h : Heap) (base k o : Nat) (cs : List Val) : Option Heap :=
  match h.get k with
  | some b => if base ≤ k ∧ b.rw = true ∧ o + cs.length ≤ b.cells.length ∧ cs.all Val.one = true then some (h.set k (some { b with cells := splice b.cells o cs })) else none
  | none => none
/-- A new block, behind the others or at a number that was kept for it. -/
def Heap.lay (h : Heap) (base : Nat) (slot : Option Nat) (b : Blk) : Option (Nat × Heap) :=
  match slot with
  | none => some (h.size, h.push (some b))
  | some s => if base ≤ s ∧ s < h.size ∧ h.has s = true ∧ (h.get s).isNone = true then some (s, h.set s (some b)) else none
inductive Opd where
  | t (n : Nat)
  | c (v : Val)
def Opd.ev (fr : Frame) : Opd → Val
  | .t n => fr.get n
  | .c v => v
inductive Callee where
  | fn (f : Nat)
  | val (x : Opd)
  | inv (x : Opd) (m : Nat)
/-- What kind of values '==' and its kin are asked of. -/
inductive CK where
  | int | str | bool
inductive BK where
  | plain
  | bool
  | agg (ks : List CK)
  | ptr
  | slice
  | func
  | iface
/-- An operation that calls nothing. 'slot': the place, counted from the region's first kept number, of a block that is laid in a region with no order of its own. 'fail': what this language doesn't cover. 'loadVia', 'storeApart': a load, a store, of the block, not of the block, that a slot of the frame points into. -/
inductive Op where
  | mov (x : Opd)
  | pick (c a b : Opd)
  | box (slot : Option Nat) (x : Opd)
  | build (zero : List Val) (parts : List (Nat × Nat × Opd))
  | buildSlice (slot : Option Nat) (esz : Nat) (zero : List Val) (len : Nat) (parts : List (Nat × Nat × Opd))
  | load (agg : Bool) (size : Nat) (a : Opd)
  | store (size : Nat) (a x : Opd)
  | loadVia (agg : Bool) (size : Nat) (a : Opd) (t : Nat)
  | storeApart (size : Nat) (a x : Opd) (t : Nat)
  | clear (zero : List Val) (x : Opd)
  | fail
  | nilchk (x : Opd)
  | bin (k : BK) (op : BinOp) (x y : Opd)
  | un (op : UnOp) (x : Opd)
  | conv (k : IntKind) (x : Opd)
  | toStr (x : Opd)
  | toBytes (x : Opd)
  | mkIface (t : Nat) (x : Opd)
  | mkFn (f : Nat) (cs : List Opd)
  | makeSlice (zero : List Val) (bytes : Nat) (len cap : Opd)
  | slc (esz : Nat) (x : Opd) (lo hi mx : Option Opd)
  | strSlc (x : Opd) (lo hi : Option Opd)
  | fieldAddr (off : Nat) (x : Opd)
  | field (agg : Bool) (off size : Nat) (x : Opd)
  | indexAddr (esz : Nat) (x i : Opd)
  | indexArrAddr (n esz : Nat) (x i : Opd)
  | index (agg : Bool) (n esz : Nat) (x i : Opd)
  | strIndex (x i : Opd)
  | assert (t : Nat) (zero : Val) (x : Opd) (ok : Bool)
  | extract (x : Opd) (i : Nat)
  | len (str : Bool) (x : Opd)
  | append (slot : Option Nat) (esz bytes : Nat) (s x : Opd)
  | minmax (max : Bool) (xs : List Opd)
inductive ROpK where
  | op (o : Op)
  | call (prot : Bool) (c : Callee) (args : List Opd)
structure ROp where
  dst : Option Nat
  guard : Option (Nat × Bool)
  k : ROpK
inductive Code where
  | skip
  | seq (a b : Code)
  | region (ops : List ROp) (drop : List Nat) (keep : Nat) (draw : Bool)
  | cond (x : Opd) (a b : Code)
  | block (id : Nat) (c : Code)
  | loop (c : Code)
  | exit (id : Nat)
  | ret
inductive RV where
  | tmp (t : Nat)
  | cell (a : Nat) (agg : Bool) (size : Nat)
structure Fun where
  body : Code
  results : List RV
/-! ### Operations -/
def maxRoom : Nat := 35184372088832
/-- The parts of a struct or a row, each at its place. -/
def fill : List Val → List (Nat × Nat × Val) → Option (List Val)
  | cs, [] => some cs
  | cs, (o, n, v) :: r => if v.cells.length = n ∧ o + n ≤ cs.length ∧ v.cells.all Val.one = true then fill (splice cs o v.cells) r else none
def evParts (fr : Frame) (ps : List (Nat × Nat × Opd)) : List (Nat × Nat × Val) := ps.map fun p => (p.1, p.2.1, p.2.2.ev fr)
def isNil : BK → Val → Option Bool
  | .ptr, .nilp => some true
  | .ptr, .ptr _ _ => some false
  | .slice, .nils => some true
  | .slice, .slice _ _ _ _ => some false
  | .iface, .nili => some true
  | .iface, .iface _ _ => some false
  | .func, .nilf => some true
  | .func, .fn _ _ => some false
  | _, _ => none
def cmpInt (op : BinOp) (x y : Int) : Option Bool :=
  match op with
  | .eql => some (x == y)
  | .neq => some (x != y)
  | .lss => some (decide (x < y))
  | .leq => some (decide (x ≤ y))
  | .gtr => some (decide (x > y))
  | .geq => some (decide (x ≥ y))
  | _ => none
/-- '==' of what lies in one cell. -/
def eqCell : CK → Val → Val → Option Bool
  | .int, .int k a, .int k' b => if k = k' then some (a == b) else none
  | .str, .str a, .str b => some (a == b)
  | .bool, .bool a, .bool b => some (a == b)
  | _, _, _ => none
def eqCells : List CK → List Val → List Val → Option Bool
  | [], [], [] => some true
  | k :: ks, x :: xs, y :: ys =>
    match eqCell k x y with
    | some true => eqCells ks xs ys
    | some false => if xs.length = ks.length ∧ ys.length = ks.length then some false else none
    | none => none
  | _, _, _ => none
def bitsOp (op : BinOp) (k : IntKind) (x y : Int) : Option Int :=
  let a := BitVec.ofInt k.bits x
  let b := BitVec.ofInt k.bits y
  match op with
  | .and => some (k.wrap (a &&& b).toNat)
  | .or => some (k.wrap (a ||| b).toNat)
  | .xor => some (k.wrap (a ^^^ b).toNat)
  | .andNot => some (k.wrap (a &&& ~~~b).toNat)
  | _ => none
def intOp (op : BinOp) (k : IntKind) (x y : Int) : Option Val :=
  match op with
  | .add => some (.int k (k.wrap (x + y)))
  | .sub => some (.int k (k.wrap (x - y)))
  | .mul => some (.int k (k.wrap (x * y)))
  | .quo => if y = 0 then none else some (.int k (k.wrap (x.tdiv y)))
  | .rem => if y = 0 then none else some (.int k (x.tmod y))
  | .and | .or | .xor | .andNot => (bitsOp op k x y).map (.int k ·)
  | .shl | .shr => none
  | op => (cmpInt op x y).map .bool
def shiftOp (op : BinOp) (k : IntKind) (x y : Int) : Option Val :=
  if y < 0 then none else
    match op with
    | .shl => some (.int k (k.wrap (x * 2 ^ (min y.toNat k.bits))))
    | .shr => some (.int k (x.fdiv (2 ^ (min y.toNat k.bits))))
    | _ => none
def bytesLess : List UInt8 → List UInt8 → Bool
  | _, [] => false
  | [], _ :: _ => true
  | a :: x, b :: y => a < b || (a == b && bytesLess x y)
def strOp (op : BinOp) (x y : List UInt8) : Option Val :=
  match op with
  | .add => if x.length + y.length ≤ maxRoom then some (.str (x ++ y)) else none
  | .eql => some (.bool (x == y))
  | .neq => some (.bool (!(x == y)))
  | .lss => some (.bool (bytesLess x y))
  | .leq => some (.bool (bytesLess x y || x == y))
  | .gtr => some (.bool (!(bytesLess x y || x == y)))
  | .geq => some (.bool (!bytesLess x y))
  | _ => none
def nilOp (op : BinOp) (nx ny : Option Bool) : Option Val :=
  match ny with
  | some true =>
    match op with
    | .eql => nx.map .bool
    | .neq => nx.map fun b => .bool (!b)
    | _ => none
  | _ => none
def binOp (k : BK) (op : BinOp) (x y : Val) : Option Val :=
  match k with
  | .plain =>
    match x, y with
    | .int k a, .int k' b =>
      match op with
      | .shl | .shr => shiftOp op k a b
      | op => if k = k' then intOp op k a b else none
    | .str a, .str b => strOp op a b
    | _, _ => none
  | .bool =>
    match x, y with
    | .bool a, .bool b =>
      match op with
      | .eql => some (.bool (a == b))
      | .neq => some (.bool (!(a == b)))
      | _ => none
    | _, _ => none
  | .agg ks =>
    match x, y with
    | .agg xs, .agg ys =>
      match op with
      | .eql => (eqCells ks xs ys).map .bool
      | .neq => (eqCells ks xs ys).map fun b => .bool (!b)
      | _ => none
    | _, _ => none
  | k => nilOp op (isNil k x) (isNil k y)
def unOp (op : UnOp) (x : Val) : Option Val :=
  match op, x with
  | .neg, .int k n => some (.int k (k.wrap (0 - n)))
  | .xor, .int k n => (bitsOp .xor k (if k.signed then -1 else k.max) n).map (.int k ·)
  | .not, .bool b => some (.bool !b)
  | _, _ => none
def asBytes : List Val → Option (List UInt8)
  | [] => some []
  | .int .u8 n :: r => (asBytes r).map (UInt8.ofNat n.toNat :: ·)
  | _ => none
def ofBytes (s : List UInt8) : List Val := s.map fun b => .int .u8 b.toNat
def sliceOp (esz : Nat) (x : Val) (lo : Nat) (hi mx : Option Nat) : Option Val :=
  match x with
  | .nils => if lo = 0 ∧ hi.getD 0 = 0 ∧ mx.getD 0 = 0 ∧ (mx = none ∨ hi.isSome = true) then some .nils else none
  | .slice k o n c =>
    match mx with
    | none =>
      let h := hi.getD n
      match c with
      | none => if lo ≤ h ∧ h ≤ n then some (.slice k (o + lo * esz) (h - lo) none) else none
      | some c => if lo ≤ h ∧ h ≤ c then some (.slice k (if c = lo then o else o + lo * esz) (h - lo) (some (c - lo))) else none
    | some m =>
      match hi with
      | none => none
      | some h => if lo ≤ h ∧ h ≤ m ∧ m ≤ c.getD n then some (.slice k (if m = lo then o else o + lo * esz) (h - lo) (some (m - lo))) else none
  | _ => none
/-- A slice whose capacity is not known is cut only while its block is known. -/
def slcOk (h : Heap) (esz : Nat) : Val → Bool
  | .slice k _ _ none =>
    match h.get k with
    | some b => b.rw && b.esz == esz
    | none => false
  | _ => true
/-- A bound of a slice expression. -/
def boundOpt (fr : Frame) : Option Opd → Option (Option Nat)
  | none => some none
  | some x =>
    match x.ev fr with
    | .int _ n => if 0 ≤ n then some (some n.toNat) else none
    | _ => none
/-- 'append': the n new elements lie in 'new'. Where the capacity is not known, what the old slice lay in is not to be used again. -/
def appendOp (base : Nat) (h : Heap) (slot : Option Nat) (esz bytes : Nat) (s : Val) (n : Nat) (new : List Val) : Option (Val × Heap) :=
  if ¬ (1 ≤ bytes ∧ 1 ≤ esz ∧ new.length = n * esz ∧ new.all Val.one = true) then none else
  match s with
  | .nils =>
    if n = 0 then some (.nils, h) else if n * bytes ≤ maxRoom then
      (h.lay base slot ⟨new, true, esz⟩).map fun r => (.slice r.1 0 n none, r.2)
    else none
  | .slice k o len c =>
    if n = 0 then some (s, h) else
    match h.get k with
    | none => none
    | some b =>
      if ¬ (o + len * esz ≤ b.cells.length ∧ (len + n) * bytes ≤ maxRoom) then none else
      let old := (b.cells.drop o).take (len * esz)
      match c with
      | some c =>
        if len + n ≤ c then
          if slot.isSome = true then none else match h.store base k (o + len * esz) new with
          | some h' => some (.slice k o (len + n) (some c), h')
          | none => none
        else
          (h.lay base slot ⟨old ++ new, true, esz⟩).map fun r => (.slice r.1 0 (len + n) none, r.2)
      | none =>
        if base ≤ k ∧ b.rw = true ∧ b.esz = esz ∧ slot = none then
          ((h.set k (some .dead)).lay base none ⟨old ++ new, true, esz⟩).map fun r => (.slice r.1 0 (len + n) none, r.2)
        else none
  | _ => none
/-- The elements behind the dots of an append, and how many. -/
def spread (h : Heap) (esz : Nat) : Val → Option (Nat × List Val)
  | .nils => some (0, [])
  | .slice k o n _ =>
    if n = 0 then some (0, []) else
    match h.get k with
    | some b => if o + n * esz ≤ b.cells.length then some (n, (b.cells.drop o).take (n * esz)) else none
    | none => none
  | .str s => if esz = 1 then some (s.length, ofBytes s) else none
  | _ => none
def foldMM (max : Bool) : IntKind → Int → List Val → Option Val
  | k, a, [] => some (.int k a)
  | k, a, .int k' b :: r => if k = k' then foldMM max k (if max then (if b > a then b else a) else (if b < a then b else a)) r else none
  | _, _, _ => none
/-- Do two pointers point into one block? -/
def sameBlk : Val → Val → Option Bool
  | .ptr k _, .ptr k' _ => some (k == k')
  | _, _ => none
def Op.eval (base kept : Nat) (fr : Frame) (h : Heap) : Op → Option (Val × Heap)
  | .mov x => some (x.ev fr, h)
  | .pick c a b =>
    match c.ev fr with
    | .bool t => some (if t then a.ev fr else b.ev fr, h)
    | _ => none
  | .box slot x =>
    let cs := (x.ev fr).cells
    if cs.all Val.one = true then
      (h.lay base (slot.map (kept + ·)) ⟨cs, true, 0⟩).map fun r => (.ptr r.1 0, r.2)
    else none
  | .build zero parts => (fill zero (evParts fr parts)).map fun cs => (.agg cs, h)
  | .buildSlice slot esz zero n0 parts =>
    match fill zero (evParts fr parts) with
    | some cs =>
      if cs.all Val.one = true then
        (h.lay base (slot.map (kept + ·)) ⟨cs, true, esz⟩).map fun r => (.slice r.1 0 n0 (some n0), r.2)
      else none
    | none => none
  | .load agg size a =>
    match a.ev fr with
    | .ptr k o => (h.load agg size k o).map fun v => (v, h)
    | _ => none
  | .store size a x =>
    match a.ev fr with
    | .ptr k o => if (x.ev fr).cells.length = size then (h.store base k o (x.ev fr).cells).map fun h' => (.undef, h') else none
    | _ => none
  | .loadVia agg size a t =>
    if sameBlk (a.ev fr) (fr.get t) = some true then
      match a.ev fr with
      | .ptr k o => (h.load agg size k o).map fun v => (v, h)
      | _ => none
    else none
  | .storeApart size a x t =>
    if sameBlk (a.ev fr) (fr.get t) = some false then
      match a.ev fr with
      | .ptr k o => if (x.ev fr).cells.length = size then (h.store base k o (x.ev fr).cells).map fun h' => (.undef, h') else none
      | _ => none
    else none
  | .fail => none
  | .clear zero x =>
    match x.ev fr with
    | .nils => some (.tup [], h)
    | .slice k o n _ => if n = 0 then some (.tup [], h) else (h.store base k o (List.replicate n zero).flatten).map fun h' => (.tup [], h')
    | _ => none
  | .nilchk x =>
    match x.ev fr with
    | .ptr k o => some (.ptr k o, h)
    | .fn f cs => some (.fn f cs, h)
    | .iface t v => some (.iface t v, h)
    | _ => none
  | .bin k op x y => (binOp k op (x.ev fr) (y.ev fr)).map fun v => (v, h)
  | .un op x => (unOp op (x.ev fr)).map fun v => (v, h)
  | .conv k x =>
    match x.ev fr with
    | .int _ n => some (.int k (k.wrap n), h)
    | _ => none
  | .toStr x =>
    match x.ev fr with
    | .nils => some (.str [], h)
    | .slice k o n c =>
      match spread h 1 (.slice k o n c) with
      | some (_, cs) => (asBytes cs).map fun s => (.str s, h)
      | none => none
    | _ => none
  | .toBytes x =>
    match x.ev fr with
    | .str s => if s.length ≤ maxRoom then (h.lay base none ⟨ofBytes s, true, 1⟩).map fun r => (.slice r.1 0 s.length none, r.2) else none
    | _ => none
  | .mkIface t x => some (.iface t (x.ev fr), h)
  | .mkFn f cs => some (.fn f (cs.map (·.ev fr)), h)
  | .makeSlice zero bytes l0 c0 =>
    match l0.ev fr, c0.ev fr with
    | .int .i64 l, .int .i64 c =>
      if 0 ≤ l ∧ l ≤ c ∧ c * bytes ≤ maxRoom ∧ 1 ≤ bytes ∧ zero.all Val.one = true then
        (h.lay base none ⟨(List.replicate c.toNat zero).flatten, true, zero.length⟩).map fun r => (.slice r.1 0 l.toNat (some c.toNat), r.2)
      else none
    | _, _ => none
  | .slc esz x lo hi mx =>
    match boundOpt fr lo, boundOpt fr hi, boundOpt fr mx with
    | some l, some h', some m => if slcOk h esz (x.ev fr) = true then (sliceOp esz (x.ev fr) (l.getD 0) h' m).map fun v => (v, h) else none
    | _, _, _ => none
  | .strSlc x lo hi =>
    match x.ev fr with
    | .str s =>
      match boundOpt fr lo, boundOpt fr hi with
      | some l, some h' => if l.getD 0 ≤ h'.getD s.length ∧ h'.getD s.length ≤ s.length then some (.str ((s.take (h'.getD s.length)).drop (l.getD 0)), h) else none
      | _, _ => none
    | _ => none
  | .fieldAddr off x =>
    match x.ev fr with
    | .ptr k o => some (.ptr k (o + off), h)
    | _ => none
  | .field agg off size x =>
    match x.ev fr with
    | .agg cs => if off + size ≤ cs.length then (Val.ofCells agg ((cs.drop off).take size)).map fun v => (v, h) else none
    | _ => none
  | .indexAddr esz x i =>
    match x.ev fr, i.ev fr with
    | .slice k o n _, .int _ j => if 0 ≤ j ∧ j < n then some (.ptr k (o + j.toNat * esz), h) else none
    | _, _ => none
  | .indexArrAddr n esz x i =>
    match x.ev fr, i.ev fr with
    | .ptr k o, .int _ j => if 0 ≤ j ∧ j < n then some (.ptr k (o + j.toNat * esz), h) else none
    | _, _ => none
  | .index agg n esz x i =>
    match x.ev fr, i.ev fr with
    | .agg cs, .int _ j => if 0 ≤ j ∧ j < n ∧ j.toNat * esz + esz ≤ cs.length then (Val.ofCells agg ((cs.drop (j.toNat * esz)).take esz)).map fun v => (v, h) else none
    | _, _ => none
  | .strIndex x i =>
    match x.ev fr, i.ev fr with
    | .str s, .int _ j => if 0 ≤ j then (s[j.toNat]?).map fun b => (.int .u8 b.toNat, h) else none
    | _, _ => none
  | .assert t zero x ok =>
    match x.ev fr with
    | .iface u v => if u = t then some (if ok then .tup [v, .bool true] else v, h) else if ok then some (.tup [zero, .bool false], h) else none
    | .nili => if ok then some (.tup [zero, .bool false], h) else none
    | _ => none
  | .extract x i =>
    match x.ev fr with
    | .tup vs => (vs[i]?).map fun v => (v, h)
    | _ => none
  | .len str x =>
    match str, x.ev fr with
    | true, .str s => some (.int .i64 s.length, h)
    | false, .nils => some (.int .i64 0, h)
    | false, .slice _ _ n _ => some (.int .i64 n, h)
    | _, _ => none
  | .append slot esz bytes s x =>
    match spread h esz (x.ev fr) with
    | some (n, new) => appendOp base h (slot.map (kept + ·)) esz bytes (s.ev fr) n new
    | none => none
  | .minmax max xs =>
    match (xs.map (fun x => x.ev fr) : List Val) with
    | .int k a :: r => (foldMM max k a r).map fun v => (v, h)
    | _ => none
/-! ### The evaluator -/
inductive Ex where
  | norm
  | brk (id : Nat)
  | ret
  | pan (v : Val)
inductive Res where
  | ret (v : Val)
  | pan (v : Val)
/-- What the calls come to: each function's text; the method of a dynamic type, with the part of the value that receives it; functions of the library that are told by what they give. -/
structure Env where
  code : Nat → Option Fun
  method : Nat → Nat → Option (Nat × Option (Bool × Nat × Nat))
  told : Nat → List Val → Heap → Option Val
def part (agg : Bool) (off size : Nat) : Val → Option Val
  | .agg cs => if off + size ≤ cs.length then Val.ofCells agg ((cs.drop off).take size) else none
  | _ => none
def Callee.find (E : Env) (fr : Frame) (args : List Val) : Callee → Option (Nat × List Val)
  | .fn f => some (f, args)
  | .val x =>
    match x.ev fr with
    | .fn f cs => some (f, args ++ cs)
    | _ => none
  | .inv x m =>
    match x.ev fr with
    | .iface t v =>
      match E.method t m with
      | some (f, none) => some (f, v :: args)
      | some (f, some (agg, off, size)) => (part agg off size v).map fun u => (f, u :: args)
      | none => none
    | _ => none
def resultVals (fr : Frame) (h : Heap) : List RV → Option (List Val)
  | [] => some []
  | .tmp t :: r => (resultVals fr h r).map (fr.get t :: ·)
  | .cell a agg size :: r =>
    match fr.get a with
    | .ptr k o =>
      match h.load agg size k o with
      | some v => (resultVals fr h r).map (v :: ·)
      | none => none
    | _ => none
def tuple : List Val → Val
  | [v] => v
  | vs => .tup vs
abbrev CallF := Nat → Nat → List Val → Heap → Option (Res × Heap)
def stepK (call : CallF) (E : Env) (base kept : Nat) (o : ROp) (fr : Frame) (h : Heap) : Option (Ex × Frame × Heap) :=
  match o.k with
  | .op p =>
    match p.eval base kept fr h with
    | some (v, h') => some (.norm, fr.dst o.dst v, h')
    | none => none
  | .call prot c args =>
    match c.find E fr (args.map (·.ev fr)) with
    | some (f, vs) =>
      match call (if prot then h.size else base) f vs h with
      | some (.ret v, h') => some (.norm, fr.dst o.dst v, h')
      | some (.pan v, h') => some (.pan v, fr, h')
      | none => none
    | none => none
/-- What an operation leaves that was not wanted; what comes of it in turn is not wanted either. -/
def skipped : Val := .tup []
def gate : Val → Bool → Option Bool
  | .bool b, want => some (b == want)
  | .tup [], _ => some false
  | _, _ => none
def stepOp (call : CallF) (E : Env) (base kept : Nat) (o : ROp) (fr : Frame) (h : Heap) : Option (Ex × Frame × Heap) :=
  match o.guard with
  | none => stepK call E base kept o fr h
  | some (t, want) =>
    match gate (fr.get t) want with
    | some true => stepK call E base kept o fr h
    | some false => some (.norm, fr.dst o.dst skipped, h)
    | none => none
def runOps (call : CallF) (E : Env) (base kept : Nat) : List ROp → Frame → Heap → Option (Ex × Frame × Heap)
  | [], fr, h => some (.norm, fr, h)
  | o :: os, fr, h =>
    match stepOp call E base kept o fr h with
    | some (.norm, fr', h') => runOps call E base kept os fr' h'
    | r => r
def callBy (ex : Nat → Code → Frame → Heap → Option (Ex × Frame × Heap)) (E : Env) : CallF := fun base f args h =>
  match E.told f args h with
  | some v => some (.ret v, h)
  | none =>
    match E.code f with
    | some fn =>
      match ex base fn.body (Frame.enterFrom 0 args) h with
      | some (.pan v, _, h') => some (.pan v, h')
      | some (.brk _, _, _) => none
      | some (_, fr, h') => (resultVals fr h' fn.results).map fun vs => (.ret (tuple vs), h')
      | none => none
    | none => none
def exec (E : Env) : Nat → Nat → Code → Frame → Heap → Option (Ex × Frame × Heap)
  | 0, _, _, _, _ => none
  | n + 1, base, c, fr, h =>
    match c with
    | .skip => some (.norm, fr, h)
    | .seq a b =>
      match exec E n base a fr h with
      | some (.norm, fr', h') => exec E n base b fr' h'
      | r => r
    | .region ops drop keep draw =>
      match runOps (callBy (exec E n) E) E base h.size ops fr (h.reserve keep) with
      | some (.pan v, fr', h') => if draw then none else some (.pan v, fr', h')
      | some (x, fr', h') => some (x, fr'.drop drop, h')
      | none => none
    | .cond x a b =>
      match x.ev fr with
      | .bool t => exec E n base (if t then a else b) fr h
      | _ => none
    | .block id c =>
      match exec E n base c fr h with
      | some (.brk i, fr', h') => some (if i = id then .norm else .brk i, fr', h')
      | r => r
    | .loop c =>
      match exec E n base c fr h with
      | some (.norm, fr', h') => exec E n base (.loop c) fr' h'
      | r => r
    | .exit id => some (.brk id, fr, h)
    | .ret => some (.ret, fr, h)
def callN (E : Env) (n : Nat) : CallF := callBy (exec E n) E
end Gc
end
section
/- How values, blocks and frames of the small language Gc stand to the model's values and memory: the relations, and what each of them lets by. -/
set_option linter.unusedVariables false
namespace Gc
open Go Go.RowKit
/-! ### Frames and heaps -/
theorem Frame.get_put (fr : Frame) (k j : Nat) (v : Val) : (fr.put k v).get j = if j = k then v else fr.get j := by
  induction fr with
  | nil =>
    simp only [Frame.put, Frame.get]
    by_cases e : j = k
    · simp [e]
    · rw [if_neg e, if_neg (Ne.symm e)]
  | cons p r ih =>
    obtain ⟨i, u⟩ := p
    simp only [Frame.put]
    by_cases h1 : k < i
    · rw [if_pos h1]
      simp only [Frame.get]
      by_cases e : j = k
      · rw [if_pos e.symm, if_pos e]
      · rw [if_neg (Ne.symm e), if_neg e]
    · rw [if_neg h1]
      by_cases h2 : k = i
      · rw [if_pos h2]
        subst h2
        simp only [Frame.get]
        by_cases e : j = k
        · rw [if_pos e.symm, if_pos e]
        · rw [if_neg (Ne.symm e), if_neg e, if_neg (Ne.symm e)]
      · rw [if_neg h2]
        simp only [Frame.get, ih]
        by_cases e : i = j
        · subst e
          rw [if_pos rfl, if_pos rfl, if_neg (Ne.symm h2)]
        · rw [if_neg e, if_neg e]
theorem Frame.get_drop (fr : Frame) (ks : List Nat) (j : Nat) : (fr.drop ks).get j = fr.get j ∨ (fr.drop ks).get j = .undef := by
  induction fr with
  | nil => exact .inl rfl
  | cons p r ih =>
    obtain ⟨i, u⟩ := p
    simp only [Frame.drop, List.filter_cons] at ih ⊢
    by_cases h : (!ks.contains i) = true
    · simp only [h, if_true, Frame.get]
      by_cases e : i = j
      · simp [e]
      · simpa [e] using ih
    · simp only [h, Bool.false_eq_true, if_false, Frame.get]
      by_cases e : i = j
      · subst e
        refine .inr ?_
        have : ∀ l : Frame, Frame.get (l.filter fun p => !ks.contains p.1) i = .undef := by
          intro l
          induction l with
          | nil => rfl
          | cons q l ihl =>
            obtain ⟨j', u'⟩ := q
            simp only [List.filter_cons]
            by_cases h' : (!ks.contains j') = true
            · simp only [h', if_true, Frame.get]
              rw [if_neg (fun e => h (by rw [e] at h'; exact h'))]
              exact ihl
            · simp only [h', Bool.false_eq_true, if_false]
              exact ihl
        exact this r
      · simpa [e] using ih
@[simp] theorem Heap.size_push (h : Heap) (b : Option Blk) : (h.push b).size = h.size + 1 := rfl
theorem Heap.get_push (h : Heap) (b : Option Blk) (k : Nat) : (h.push b).get k = if k = h.size then b else h.get k := by
  simp only [Heap.push, Heap.get]
  by_cases e : k = h.size
  · rw [if_pos e.symm, if_pos e]
  · rw [if_neg (Ne.symm e), if_neg e]
theorem Heap.get_set (h : Heap) (k j : Nat) (c : Option Blk) : (h.set k c).get j = if j = k then c else h.get j := by
  induction h with
  | nil =>
    simp only [Heap.set, Heap.get]
    by_cases e : j = k
    · rw [if_pos e.symm, if_pos e]
    · rw [if_neg (Ne.symm e), if_neg e]
  | cons p r ih =>
    obtain ⟨i, u⟩ := p
    simp only [Heap.set]
    by_cases h1 : i = k
    · rw [if_pos h1]
      subst h1
      simp only [Heap.get]
      by_cases e : j = i
      · rw [if_pos e.symm, if_pos e]
      · rw [if_neg (Ne.symm e), if_neg e, if_neg (Ne.symm e)]
    · rw [if_neg h1]
      simp only [Heap.get, ih]
      by_cases e : i = j
      · subst e
        rw [if_pos rfl, if_pos rfl, if_neg h1]
      · rw [if_neg e, if_neg e]
theorem Heap.size_set (h : Heap) (k : Nat) (c : Option Blk) (hk : k < h.size) : (h.set k c).size = h.size := by
  cases h with
  | nil => simp [Heap.size] at hk
  | cons p r =>
    obtain ⟨i, u⟩ := p
    simp only [Heap.set]
    split <;> rfl
/-! ### Values -/
/-- Where a block of Gc lies: its block and place in the model's memory, how many cells are its own, and the size of an element. -/
structure Plc where
  blk : Nat
  off : Nat
  room : Nat
  esz : Nat
abbrev Place := Nat → Option Plc
def Ext (μ μ' : Place) : Prop := ∀ k p, μ k = some p → μ' k = some p
theorem Ext.refl (μ : Place) : Ext μ μ := fun _ _ h => h
theorem Ext.trans {μ μ' μ'' : Place} (h : Ext μ μ') (h' : Ext μ' μ'') : Ext μ μ'' := fun k p e => h' k p (h k p e)
/-- Names: the model's type and function behind Gc's number; the blocks of the variables of packages. -/
structure Sig where
  ty : Nat → TypeId
  fn : Nat → FuncId
  glob : Nat → Option Nat
  base : Place
  inj : ∀ a b, ty a = ty b → a = b
  globOk : ∀ g k, glob g = some k → ∃ p, base k = some p ∧ p.blk = g ∧ p.off = 0
mutual
def VRel (S : Sig) (μ : Place) : Val → Value → Prop
  | .undef, _ => True
  | .bool b, v => v = .bool b
  | .int k n, v => v = .int k n
  | .str s, v => v = .string ⟨s.toArray⟩
  | .nilp, v => v = .pointer none
  | .ptr k o, v => ∃ p, μ k = some p ∧ v = .pointer (some ⟨p.blk, p.off + o, none⟩)
  | .nils, v => v = .slice none 0 0
  | .slice k o n (some c), v => ∃ p a, μ k = some p ∧ v = .slice (some a) n c ∧ n ≤ c ∧ (c = 0 ∨ a = ⟨p.blk, p.off + o, none⟩)
  | .slice k o n none, v => ∃ p a c, μ k = some p ∧ v = .slice (some a) n c ∧ n ≤ c ∧ (c = 0 ∨ (a = ⟨p.blk, p.off + o, none⟩ ∧ o + c * p.esz ≤ p.room))
  | .fn f cs, v => ∃ cs' : Array Value, v = .func (.func (S.fn f)) #[] cs' ∧ VRels S μ cs cs'.toList
  | .nilf, v => v = .nilFunc
  | .iface t x, v => ∃ v', v = .iface (S.ty t) v' ∧ VRel S μ x v'
  | .nili, v => v = .nilIface
  | .agg cs, v => ∃ cs' : Array Value, v = .agg cs' ∧ VRels S μ cs cs'.toList
  | .tup cs, v => ∃ cs' : Array Value, v = .tuple cs' ∧ VRels S μ cs cs'.toList
def VRels (S : Sig) (μ : Place) : List Val → List Value → Prop
  | [], l => l = []
  | c :: cs, l => ∃ c' l', l = c' :: l' ∧ VRel S μ c c' ∧ VRels S μ cs l'
end

mutual
theorem VRel.mono {S : Sig} {μ μ' : Place} (e : Ext μ μ') : ∀ (x : Val) (v : Value), VRel S μ x v → VRel S μ' x v
  | .undef, _, _ => by simp [VRel]
  | .bool _, _, h => by simpa [VRel] using h
  | .int _ _, _, h => by simpa [VRel] using h
  | .str _, _, h => by simpa [VRel] using h
  | .nilp, _, h => by simpa [VRel] using h
  | .ptr k o, v, h => by
    simp only [VRel] at h ⊢
    obtain ⟨p, hp, h⟩ := h
    exact ⟨p, e _ _ hp, h⟩
  | .nils, _, h => by simpa [VRel] using h
  | .slice k o n (some c), v, h => by
    simp only [VRel] at h ⊢
    obtain ⟨p, a, hp, h⟩ := h
    exact ⟨p, a, e _ _ hp, h⟩
  | .slice k o n none, v, h => by
    simp only [VRel] at h ⊢
    obtain ⟨p, a, c, hp, h⟩ := h
    exact ⟨p, a, c, e _ _ hp, h⟩
  | .fn f cs, v, h => by
    simp only [VRel] at h ⊢
    obtain ⟨cs', h1, h2⟩ := h
    exact ⟨cs', h1, VRels.mono e cs _ h2⟩
  | .nilf, _, h => by simpa [VRel] using h
  | .iface t x, v, h => by
    simp only [VRel] at h ⊢
    obtain ⟨v', h1, h2⟩ := h
    exact ⟨v', h1, VRel.mono e x v' h2⟩
  | .nili, _, h => by simpa [VRel] using h
  | .agg cs, v, h => by
    simp only [VRel] at h ⊢
    obtain ⟨cs', h1, h2⟩ := h
    exact ⟨cs', h1, VRels.mono e cs _ h2⟩
  | .tup cs, v, h => by
    simp only [VRel] at h ⊢
    obtain ⟨cs', h1, h2⟩ := h
    exact ⟨cs', h1, VRels.mono e cs _ h2⟩
theorem VRels.mono {S : Sig} {μ μ' : Place} (e : Ext μ μ') : ∀ (xs : List Val) (vs : List Value), VRels S μ xs vs → VRels S μ' xs vs
  | [], _, h => by simpa [VRels] using h
  | c :: cs, l, h => by
    simp only [VRels] at h ⊢
    obtain ⟨c', l', h1, h2, h3⟩ := h
    exact ⟨c', l', h1, VRel.mono e c c' h2, VRels.mono e cs l' h3⟩
end

theorem VRels.length {S : Sig} {μ : Place} : ∀ {xs : List Val} {vs : List Value}, VRels S μ xs vs → vs.length = xs.length
  | [], _, h => by simp only [VRels] at h; simp [h]
  | c :: cs, l, h => by
    simp only [VRels] at h
    obtain ⟨c', l', rfl, _, h3⟩ := h
    simp [h3.length]
theorem VRels.get {S : Sig} {μ : Place} : ∀ {xs : List Val} {vs : List Value}, VRels S μ xs vs → ∀ {i : Nat} {x : Val}, xs[i]? = some x → ∃ v, vs[i]? = some v ∧ VRel S μ x v
  | [], _, _, i, x, hx => by simp at hx
  | c :: cs, l, h, i, x, hx => by
    simp only [VRels] at h
    obtain ⟨c', l', rfl, h2, h3⟩ := h
    cases i with
    | zero => exact ⟨c', by simp, by simp at hx; exact hx ▸ h2⟩
    | succ i => simpa using h3.get (i := i) (x := x) (by simpa using hx)
theorem VRels.mk {S : Sig} {μ : Place} : ∀ {xs : List Val} {vs : List Value}, vs.length = xs.length → (∀ (i : Nat) (x : Val), xs[i]? = some x → ∃ v, vs[i]? = some v ∧ VRel S μ x v) → VRels S μ xs vs
  | [], vs, hl, _ => by simp only [VRels]; exact List.eq_nil_of_length_eq_zero hl
  | c :: cs, [], hl, _ => by simp at hl
  | c :: cs, v :: vs, hl, h => by
    simp only [VRels]
    refine ⟨v, vs, rfl, ?_, VRels.mk (by simpa using hl) fun i x hx => by simpa using h (i + 1) x (by simpa using hx)⟩
    obtain ⟨v', e, hv⟩ := h 0 c (by simp)
    simp at e
    exact e ▸ hv
theorem VRels.append {S : Sig} {μ : Place} : ∀ {xs ys : List Val} {vs us : List Value}, VRels S μ xs vs → VRels S μ ys us → VRels S μ (xs ++ ys) (vs ++ us)
  | [], ys, vs, us, h, h' => by simp only [VRels] at h; simpa [h] using h'
  | c :: cs, ys, l, us, h, h' => by
    simp only [VRels] at h
    obtain ⟨c', l', rfl, h2, h3⟩ := h
    simp only [List.cons_append, VRels]
    exact ⟨c', l' ++ us, rfl, h2, h3.append h'⟩
theorem VRels.take {S : Sig} {μ : Place} : ∀ {xs : List Val} {vs : List Value} (n : Nat), VRels S μ xs vs → VRels S μ (xs.take n) (vs.take n)
  | [], vs, n, h => by simp only [VRels] at h; simp [h, VRels]
  | c :: cs, l, 0, h => by simp [VRels]
  | c :: cs, l, n + 1, h => by
    simp only [VRels] at h
    obtain ⟨c', l', rfl, h2, h3⟩ := h
    simp only [List.take_succ_cons, VRels]
    exact ⟨c', l'.take n, rfl, h2, h3.take n⟩
theorem VRels.drop {S : Sig} {μ : Place} : ∀ {xs : List Val} {vs : List Value} (n : Nat), VRels S μ xs vs → VRels S μ (xs.drop n) (vs.drop n)
  | [], vs, n, h => by simp only [VRels] at h; simp [h, VRels]
  | c :: cs, l, 0, h => by simpa using h
  | c :: cs, l, n + 1, h => by
    simp only [VRels] at h
    obtain ⟨c', l', rfl, h2, h3⟩ := h
    simpa using h3.drop n
theorem VRels.one {S : Sig} {μ : Place} {x : Val} {v : Value} : VRels S μ [x] [v] ↔ VRel S μ x v := by
  simp [VRels]
theorem VRel.oneCell {S : Sig} {μ : Place} {x : Val} {v : Value} (h : VRel S μ x v) (h1 : x.one = true) : v.oneCell' = true := by
  cases x with
  | slice k o n c => cases c <;> simp only [VRel] at h <;> obtain ⟨p, a, h⟩ := h <;> simp_all [Value.oneCell'] <;> (obtain ⟨c, _, rfl, _⟩ := h; rfl)
  | ptr k o => simp only [VRel] at h; obtain ⟨p, _, rfl⟩ := h; rfl
  | fn f cs => simp only [VRel] at h; obtain ⟨p, rfl, _⟩ := h; rfl
  | iface t x => simp only [VRel] at h; obtain ⟨p, rfl, _⟩ := h; rfl
  | _ => first | (simp [Val.one] at h1; done) | (simp only [VRel] at h; subst h; rfl)
/-- A value's cells. -/
theorem VRel.cells {S : Sig} {μ : Place} {x : Val} {v : Value} (h : VRel S μ x v) (h1 : x.cells.all Val.one = true) : VRels S μ x.cells v.cells.toList := by
  cases x with
  | agg cs => simp only [VRel] at h; obtain ⟨cs', rfl, h⟩ := h; simpa [Val.cells, Value.cells] using h
  | _ =>
    have h2 := VRel.oneCell h (by simpa [Val.cells] using h1)
    have : v.cells = #[v] := by cases v <;> simp_all [Value.cells, Value.oneCell']
    rw [this]
    simpa [Val.cells, VRels] using h
/-! ### Memory -/
structure BRel (S : Sig) (B : Nat) (μ : Place) (b : Blk) (p : Plc) (w : World) : Prop where
  cells : ∀ i c, b.cells[i]? = some c → ∃ v, w.cell? ⟨p.blk, p.off + i, none⟩ = some v ∧ VRel S μ c v
  own : b.rw = true → B ≤ p.blk ∧ b.cells.length ≤ p.room ∧ p.esz = b.esz ∧ ∃ arr el lo hi, w.heap[p.blk]? = some (.cells arr el (lo, hi)) ∧ p.off + p.room ≤ arr.size ∧ (p.off + p.room ≤ lo ∨ hi ≤ lo)
structure HRel (S : Sig) (B : Nat) (μ : Place) (h : Heap) (w : World) : Prop where
  base : B ≤ w.heap.size
  wf : ∀ k, h.size ≤ k → h.get k = none
  dom : ∀ k, h.get k = none → μ k = none
  old : ∀ k p, μ k = some p → p.blk < w.heap.size
  blk : ∀ k b, h.get k = some b → ∃ p, μ k = some p ∧ BRel S B μ b p w
  sep : ∀ j k bj bk pj pk, j ≠ k → h.get j = some bj → h.get k = some bk → bj.rw = true → (bk.rw = true ∨ bk.cells ≠ []) → μ j = some pj → μ k = some pk → pj.blk ≠ pk.blk
theorem BRel.mono {S : Sig} {B : Nat} {μ μ' : Place} {b : Blk} {p : Plc} {w w' : World} (h : BRel S B μ b p w) (e : Ext μ μ') (hw : w'.heap[p.blk]? = w.heap[p.blk]?) : BRel S B μ' b p w' where
  cells i c hc := by
    obtain ⟨v, h1, h2⟩ := h.cells i c hc
    refine ⟨v, ?_, h2.mono e⟩
    rw [← h1]
    simp only [World.cell?, hw]
  own hr := by rw [hw]; exact h.own hr
/-- The world goes on and no block that Gc knows turns. -/
theorem HRel.later {S : Sig} {B : Nat} {μ : Place} {h : Heap} {w w' : World} (H : HRel S B μ h w) (hs : w.heap.size ≤ w'.heap.size) (hw : ∀ i, i < w.heap.size → w'.heap[i]? = w.heap[i]?) : HRel S B μ h w' where
  base := Nat.le_trans H.base hs
  wf := H.wf
  dom := H.dom
  old k p hp := Nat.lt_of_lt_of_le (H.old k p hp) hs
  blk k b hb := by
    obtain ⟨p, hp, hB⟩ := H.blk k b hb
    exact ⟨p, hp, hB.mono (Ext.refl _) (hw _ (H.old k p hp))⟩
  sep := H.sep
structure FRel (S : Sig) (μ : Place) (N : Nat) (fr : Frame) (tmps : Array Value) : Prop where
  size : tmps.size = N
  get : ∀ k, VRel S μ (fr.get k) (tmps.getD k Go.undef)
  ext : Ext S.base μ
theorem FRel.mono {S : Sig} {μ μ' : Place} {N : Nat} {fr : Frame} {tmps : Array Value} (h : FRel S μ N fr tmps) (e : Ext μ μ') : FRel S μ' N fr tmps :=
  ⟨h.size, fun k => (h.get k).mono e, h.ext.trans e⟩
theorem FRel.drop {S : Sig} {μ : Place} {N : Nat} {fr : Frame} {tmps : Array Value} (h : FRel S μ N fr tmps) (ks : List Nat) : FRel S μ N (fr.drop ks) tmps :=
  ⟨h.size, fun k => by
    rcases Frame.get_drop fr ks k with e | e
    · rw [e]; exact h.get k
    · rw [e]; simp [VRel], h.ext⟩
theorem FRel.put {S : Sig} {μ : Place} {N : Nat} {fr : Frame} {a : Act} (h : FRel S μ N fr a.tmps) (d : Option Nat) (hd : ∀ k, d = some k → k < N) {x : Val} {v : Value} (hv : VRel S μ x v) : FRel S μ N (fr.dst d x) (a.put d v).tmps := by
  cases d with
  | none => exact h
  | some k =>
    refine ⟨by simp [Act.put, h.size], fun j => ?_, h.ext⟩
    simp only [Frame.dst, Act.put, Frame.get_put]
    have hk : k < a.tmps.size := by rw [h.size]; exact hd k rfl
    by_cases e : j = k
    · subst e
      simp only [if_true, Array.getD_eq_getD_getElem?, Array.getElem?_setIfInBounds_self_of_lt hk]
      exact hv
    · rw [if_neg e]
      have := h.get j
      simpa [Array.getD_eq_getD_getElem?, Array.getElem?_setIfInBounds_ne (Ne.symm e)] using this
end Gc
end
section
/- What the small language's loads, stores and new blocks come to in the model's memory. -/
set_option linter.unusedVariables false
namespace Gc
open Go Go.RowKit
theorem add_off (b o n : Nat) : Addr.add ⟨b, o, none⟩ n = ⟨b, o + n, none⟩ := by
  unfold Addr.add; split <;> simp_all
/-! ### Loads -/
theorem load_cells {S : Sig} {B : Nat} {μ : Place} {h : Heap} {w : World} (H : HRel S B μ h w) {k o n : Nat} {b : Blk} {p : Plc} (hb : h.get k = some b) (hp : μ k = some p) (hl : o + n ≤ b.cells.length) :
    ∃ vs : List Value, vs.length = n ∧ VRels S μ ((b.cells.drop o).take n) vs ∧ ∀ (j : Nat) (v : Value), vs[j]? = some v → w.cell? (Addr.add ⟨p.blk, p.off + o, none⟩ j) = some v := by
  obtain ⟨p', hp', hB⟩ := H.blk k b hb
  obtain rfl : p' = p := Option.some.inj (hp'.symm.trans hp)
  have key : ∀ j, j < n → ∃ v, w.cell? (Addr.add ⟨p'.blk, p'.off + o, none⟩ j) = some v ∧ VRel S μ (b.cells.getD (o + j) .undef) v := by
    intro j hj
    have hlt : o + j < b.cells.length := by omega
    obtain ⟨v, h1, h2⟩ := hB.cells (o + j) (b.cells.getD (o + j) .undef) (by simp [List.getD_eq_getElem?_getD, List.getElem?_eq_getElem hlt])
    exact ⟨v, by rw [add_off]; rw [← h1, Nat.add_assoc], h2⟩
  have key2 : ∀ m, m ≤ n → ∃ vs : List Value, vs.length = m ∧ ∀ j, j < m → ∃ v, vs[j]? = some v ∧ w.cell? (Addr.add ⟨p'.blk, p'.off + o, none⟩ j) = some v ∧ VRel S μ (b.cells.getD (o + j) .undef) v := by
    intro m
    induction m with
    | zero => exact fun _ => ⟨[], rfl, fun j hj => by omega⟩
    | succ m ih =>
      intro hm
      obtain ⟨vs, hvl, hv⟩ := ih (by omega)
      obtain ⟨v, h1, h2⟩ := key m (by omega)
      refine ⟨vs ++ [v], by simp [hvl], fun j hj => ?_⟩
      by_cases e : j = m
      · subst e
        exact ⟨v, by simp [← hvl], h1, h2⟩
      · obtain ⟨u, g1, g2⟩ := hv j (by omega)
        exact ⟨u, by rw [List.getElem?_append_left (by omega)]; exact g1, g2⟩
  obtain ⟨vs, hvl, hv⟩ := key2 n (Nat.le_refl n)
  refine ⟨vs, hvl, VRels.mk (by simp [hvl]; omega) fun i x hx => ?_, fun j v hj => ?_⟩
  · have hi : i < n := by
      have := (List.getElem?_eq_some_iff.1 hx).1
      simp at this; omega
    obtain ⟨v, g1, _, g3⟩ := hv i hi
    refine ⟨v, g1, ?_⟩
    have : b.cells.getD (o + i) .undef = x := by
      rw [List.getElem?_take, if_pos hi, List.getElem?_drop] at hx
      simp [List.getD_eq_getElem?_getD, hx]
    rwa [this] at g3
  · have hlt : j < n := by rw [← hvl]; exact (List.getElem?_eq_some_iff.1 hj).1
    obtain ⟨u, g1, g2, _⟩ := hv j hlt
    rw [hj] at g1
    exact Option.some.inj g1 ▸ g2
theorem ofCells_rel {S : Sig} {μ : Place} {agg : Bool} {cs : List Val} {vs : List Value} {x : Val} (hx : Val.ofCells agg cs = some x) (h : VRels S μ cs vs) :
    (agg = true ∧ VRel S μ x (.agg vs.toArray)) ∨ (agg = false ∧ ∃ v, vs = [v] ∧ VRel S μ x v) := by
  unfold Val.ofCells at hx
  cases agg with
  | true =>
    simp at hx
    subst hx
    exact .inl ⟨rfl, by simp only [VRel]; exact ⟨vs.toArray, rfl, by simpa using h⟩⟩
  | false =>
    match cs, hx, h with
    | [c], hx, h =>
      simp at hx
      subst hx
      simp only [VRels] at h
      obtain ⟨v, l, rfl, h1, rfl⟩ := h
      exact .inr ⟨rfl, v, rfl, h1⟩
def isAggD : TypeDesc → Bool
  | .struct _ => true
  | .array _ _ => true
  | _ => false
/-- A load: of one cell, or of a struct or an array. -/
theorem load_rel {S : Sig} {B : Nat} {μ : Place} {h : Heap} {w : World} (H : HRel S B μ h w) {P : Program} {t : TypeId} {d : TypeDesc} {i : TypeInfo} (hd : P.underlying t = some d) (hi : P.info? t = some i)
    {agg : Bool} {n : Nat} (hagg : agg = isAggD d) (hn : agg = true → n = i.size) {k o : Nat} {x : Val} {p : Plc} (hl : h.load agg n k o = some x) (hp : μ k = some p) :
    ∃ v, (loadVar t ⟨p.blk, p.off + o, none⟩).run P w = .ok v w ∧ VRel S μ x v := by
  unfold Heap.load at hl
  cases hb : h.get k with
  | none => simp [hb] at hl
  | some b =>
    simp only [hb] at hl
    split at hl
    case isFalse => cases hl
    rename_i hle
    obtain ⟨vs, hvl, hrel, hcell⟩ := load_cells H hb hp hle
    have hisagg : (isAgg t).run P w = .ok agg w := by
      simp only [isAgg, Sem.run_bind, run_underlying hd, Result.andThen_ok]
      subst hagg
      cases d <;> rfl
    rcases ofCells_rel hl hrel with ⟨rfl, hx⟩ | ⟨rfl, v, rfl, hx⟩
    · refine ⟨_, ?_, hx⟩
      obtain rfl := hn rfl
      have hc := run_loadCells_list (P := P) w ⟨p.blk, p.off + o, none⟩ vs hcell
      rw [hvl] at hc
      simp [loadVar, hisagg, Go.sizeOf, Go.typeInfo, hi, hc]
    · refine ⟨v, ?_, hx⟩
      have := hcell 0 v (by simp)
      rw [show Addr.add ⟨p.blk, p.off + o, none⟩ 0 = ⟨p.blk, p.off + o, none⟩ from by simp [Addr.add]] at this
      simp [loadVar, hisagg, this]
/-! ### Stores -/
theorem storeCells_run {P : Program} {b off lo hi : Nat} {el : TypeId} : ∀ (vs : List Value) (i : Nat) (w : World) (arr : Array Value), w.heap[b]? = some (.cells arr el (lo, hi)) →
    off + i + vs.length ≤ arr.size → (off + i + vs.length ≤ lo ∨ hi ≤ lo) → (∀ v, v ∈ vs → v.oneCell' = true) →
    ∃ w' arr', (storeCells ⟨b, off, none⟩ vs i).run P w = .ok () w' ∧ w'.heap[b]? = some (.cells arr' el (lo, hi)) ∧ arr'.size = arr.size ∧ (∀ j, arr'[j]? = if off + i ≤ j ∧ j < off + i + vs.length then vs[j - (off + i)]? else arr[j]?) ∧
      (∀ k, k ≠ b → w'.heap[k]? = w.heap[k]?) ∧ w'.heap.size = w.heap.size ∧ w'.os = w.os ∧ w'.tape = w.tape ∧ w'.output = w.output := by
  intro vs
  induction vs with
  | nil =>
    intro i w arr hb _ _ _
    refine ⟨w, arr, rfl, hb, rfl, fun j => ?_, fun _ _ => rfl, rfl, rfl, rfl, rfl⟩
    rw [if_neg (by simp)]
  | cons v vs ih =>
    intro i w arr hb hs hf h1
    simp only [List.length_cons] at hs hf
    have hcell : w.cell? ⟨b, off + i, none⟩ = some (arr[off + i]'(by omega)) := by
      simp [World.cell?, hb, Array.getElem?_eq_getElem (show off + i < arr.size by omega)]
    have hfr : w.frozen? ⟨b, off + i, none⟩ = false := by
      simp only [World.frozen?, hb]
      simp
      omega
    have hb' : (w.setCell ⟨b, off + i, none⟩ v).heap[b]? = some (.cells (arr.setIfInBounds (off + i) v) el (lo, hi)) := by
      simp [World.setCell, Array.getElem?_modify, hb]
    obtain ⟨w', arr', g1, g2, g3, g4, g5, g6, g7, g8, g9⟩ := ih (i + 1) (w.setCell ⟨b, off + i, none⟩ v) (arr.setIfInBounds (off + i) v) hb' (by simp; omega) (by omega) (fun u hu => h1 u (by simp [hu]))
    refine ⟨w', arr', ?_, g2, by simpa using g3, fun j => ?_, fun k hk => ?_, by simpa using g6, g7, g8, g9⟩
    · simp only [storeCells, Sem.run_bind, add_off, run_store P w _ v _ (h1 v (by simp)), hcell, hfr]
      simpa using g1
    · rw [g4 j]
      by_cases e : j = off + i
      · subst e
        rw [if_neg (by omega), if_pos (by simp only [List.length_cons]; omega)]
        simp [Array.getElem?_setIfInBounds_self_of_lt (show off + i < arr.size by omega)]
      · rw [Array.getElem?_setIfInBounds_ne (Ne.symm e)]
        by_cases c : off + (i + 1) ≤ j ∧ j < off + (i + 1) + vs.length
        · rw [if_pos c, if_pos (by simp only [List.length_cons]; omega)]
          rw [show j - (off + i) = (j - (off + (i + 1))) + 1 by omega]
          simp
        · rw [if_neg c, if_neg (by simp only [List.length_cons]; omega)]
    · rw [g5 k hk]
      simp only [World.setCell, Array.getElem?_modify]
      rw [if_neg (fun e => hk e.symm)]
theorem splice_get (l : List Val) (o : Nat) (cs : List Val) (h : o + cs.length ≤ l.length) (j : Nat) : (splice l o cs)[j]? = if o ≤ j ∧ j < o + cs.length then cs[j - o]? else l[j]? := by
  unfold splice
  by_cases h1 : j < o
  · rw [if_neg (by omega), List.append_assoc, List.getElem?_append_left (by simp; omega), List.getElem?_take, if_pos h1]
  · by_cases h2 : j < o + cs.length
    · rw [if_pos (by omega), List.getElem?_append_left (by simp; omega), List.getElem?_append_right (by simp; omega)]
      simp [Nat.min_eq_left (show o ≤ l.length by omega)]
    · rw [if_neg (by omega), List.getElem?_append_right (by simp; omega), List.getElem?_drop]
      congr 1
      simp only [List.length_append, List.length_take, Nat.min_eq_left (show o ≤ l.length by omega)]
      omega
theorem splice_length (l : List Val) (o : Nat) (cs : List Val) (h : o + cs.length ≤ l.length) : (splice l o cs).length = l.length := by
  simp [splice]; omega
theorem lt_size {h : Heap} (wf : ∀ k, h.size ≤ k → h.get k = none) {k : Nat} {b : Blk} (hk : h.get k = some b) : k < h.size := by
  rcases Nat.lt_or_ge k h.size with h1 | h1
  · exact h1
  · rw [wf k h1] at hk; cases hk
/-- Cells written into a block of one's own. -/
theorem store_rel {S : Sig} {B : Nat} {μ : Place} {h h' : Heap} {w : World} (H : HRel S B μ h w) {P : Program} {base k o : Nat} {cs : List Val} {vs : List Value} {p : Plc}
    (hs : h.store base k o cs = some h') (hp : μ k = some p) (hv : VRels S μ cs vs) :
    ∃ w', (storeCells ⟨p.blk, p.off + o, none⟩ vs).run P w = .ok () w' ∧ HRel S B μ h' w' ∧ Below B w w' := by
  unfold Heap.store at hs
  cases hb : h.get k with
  | none => simp [hb] at hs
  | some b =>
    simp only [hb] at hs
    split at hs
    case isFalse => cases hs
    rename_i hc
    obtain ⟨hbase, hrw, hle, hone⟩ := hc
    obtain rfl := Option.some.inj hs
    obtain ⟨p', hp', hB⟩ := H.blk k b hb
    obtain rfl : p' = p := Option.some.inj (hp'.symm.trans hp)
    obtain ⟨hBp, hroom, hesz, arr, el, lo, hi, hheap, harr, hfr⟩ := hB.own hrw
    have hlen : vs.length = cs.length := hv.length
    obtain ⟨w', arr', g1, g2, g3, g4, g5, g6, g7, g8, g9⟩ := storeCells_run (P := P) (off := p'.off + o) vs 0 w arr hheap (by omega) (by omega) (by
      intro v hvm
      obtain ⟨i, hi, rfl⟩ := List.mem_iff_getElem.1 hvm
      obtain ⟨v, e1, e2⟩ := hv.get (i := i) (x := cs[i]'(by omega)) (List.getElem?_eq_getElem _)
      rw [List.getElem?_eq_getElem hi] at e1
      have := e2.oneCell (List.all_eq_true.1 hone _ (List.getElem_mem _))
      rw [← Option.some.inj e1] at this
      exact this)
    refine ⟨w', g1, ?_, ⟨g7, g8, g9, by omega, fun i hi => g5 i (by omega)⟩⟩
    have hkl := lt_size H.wf hb
    have other : ∀ j bj pj, j ≠ k → h.get j = some bj → μ j = some pj → BRel S B μ bj pj w → BRel S B μ bj pj w' := by
      intro j bj pj hj hbj hpj hBj
      by_cases hx : bj.rw = true ∨ bj.cells ≠ []
      · have hne := H.sep k j b bj p' pj (Ne.symm hj) hb hbj hrw hx hp hpj
        exact hBj.mono (Ext.refl _) (g5 _ (Ne.symm hne))
      · simp only [not_or, Decidable.not_not] at hx
        refine ⟨fun i c hc => ?_, fun hr => absurd hr hx.1⟩
        rw [hx.2] at hc; simp at hc
    refine ⟨by rw [g6]; exact H.base, fun j hj => ?_, fun j hj => ?_, fun j q hq => by rw [g6]; exact H.old j q hq, fun j bj hbj => ?_, ?_⟩
    · rw [Heap.size_set _ _ _ hkl] at hj
      rw [Heap.get_set, if_neg (by omega)]
      exact H.wf j hj
    · rw [Heap.get_set] at hj
      split at hj
      · cases hj
      · exact H.dom j hj
    · rw [Heap.get_set] at hbj
      split at hbj
      · rename_i e
        subst e
        obtain rfl := Option.some.inj hbj
        refine ⟨p', hp, ⟨fun i c hc => ?_, fun _ => ⟨hBp, by simp [splice_length _ _ _ hle]; exact hroom, hesz, arr', el, lo, hi, g2, by omega, hfr⟩⟩⟩
        simp only at hc
        rw [splice_get _ _ _ hle] at hc
        have hcell : ∀ i, w'.cell? ⟨p'.blk, p'.off + i, none⟩ = arr'[p'.off + i]? := fun i => by simp [World.cell?, g2]
        rw [hcell, g4]
        split at hc
        · rename_i hin
          rw [if_pos (by omega)]
          obtain ⟨v, e1, e2⟩ := hv.get hc
          exact ⟨v, by rw [← e1]; congr 1; omega, e2⟩
        · rename_i hin
          rw [if_neg (by omega)]
          obtain ⟨v, e1, e2⟩ := hB.cells i c hc
          refine ⟨v, ?_, e2⟩
          simpa [World.cell?, hheap] using e1
      · rename_i e
        obtain ⟨q, hq, hBq⟩ := H.blk j bj hbj
        exact ⟨q, hq, other j bj q e hbj hq hBq⟩
    · intro i j bi bj pi pj hij hbi hbj hri hrj hpi hpj
      rw [Heap.get_set] at hbi hbj
      split at hbi
      · rename_i ei
        subst ei
        split at hbj
        · rename_i ej; exact absurd ej.symm hij
        · exact H.sep i j b bj pi pj hij hb hbj hrw hrj hpi hpj
      · rename_i ei
        split at hbj
        · rename_i ej
          subst ej
          exact H.sep i j bi b pi pj hij hbi hb hri (.inl hrw) hpi hpj
        · exact H.sep i j bi bj pi pj hij hbi hbj hri hrj hpi hpj
/-! ### New blocks -/
def Place.at (μ : Place) (k : Nat) (p : Plc) : Place := fun j => if j = k then some p else μ j
theorem Place.ext_at {μ : Place} {k : Nat} (p : Plc) (h : μ k = none) : Ext μ (μ.at k p) := by
  intro j q hq
  unfold Place.at
  split
  · rename_i e; subst e; rw [h] at hq; cases hq
  · exact hq
theorem lay_spec {h h' : Heap} {base : Nat} {slot : Option Nat} {b : Blk} {k : Nat} (hl : h.lay base slot b = some (k, h')) (wf : ∀ k, h.size ≤ k → h.get k = none) :
    h.get k = none ∧ (∀ j, h'.get j = if j = k then some b else h.get j) ∧ (∀ j, h'.size ≤ j → h'.get j = none) := by
  cases slot with
  | none =>
    simp only [Heap.lay, Option.some.injEq, Prod.mk.injEq] at hl
    obtain ⟨rfl, rfl⟩ := hl
    refine ⟨wf _ (Nat.le_refl _), fun j => Heap.get_push h (some b) j, fun j hj => ?_⟩
    simp only [Heap.size_push] at hj
    rw [Heap.get_push, if_neg (by omega)]
    exact wf j (by omega)
  | some s =>
    simp only [Heap.lay] at hl
    split at hl
    case isFalse => cases hl
    rename_i hc
    simp only [Option.some.injEq, Prod.mk.injEq] at hl
    obtain ⟨rfl, rfl⟩ := hl
    refine ⟨by simpa using hc.2.2.2, fun j => Heap.get_set h s j (some b), fun j hj => ?_⟩
    rw [Heap.size_set _ _ _ hc.2.1] at hj
    rw [Heap.get_set, if_neg (by omega)]
    exact wf j hj
/-- A block is laid at a place that no other block of one's own shares. -/
theorem lay_rel {S : Sig} {B : Nat} {μ : Place} {h h' : Heap} {w : World} (H : HRel S B μ h w) {base : Nat} {slot : Option Nat} {b : Blk} {k : Nat} (hl : h.lay base slot b = some (k, h')) {p : Plc} (hlt : p.blk < w.heap.size)
    (hB : BRel S B μ b p w) (hsep : ∀ j bj pj, h.get j = some bj → (bj.rw = true ∨ bj.cells ≠ []) → μ j = some pj → pj.blk ≠ p.blk) :
    HRel S B (μ.at k p) h' w ∧ Ext μ (μ.at k p) := by
  obtain ⟨hk, hget, hwf⟩ := lay_spec hl H.wf
  have hμ := H.dom k hk
  have hE : Ext μ (μ.at k p) := Place.ext_at p hμ
  refine ⟨⟨H.base, hwf, fun j hj => ?_, fun j q hq => ?_, fun j bj hbj => ?_, ?_⟩, hE⟩
  · rw [hget] at hj
    split at hj
    · cases hj
    · rename_i e
      simp only [Place.at, if_neg e]
      exact H.dom j hj
  · simp only [Place.at] at hq
    split at hq
    · obtain rfl := Option.some.inj hq; exact hlt
    · exact H.old j q hq
  · rw [hget] at hbj
    split at hbj
    · rename_i e
      subst e
      obtain rfl := Option.some.inj hbj
      exact ⟨p, by simp [Place.at], hB.mono hE rfl⟩
    · rename_i e
      obtain ⟨q, hq, hBq⟩ := H.blk j bj hbj
      exact ⟨q, hE j q hq, hBq.mono hE rfl⟩
  · intro i j bi bj pi pj hij hbi hbj hri hrj hpi hpj
    rw [hget] at hbi hbj
    simp only [Place.at] at hpi hpj
    split at hbi
    · rename_i ei
      subst ei
      rw [if_pos rfl] at hpi
      obtain rfl := Option.some.inj hpi
      rw [if_neg (Ne.symm hij)] at hbj hpj
      exact (hsep j bj pj hbj hrj hpj).symm
    · rename_i ei
      rw [if_neg ei] at hpi
      split at hbj
      · rename_i ej
        subst ej
        rw [if_pos rfl] at hpj
        obtain rfl := Option.some.inj hpj
        exact hsep i bi pi hbi (.inl hri) hpi
      · rename_i ej
        rw [if_neg ej] at hpj
        exact H.sep i j bi bj pi pj hij hbi hbj hri hrj hpi hpj
/-- A new block of the model's memory. -/
theorem lay_new {S : Sig} {B : Nat} {μ : Place} {h h' : Heap} {w : World} (H : HRel S B μ h w) {base : Nat} {slot : Option Nat} {b : Blk} {k : Nat} (hl : h.lay base slot b = some (k, h')) (hesz : b.rw = true)
    {arr : Array Value} {el : TypeId} {lo hi : Nat} (hlen : b.cells.length ≤ arr.size) (hfr : arr.size ≤ lo ∨ hi ≤ lo) (hv : ∀ (i : Nat) (c : Val), b.cells[i]? = some c → ∃ v, arr[i]? = some v ∧ VRel S μ c v) :
    HRel S B (μ.at k ⟨w.heap.size, 0, arr.size, b.esz⟩) h' (w.alloc (.cells arr el (lo, hi))) ∧ Ext μ (μ.at k ⟨w.heap.size, 0, arr.size, b.esz⟩) := by
  have H1 : HRel S B μ h (w.alloc (.cells arr el (lo, hi))) := H.later (by simp) fun i hi => Below.heap_alloc w _ i hi
  have hnew : (w.alloc (.cells arr el (lo, hi))).heap[w.heap.size]? = some (.cells arr el (lo, hi)) := by
    show (w.heap.push _)[w.heap.size]? = _
    simp
  refine lay_rel H1 hl (by simp) ⟨fun i c hc => ?_, fun _ => ⟨H.base, hlen, rfl, arr, el, lo, hi, hnew, by simp, by simpa using hfr⟩⟩ fun j bj pj hbj _ hpj => Nat.ne_of_lt (H.old j pj hpj)
  obtain ⟨v, h1, h2⟩ := hv i c hc
  refine ⟨v, ?_, h2⟩
  unfold World.cell?
  rw [hnew]
  simpa using h1
end Gc
end
section
/- From the model's code of a function to its text in the small language Gc: a program that is asked by the kernel. -/
set_option linter.unusedVariables false
namespace Gc
open Go
/-- Names that the small language gives to types, functions and methods. -/
structure Inv where
  ty : TypeId → Nat
  fn : FuncId → Nat
  meth : String → Nat
def cVal : Value → Option Val
  | .bool b => some (.bool b)
  | .int k n => some (.int k n)
  | .string s => some (.str s.data.toList)
  | .pointer none => some .nilp
  | .slice none n c => if n = 0 ∧ c = 0 then some .nils else none
  | .nilFunc => some .nilf
  | .nilIface => some .nili
  | _ => none
def cCells : List Value → Option (List Val)
  | [] => some []
  | v :: vs => (cVal v).bind fun x => (cCells vs).map (x :: ·)
def cZero : Value → Option Val
  | .agg cs => (cCells cs.toList).map .agg
  | v => cVal v
def cOpd (S : Sig) (I : Inv) : Operand → Option Opd
  | .tmp t => some (.t t)
  | .const v => (cZero v).map .c
  | .func f => if S.fn (I.fn f) = f then some (.c (.fn (I.fn f) [])) else none
  | .global g => (S.glob g).map fun k => .c (.ptr k 0)
def cOpds (S : Sig) (I : Inv) : List Operand → Option (List Opd)
  | [] => some []
  | x :: xs => (cOpd S I x).bind fun y => (cOpds S I xs).map (y :: ·)
def cOpt (S : Sig) (I : Inv) : Option Operand → Option (Option Opd)
  | none => some none
  | some x => (cOpd S I x).map some
def cParts (S : Sig) (I : Inv) (place : Nat → Option (Nat × Nat)) : List (Nat × Operand) → Option (List (Nat × Nat × Opd))
  | [] => some []
  | (i, x) :: r => (place i).bind fun p => (cOpd S I x).bind fun y => (cParts S I place r).map ((p.1, p.2, y) :: ·)
def fieldPlaces (P : Program) (fs : List Field) : Option (List (Nat × Nat)) := fs.mapM fun f => (P.info? f.type).map fun i => (f.offset, i.size)
/-- The kind of a field that lies in one cell. -/
def ckOf (P : Program) (t : TypeId) : Option CK :=
  match P.underlying t with
  | some (.int _) => some .int
  | some .string => some .str
  | some .bool => some .bool
  | _ => none
/-- A struct whose fields lie one behind the other, each in one cell. -/
def flatFrom (P : Program) : Nat → List Field → Option (List CK)
  | _, [] => some []
  | i, f :: fs => if f.offset = i ∧ (f.name == "_") = false then (ckOf P f.type).bind fun k => (flatFrom P (i + 1) fs).map (k :: ·) else none
def isConst : Operand → Bool
  | .const _ => true
  | _ => false
def bkOf (P : Program) (op : BinOp) (t : TypeId) (y : Operand) : Option BK :=
  match P.underlying t with
  | some (.int _) => some .plain
  | some .string => some .plain
  | some .bool => some .bool
  | some (.struct fs) => if P.stoodInHeld t = false ∧ P.eqGuardType P.depth t = false then (flatFrom P 0 fs.toList).map .agg else none
  | some (.pointer _) => some .ptr
  | some (.slice _) => some .slice
  | some (.func _ _ _) => some .func
  | some (.interface _) => if isConst y = true then some .iface else none
  | _ => none
def notIface : TypeDesc → Bool
  | .interface _ => false
  | _ => true
/-- The zero cells of n elements. -/
def zeros (z : List Val) (n : Nat) : List Val := (List.replicate n z).flatten
def cOp (P : Program) (S : Sig) (I : Inv) (slot : Option Nat) (o : Oper) : Option Op :=
  match o.op with
  | .move x | .assign x => (cOpd S I x).map .mov
  | .pick c a b => (cOpd S I c).bind fun c => (cOpd S I a).bind fun a => (cOpd S I b).map fun b => .pick c a b
  | .alloc t => (P.info? t).bind fun i => i.zero.bind fun z => (cZero z).map fun z => .box slot (.c z)
  | .box _ x => (cOpd S I x).map fun x => .box slot x
  | .build t parts =>
    (P.info? t).bind fun i => i.zero.bind fun z => (cCells z.cells.toList).bind fun zc =>
      match P.underlying t with
      | some (.struct fs) => (fieldPlaces P fs.toList).bind fun pl => (cParts S I (pl.toArray[·]?) parts.toList).map fun ps => .build zc ps
      | some (.array _ e) => (P.info? e).bind fun ie => (cParts S I (fun i => some (i * ie.size, ie.size)) parts.toList).map fun ps => .build zc ps
      | _ => none
  | .buildSlice t n parts =>
    match P.underlying t with
    | some (.slice e) => (P.info? e).bind fun ie => ie.zero.bind fun z => (cCells z.cells.toList).bind fun zc =>
        if n * ie.size ≤ 16777216 ∧ zc.length = ie.size ∧ 0 < ie.size then
          (cParts S I (fun i => some (i * ie.size, ie.size)) parts.toList).map fun ps => .buildSlice slot ie.size (zeros zc n) n ps
        else none
    | _ => none
  | .load t a => (P.underlying t).bind fun d => (P.info? t).bind fun i => (cOpd S I a).map fun a => match slot with
    | none => .load (isAggD d) (if isAggD d then i.size else 1) a
    | some t => .loadVia (isAggD d) (if isAggD d then i.size else 1) a t
  | .store t a x => (P.info? t).bind fun i => (cOpd S I a).bind fun a => (cOpd S I x).map fun x => match slot with
    | none => .store i.size a x
    | some t => .storeApart i.size a x t
  | .nilCheck x => (cOpd S I x).map .nilchk
  | .binOp op t x y _ => (bkOf P op t y).bind fun k => (cOpd S I x).bind fun x => (cOpd S I y).map fun y => .bin k op x y
  | .unOp op _ x => (cOpd S I x).map fun x => .un op x
  | .convert src dst x =>
    match P.underlying src, P.underlying dst with
    | some _, some (.int k) => (cOpd S I x).map fun x => .conv k x
    | some (.slice e), some .string => match P.underlying e with
      | some (.int .u8) => (cOpd S I x).map .toStr
      | _ => none
    | some .string, some (.slice e) => match P.underlying e with
      | some (.int .u8) => (cOpd S I x).map .toBytes
      | _ => none
    | _, _ => none
  | .makeInterface t x => (P.underlying t).bind fun d => if notIface d = true ∧ S.ty (I.ty t) = t then (cOpd S I x).map fun x => .mkIface (I.ty t) x else none
  | .makeFunc (.func f) first captured => if S.fn (I.fn f) = f ∧ first.size = 0 then (cOpds S I captured.toList).map fun cs => .mkFn (I.fn f) cs else none
  | .makeSlice t l c =>
    match P.underlying t with
    | some (.slice e) => (P.info? e).bind fun ie => ie.zero.bind fun z => (cCells z.cells.toList).bind fun zc =>
        if zc.length = ie.size ∧ 0 < ie.size then (cOpd S I l).bind fun l => (cOpd S I c).map fun c => .makeSlice zc ie.bytes l c else none
    | _ => none
  | .slice t x lo hi mx =>
    match P.underlying t with
    | some (.slice e) => (P.info? e).bind fun ie => (cOpd S I x).bind fun x => (cOpt S I lo).bind fun lo => (cOpt S I hi).bind fun hi => (cOpt S I mx).map fun mx => .slc ie.size x lo hi mx
    | some .string => if mx.isSome then none else (cOpd S I x).bind fun x => (cOpt S I lo).bind fun lo => (cOpt S I hi).map fun hi => .strSlc x lo hi
    | _ => none
  | .fieldAddr t x f =>
    match P.underlying t with
    | some (.struct fs) => (fs[f]?).bind fun fd => (P.info? fd.type).bind fun i => if i.size = 0 then none else (cOpd S I x).map fun x => .fieldAddr fd.offset x
    | _ => none
  | .field t x f =>
    match P.underlying t with
    | some (.struct fs) => (fs[f]?).bind fun fd => (P.info? fd.type).bind fun i => (P.underlying fd.type).bind fun d => (cOpd S I x).map fun x => .field (isAggD d) fd.offset (if isAggD d then i.size else 1) x
    | _ => none
  | .indexAddr t x i =>
    match P.underlying t with
    | some (.slice e) => (P.info? e).bind fun ie => (cOpd S I x).bind fun x => (cOpd S I i).map fun i => .indexAddr ie.size x i
    | some (.array n e) => (P.info? e).bind fun ie => (cOpd S I x).bind fun x => (cOpd S I i).map fun i => .indexArrAddr n ie.size x i
    | _ => none
  | .index t x i =>
    match P.underlying t with
    | some (.array n e) => (P.info? e).bind fun ie => (P.underlying e).bind fun d => if isAggD d = true ∨ ie.size = 1 then (cOpd S I x).bind fun x => (cOpd S I i).map fun i => .index (isAggD d) n ie.size x i else none
    | some .string => (cOpd S I x).bind fun x => (cOpd S I i).map fun i => .strIndex x i
    | _ => none
  | .typeAssert x _ t ok => (P.underlying t).bind fun d => (P.info? t).bind fun i => i.zero.bind fun z => (cZero z).bind fun z =>
      if notIface d = true ∧ S.ty (I.ty t) = t then (cOpd S I x).map fun x => .assert (I.ty t) z x ok else none
  | .extract x i => (cOpd S I x).map fun x => .extract x i
  | .call c =>
    match c.callee with
    | .builtin .len =>
      match c.args.toList, c.argTypes[0]? with
      | [x], some t => match P.underlying t with
        | some (.slice _) => (cOpd S I x).map (.len false)
        | some .string => (cOpd S I x).map (.len true)
        | _ => none
      | _, _ => none
    | .builtin .append =>
      match c.args.toList, c.argTypes[0]?, c.argTypes[1]? with
      | [s, x], some t, some u => match P.underlying t, P.underlying u with
        | some (.slice e), some d => (P.info? e).bind fun ie => (match d with | .slice _ => some () | .string => if ie.size = 1 ∧ (P.underlying e matches some (.int .u8)) then some () else none | _ => none).bind fun _ =>
            (ie.zero).bind fun z => if z.cells.size ≠ ie.size then none else (cOpd S I s).bind fun s => (cOpd S I x).map fun x => .append slot ie.size ie.bytes s x
        | _, _ => none
      | _, _, _ => none
    | .builtin .clear =>
      match c.args.toList, c.argTypes[0]? with
      | [x], some t => match P.underlying t with
        | some (.slice e) => (P.info? e).bind fun ie => ie.zero.bind fun z => (cCells z.cells.toList).bind fun zc => if zc.isEmpty = true then none else (cOpd S I x).map fun x => .clear zc x
        | _ => none
      | _, _ => none
    | .builtin .min => (cOpds S I c.args.toList).map fun xs => .minmax false xs
    | .builtin .max => (cOpds S I c.args.toList).map fun xs => .minmax true xs
    | _ => none
  | _ => none
/-! ### What it is worth -/
theorem cVal_rel {S : Sig} {μ : Place} {v : Value} {x : Val} (h : cVal v = some x) : VRel S μ x v := by
  cases v <;> simp only [cVal] at h <;> first
    | (obtain rfl := Option.some.inj h; simp [VRel]; done)
    | cases h
    | skip
  · rename_i a
    cases a with
    | none => obtain rfl := Option.some.inj h; simp [VRel]
    | some a => cases h
  · rename_i a n c
    cases a with
    | none =>
      simp only [cVal] at h
      split at h
      · rename_i e; obtain rfl := Option.some.inj h; simp [VRel, e.1, e.2]
      · cases h
    | some a => cases h
theorem cCells_rel {S : Sig} {μ : Place} : ∀ {vs : List Value} {xs : List Val}, cCells vs = some xs → VRels S μ xs vs
  | [], xs, h => by simp [cCells] at h; subst h; simp [VRels]
  | v :: vs, xs, h => by
    simp only [cCells, Option.bind_eq_some_iff, Option.map_eq_some_iff] at h
    obtain ⟨x, hx, ys, hy, rfl⟩ := h
    simp only [VRels]
    exact ⟨v, vs, rfl, cVal_rel hx, cCells_rel hy⟩
theorem cZero_rel {S : Sig} {μ : Place} {v : Value} {x : Val} (h : cZero v = some x) : VRel S μ x v := by
  cases v <;> first
    | exact cVal_rel h
    | skip
  rename_i cs
  simp only [cZero, Option.map_eq_some_iff] at h
  obtain ⟨xs, hx, rfl⟩ := h
  simp only [VRel]
  exact ⟨cs, rfl, cCells_rel hx⟩
theorem cOpd_rel {S : Sig} {I : Inv} {μ : Place} {N : Nat} {fr : Frame} {a : Act} (F : FRel S μ N fr a.tmps) {x : Operand} {y : Opd} (h : cOpd S I x = some y) : VRel S μ (y.ev fr) (a.eval x) := by
  cases x with
  | tmp t => simp [cOpd] at h; subst h; exact F.get t
  | const v =>
    simp only [cOpd, Option.map_eq_some_iff] at h
    obtain ⟨z, hz, rfl⟩ := h
    exact cZero_rel hz
  | func f =>
    simp only [cOpd] at h
    split at h
    · rename_i e
      obtain rfl := Option.some.inj h
      simp only [Opd.ev, VRel, Act.eval, e]
      exact ⟨#[], rfl, by simp [VRels]⟩
    · cases h
  | global g =>
    simp only [cOpd, Option.map_eq_some_iff] at h
    obtain ⟨k, hk, rfl⟩ := h
    obtain ⟨p, hp, rfl, h0⟩ := S.globOk g k hk
    simp only [Opd.ev, VRel, Act.eval]
    exact ⟨p, F.ext k p hp, by rw [h0]⟩
theorem cOpds_rel {S : Sig} {I : Inv} {μ : Place} {N : Nat} {fr : Frame} {a : Act} (F : FRel S μ N fr a.tmps) : ∀ {xs : List Operand} {ys : List Opd}, cOpds S I xs = some ys → VRels S μ (ys.map (·.ev fr)) (xs.map a.eval)
  | [], ys, h => by simp [cOpds] at h; subst h; simp [VRels]
  | x :: xs, ys, h => by
    simp only [cOpds, Option.bind_eq_some_iff, Option.map_eq_some_iff] at h
    obtain ⟨y, hy, zs, hz, rfl⟩ := h
    simp only [List.map_cons, VRels]
    exact ⟨_, _, rfl, cOpd_rel F hy, cOpds_rel F hz⟩
end Gc
end
section
/- Each operation of the small language Gc comes to what the model's operation does: operations that leave memory alone. -/
set_option linter.unusedVariables false
namespace Gc
open Go Go.RowKit
/-- The model's run gives what Gc gives, in a world that stands to Gc's heap as the one before did. -/
def Good (S : Sig) (B : Nat) (μ : Place) (r : Result Next) (x : Val) (h' : Heap) (w : World) : Prop :=
  ∃ μ' w', ((∃ v, r = .ok (.value v) w' ∧ VRel S μ' x v) ∨ (r = .ok .skip w' ∧ x = .undef)) ∧ Ext μ μ' ∧ HRel S B μ' h' w' ∧ Below B w w'
variable {P : Program} {S : Sig} {I : Inv} {B N : Nat} {μ : Place} {h h' : Heap} {w : World} {fr : Frame} {a : Act} {x : Val}
theorem Good.pure {v : Value} {r : Result Next} (hr : r = .ok (.value v) w) (H : HRel S B μ h w) (hv : VRel S μ x v) : Good S B μ r x h w :=
  ⟨μ, w, .inl ⟨v, hr, hv⟩, Ext.refl _, H, Below.refl _ _⟩
theorem VRel.of_bool {b : Bool} {v : Value} (h : VRel S μ (.bool b) v) : v = .bool b := by simpa [VRel] using h
theorem VRel.of_int {k : IntKind} {n : Int} {v : Value} (h : VRel S μ (.int k n) v) : v = .int k n := by simpa [VRel] using h
theorem VRel.of_str {s : List UInt8} {v : Value} (h : VRel S μ (.str s) v) : v = .string ⟨s.toArray⟩ := by simpa [VRel] using h
/-! ### Comparisons and arithmetic -/
theorem mk_beq (x y : List UInt8) : ((⟨x.toArray⟩ : ByteArray).toList == (⟨y.toArray⟩ : ByteArray).toList) = (x == y) := by
  rw [Lib.toList_data, Lib.toList_data]
theorem less_eq (x y : List UInt8) : Op.bytesLess x y = bytesLess x y := by
  induction x generalizing y with
  | nil => cases y <;> rfl
  | cons a x ih => cases y with
    | nil => rfl
    | cons b y => simp [Op.bytesLess, bytesLess, ih]
theorem strOp_run {op : BinOp} {s t : List UInt8} (h : strOp op s t = some x) : ∃ v, (Op.stringOp op ⟨s.toArray⟩ ⟨t.toArray⟩).run P w = .ok v w ∧ VRel S μ x v := by
  have h1 : (⟨s.toArray⟩ : ByteArray).toList = s := by rw [Lib.toList_data]
  have h2 : (⟨t.toArray⟩ : ByteArray).toList = t := by rw [Lib.toList_data]
  cases op <;> simp only [strOp] at h <;> first
    | cases h
    | skip
  · split at h
    · rename_i hl
      obtain rfl := Option.some.inj h
      refine ⟨.string ⟨(s ++ t).toArray⟩, ?_, by simp [VRel]⟩
      have hz : (⟨s.toArray⟩ : ByteArray).size + (⟨t.toArray⟩ : ByteArray).size ≤ 9223372036854775807 := by
        simp only [ByteArray.size, List.size_toArray]
        unfold maxRoom at hl
        omega
      rw [run_string_add_sum w _ _ hz, ByteArray.mk_append_mk]
    · cases h
  all_goals
    simp only [Op.stringOp, h1, h2, less_eq, Sem.run_pure]
    exact ⟨_, rfl, by simp [VRel]⟩
theorem intOp_run {op : BinOp} {k : IntKind} {p q : Int} {t : TypeId} (h : intOp op k p q = some x) : ∃ v, (Go.binOp op t (.int k p) (.int k q)).run P w = .ok v w ∧ VRel S μ x v := by
  cases op <;> simp only [intOp, cmpInt, Option.map_some, bitsOp] at h <;> first
    | cases h
    | skip
  all_goals first
    | (split at h
       · cases h
       · rename_i hq
         obtain rfl := Option.some.inj h
         simp only [Go.binOp, Op.intDiv, ne_eq, not_true_eq_false, if_false, hq, Sem.run_pure]
         exact ⟨_, rfl, by simp [VRel]⟩)
    | (simp only [Go.binOp, Op.intArith, Op.intBits, Op.intCmp, ne_eq, not_true_eq_false, if_false, Sem.run_pure]
       exact ⟨_, rfl, by simp [VRel]⟩)
theorem shiftOp_run {op : BinOp} {k k' : IntKind} {p q : Int} {t : TypeId} (h : shiftOp op k p q = some x) : ∃ v, (Go.binOp op t (.int k p) (.int k' q)).run P w = .ok v w ∧ VRel S μ x v := by
  unfold shiftOp at h
  split at h
  · cases h
  · rename_i hq
    cases op <;> simp only at h <;> (first | cases h | skip)
    all_goals
      simp only [Go.binOp, Op.shift, hq, if_false, Sem.run_pure]
      exact ⟨_, rfl, by simp [VRel]⟩
theorem eqCell_run {k : CK} {p q : Val} {b : Bool} {v u : Value} {d : Nat} {t : TypeId} (hk : ckOf P t = some k) (h : eqCell k p q = some b) (hv : VRel S μ p v) (hu : VRel S μ q u) :
    (Op.equalIn (d + 1) t v u).run P w = .ok b w := by
  unfold ckOf at hk
  cases k <;> cases p <;> simp only [eqCell] at h <;> first
    | cases h
    | skip
  all_goals cases q <;> simp only [eqCell] at h <;> first
    | cases h
    | skip
  all_goals
    simp only [VRel] at hv hu
    subst hv hu
  · split at h
    · rename_i e
      subst e
      cases h
      cases hd : P.underlying t with
      | none => simp [hd] at hk
      | some d' =>
        rw [hd] at hk
        cases d' <;> simp at hk
        exact run_equalIn_int w d t _ _ _ _ hd
    · cases h
  · cases hd : P.underlying t with
    | none => simp [hd] at hk
    | some d' =>
      rw [hd] at hk
      cases d' <;> simp at hk
      rw [run_equalIn_string w d t _ _ hd, mk_beq]
  · cases hd : P.underlying t with
    | none => simp [hd] at hk
    | some d' =>
      rw [hd] at hk
      cases d' <;> simp at hk
      exact run_equalIn_bool w d t _ _ hd
theorem part_cell {t : TypeId} {k : CK} {cs : Array Value} {i : Nat} {v : Value} (hk : ckOf P t = some k) (h : cs[i]? = some v) : (Go.part t cs i).run P w = .ok v w := by
  unfold ckOf at hk
  have hisagg : (isAgg t).run P w = .ok false w := by
    cases hd : P.underlying t with
    | none => simp [hd] at hk
    | some d => rw [hd] at hk; cases d <;> simp at hk <;> simp [isAgg, run_underlying hd]
  simp [Go.part, hisagg, h]
theorem eqCells_run {d : Nat} : ∀ {i : Nat} {fs : List Field} {ks : List CK} {xs ys : List Val} {vs us : Array Value} {b : Bool}, flatFrom P i fs = some ks → eqCells ks xs ys = some b →
    VRels S μ xs (vs.toList.drop i) → VRels S μ ys (us.toList.drop i) → (Op.eqFields (d + 1) vs us fs).run P w = .ok b w
  | i, [], ks, xs, ys, vs, us, b, hf, he, hx, hy => by
    simp [flatFrom] at hf
    subst hf
    cases xs <;> cases ys <;> simp [eqCells] at he
    subst he
    simp [Op.eqFields]
  | i, f :: fs, ks, xs, ys, vs, us, b, hf, he, hx, hy => by
    simp only [flatFrom] at hf
    split at hf
    case isFalse => cases hf
    rename_i hc
    simp only [Option.bind_eq_some_iff, Option.map_eq_some_iff] at hf
    obtain ⟨k, hk, ks', hks, rfl⟩ := hf
    cases xs with
    | nil => simp [eqCells] at he
    | cons x xs =>
      cases ys with
      | nil => simp [eqCells] at he
      | cons y ys =>
        simp only [VRels] at hx hy
        obtain ⟨v, vl, hv, hxv, hxr⟩ := hx
        obtain ⟨u, ul, hu, hyu, hyr⟩ := hy
        have gv : vs[i]? = some v := by
          have := congrArg (·[0]?) hv
          simpa using this
        have gu : us[i]? = some u := by
          have := congrArg (·[0]?) hu
          simpa using this
        have gvl : vs.toList.drop (i + 1) = vl := by
          have := congrArg (List.drop 1) hv
          simpa [List.drop_drop, Nat.add_comm] using this
        have gul : us.toList.drop (i + 1) = ul := by
          have := congrArg (List.drop 1) hu
          simpa [List.drop_drop, Nat.add_comm] using this
        have hn : ¬ f.name = "_" := by simpa using hc.2
        simp only [eqCells] at he
        cases hr : eqCell k x y with
        | none => simp [hr] at he
        | some r =>
          have h1 := eqCell_run (P := P) (w := w) (d := d) hk hr hxv hyu
          have p1 := part_cell (P := P) (w := w) hk gv
          have p2 := part_cell (P := P) (w := w) hk gu
          rw [hr] at he
          have hoff : f.offset = i := hc.1
          simp only [Op.eqFields, ne_eq, hn, not_false_eq_true, if_true, Sem.run_bind, hoff, p1, p2, h1, Result.andThen_ok]
          cases r with
          | true =>
            simp only [Bool.not_true, Bool.false_eq_true, if_false]
            exact eqCells_run hks he (by rw [gvl]; exact hxr) (by rw [gul]; exact hyr)
          | false =>
            simp only [Bool.not_false, if_true, Sem.run_pure]
            simp only at he
            split at he
            · exact congrArg (Result.ok · w) (Option.some.inj he)
            · cases he
theorem nilEq_run {k : BK} {p q : Val} {b : Bool} {v u : Value} {op : BinOp} {t : TypeId} {yo : Operand} (hk : bkOf P op t yo = some k) (hk' : k ≠ .plain) (hk2 : k ≠ .bool) (hq : isNil k q = some true) (hp : isNil k p = some b) (hv : VRel S μ p v) (hu : VRel S μ q u) :
    (Op.equal t v u).run P w = .ok b w := by
  suffices key : ∀ d, (Op.equalIn (d + 1) t v u).run P w = .ok b w from key 9999
  intro dd
  unfold bkOf at hk
  cases hd : P.underlying t with
  | none => simp [hd] at hk
  | some d =>
    rw [hd] at hk
    have key : k = .ptr ∨ k = .slice ∨ k = .func ∨ k = .iface := by
      cases k <;> simp_all [isNil]
    cases d <;> simp only [reduceCtorEq, Option.some.injEq, Option.ite_none_right_eq_some, Option.map_eq_some_iff] at hk <;> first
      | (exfalso; rcases key with rfl | rfl | rfl | rfl <;> simp_all; done)
      | skip
    · subst hk
      cases q <;> simp [isNil] at hq
      simp only [VRel] at hu
      subst hu
      cases p <;> simp only [isNil, Option.some.injEq, reduceCtorEq] at hp <;> simp only [VRel] at hv
      · subst hp hv; simp [Op.equalIn, run_underlying hd]
      · obtain ⟨pl, _, rfl⟩ := hv
        subst hp; simp [Op.equalIn, run_underlying hd]
    · subst hk
      cases q <;> simp [isNil] at hq
      simp only [VRel] at hu
      subst hu
      cases p <;> simp only [isNil, Option.some.injEq, reduceCtorEq] at hp
      · simp only [VRel] at hv
        subst hp hv; simp [Op.equalIn, run_underlying hd]
      · rename_i bb o n c
        cases c <;> simp only [VRel] at hv
        · obtain ⟨pl, ad, c, _, rfl, _⟩ := hv
          subst hp; simp [Op.equalIn, run_underlying hd]
        · obtain ⟨pl, ad, _, rfl, _⟩ := hv
          subst hp; simp [Op.equalIn, run_underlying hd]
    · subst hk
      cases q <;> simp [isNil] at hq
      simp only [VRel] at hu
      subst hu
      cases p <;> simp only [isNil, Option.some.injEq, reduceCtorEq] at hp <;> simp only [VRel] at hv
      · obtain ⟨cs, rfl, _⟩ := hv
        subst hp; simp [Op.equalIn, run_underlying hd]
      · subst hp hv; simp [Op.equalIn, run_underlying hd]
    · obtain ⟨_, rfl⟩ := hk
      cases q <;> simp [isNil] at hq
      simp only [VRel] at hu
      subst hu
      cases p <;> simp only [isNil, Option.some.injEq, reduceCtorEq] at hp <;> simp only [VRel] at hv
      · obtain ⟨cs, rfl, _⟩ := hv
        subst hp; simp [Op.equalIn, run_underlying hd]
      · subst hp hv; simp [Op.equalIn, run_underlying hd]
end Gc
end
section
/- Each operation of the small language Gc comes to what the model's operation does: arithmetic, tests, conversions and parts of values. -/
set_option linter.unusedVariables false
namespace Gc
open Go Go.RowKit
variable {P : Program} {S : Sig} {I : Inv} {B N : Nat} {μ : Place} {h h' : Heap} {w : World} {fr : Frame} {a : Act} {x : Val}
theorem eqGuard_run {op : BinOp} {t : TypeId} {xo yo : Operand} {v u : Value} (h1 : ∀ cs, v ≠ .agg cs) (h2 : v = .nilIface → u ≠ .nilIface ∨ isConst yo = true) : eqGuard op t xo yo v u = Pure.pure () := by
  cases v <;> first
    | (exact absurd rfl (h1 _))
    | skip
  all_goals first
    | (cases op <;> rfl)
    | skip
  all_goals
    cases u <;> first
      | (cases op <;> rfl)
      | skip
    all_goals
      have hc : isConst yo = true := by
        rcases h2 rfl with h | h
        · exact absurd rfl h
        · exact h
      cases yo <;> simp [isConst] at hc
      cases op <;> cases xo <;> rfl
theorem binOp_run {k : BK} {op : BinOp} {t : TypeId} {xo yo : Operand} {p q : Val} {v u : Value} (hk : bkOf P op t yo = some k) (hx : binOp k op p q = some x) (hv : VRel S μ p v) (hu : VRel S μ q u) :
    ∃ r, (do eqGuard op t xo yo v u; Go.binOp op t v u).run P w = .ok r w ∧ VRel S μ x r := by
  have nilCase : ∀ b, (k = .ptr ∨ k = .slice ∨ k = .func ∨ k = .iface) → isNil k q = some true → isNil k p = some b → (op = .eql ∧ x = .bool b ∨ op = .neq ∧ x = .bool (!b)) →
      ∃ r, (do eqGuard op t xo yo v u; Go.binOp op t v u).run P w = .ok r w ∧ VRel S μ x r := by
    intro b key hq hp hop
    have he := nilEq_run (w := w) hk (by rcases key with rfl | rfl | rfl | rfl <;> simp) (by rcases key with rfl | rfl | rfl | rfl <;> simp) hq hp hv hu (op := op)
    have hg : eqGuard op t xo yo v u = Pure.pure () := by
      refine eqGuard_run (fun cs e => ?_) fun e => ?_
      · subst e
        cases p <;> simp only [isNil] at hp <;> rcases key with rfl | rfl | rfl | rfl <;> simp [isNil] at hp <;> first
          | (simp [VRel] at hv; done)
          | (rename_i c; cases c <;> simp [VRel] at hv)
      · rcases key with rfl | rfl | rfl | rfl
        · subst e; cases p <;> simp [isNil] at hp <;> simp [VRel] at hv
        · subst e
          cases p <;> simp [isNil] at hp
          · simp [VRel] at hv
          · rename_i c; cases c <;> simp [VRel] at hv
        · subst e; cases p <;> simp [isNil] at hp <;> simp [VRel] at hv
        · refine .inr ?_
          unfold bkOf at hk
          cases hd : P.underlying t with
          | none => simp [hd] at hk
          | some d =>
            rw [hd] at hk
            cases d <;> simp at hk
            exact hk
    have hb : (Go.binOp op t v u).run P w = .ok (if op = .eql then .bool b else .bool (!b)) w := by
      rcases hop with ⟨rfl, _⟩ | ⟨rfl, _⟩
      · cases p <;> simp only [isNil] at hp <;> rcases key with rfl | rfl | rfl | rfl <;> simp [isNil] at hp <;> first
          | (simp only [VRel] at hv; subst hv; cases q <;> simp [isNil] at hq <;> (simp only [VRel] at hu; subst hu; simp [Go.binOp, he]); done)
          | (simp only [VRel] at hv; obtain ⟨pl, _, rfl⟩ := hv; cases q <;> simp [isNil] at hq <;> (simp only [VRel] at hu; subst hu; simp [Go.binOp, he]); done)
          | (simp only [VRel] at hv; obtain ⟨pl, rfl, _⟩ := hv; cases q <;> simp [isNil] at hq <;> (simp only [VRel] at hu; subst hu; simp [Go.binOp, he]); done)
          | (rename_i c; cases c <;> simp only [VRel] at hv <;> first
              | (obtain ⟨pl, ad, _, rfl, _⟩ := hv; cases q <;> simp [isNil] at hq <;> (simp only [VRel] at hu; subst hu; simp [Go.binOp, he]); done)
              | (obtain ⟨pl, ad, c, _, rfl, _⟩ := hv; cases q <;> simp [isNil] at hq <;> (simp only [VRel] at hu; subst hu; simp [Go.binOp, he]); done))
      · cases p <;> simp only [isNil] at hp <;> rcases key with rfl | rfl | rfl | rfl <;> simp [isNil] at hp <;> first
          | (simp only [VRel] at hv; subst hv; cases q <;> simp [isNil] at hq <;> (simp only [VRel] at hu; subst hu; simp [Go.binOp, he]); done)
          | (simp only [VRel] at hv; obtain ⟨pl, _, rfl⟩ := hv; cases q <;> simp [isNil] at hq <;> (simp only [VRel] at hu; subst hu; simp [Go.binOp, he]); done)
          | (simp only [VRel] at hv; obtain ⟨pl, rfl, _⟩ := hv; cases q <;> simp [isNil] at hq <;> (simp only [VRel] at hu; subst hu; simp [Go.binOp, he]); done)
          | (rename_i c; cases c <;> simp only [VRel] at hv <;> first
              | (obtain ⟨pl, ad, _, rfl, _⟩ := hv; cases q <;> simp [isNil] at hq <;> (simp only [VRel] at hu; subst hu; simp [Go.binOp, he]); done)
              | (obtain ⟨pl, ad, c, _, rfl, _⟩ := hv; cases q <;> simp [isNil] at hq <;> (simp only [VRel] at hu; subst hu; simp [Go.binOp, he]); done))
    simp only [hg, Sem.run_bind, Sem.run_pure, Result.andThen_ok, hb]
    refine ⟨_, rfl, ?_⟩
    rcases hop with ⟨rfl, rfl⟩ | ⟨rfl, rfl⟩ <;> simp [VRel]
  have nilAll : (k = .ptr ∨ k = .slice ∨ k = .func ∨ k = .iface) → ∃ r, (do eqGuard op t xo yo v u; Go.binOp op t v u).run P w = .ok r w ∧ VRel S μ x r := by
    intro key
    have hx' : nilOp op (isNil k p) (isNil k q) = some x := by rcases key with rfl | rfl | rfl | rfl <;> simpa only [binOp] using hx
    unfold nilOp at hx'
    cases hq : isNil k q with
    | none => simp [hq] at hx'
    | some bq =>
      cases bq with
      | false => simp [hq] at hx'
      | true =>
        cases hp : isNil k p with
        | none => cases op <;> simp [hq, hp] at hx'
        | some b =>
          cases op <;> simp [hq, hp] at hx'
          · exact nilCase b key hq hp (.inl ⟨rfl, hx'.symm⟩)
          · exact nilCase b key hq hp (.inr ⟨rfl, hx'.symm⟩)
  cases k with
  | ptr => exact nilAll (by simp)
  | slice => exact nilAll (by simp)
  | func => exact nilAll (by simp)
  | iface => exact nilAll (by simp)
  | plain =>
    cases p <;> simp only [binOp] at hx <;> first
      | cases hx
      | skip
    · cases q <;> simp only at hx <;> first
        | cases hx
        | skip
      rename_i k1 n1 k2 n2
      obtain rfl := hv.of_int
      obtain rfl := hu.of_int
      rw [eqGuard_run (by simp) (by simp)]
      simp only [Sem.run_bind, Sem.run_pure, Result.andThen_ok]
      cases op <;> simp only at hx <;> first
        | exact shiftOp_run hx
        | (split at hx
           · rename_i e; subst e; exact intOp_run hx
           · cases hx)
    · cases q <;> simp only at hx <;> first
        | cases hx
        | skip
      obtain rfl := hv.of_str
      obtain rfl := hu.of_str
      rw [eqGuard_run (by simp) (by simp)]
      simp only [Sem.run_bind, Sem.run_pure, Result.andThen_ok]
      obtain ⟨r, h1, h2⟩ := strOp_run (P := P) (S := S) (μ := μ) (w := w) hx
      refine ⟨r, ?_, h2⟩
      rw [← h1]
      cases op <;> rfl
  | bool =>
    cases p <;> simp only [binOp] at hx <;> first
      | cases hx
      | skip
    cases q <;> simp only at hx <;> first
      | cases hx
      | skip
    obtain rfl := hv.of_bool
    obtain rfl := hu.of_bool
    rw [eqGuard_run (by simp) (by simp)]
    simp only [Sem.run_bind, Sem.run_pure, Result.andThen_ok]
    have hd : P.underlying t = some .bool := by
      unfold bkOf at hk
      cases hd : P.underlying t with
      | none => simp [hd] at hk
      | some d => rw [hd] at hk; cases d <;> simp at hk <;> rfl
    cases op <;> simp only at hx <;> first
      | cases hx
      | skip
    · exact ⟨_, run_eql_bool w t _ _ hd, by simp [VRel]⟩
    · exact ⟨_, run_neq_bool w t _ _ hd, by simp [VRel]⟩
  | agg ks =>
    cases p <;> simp only [binOp] at hx <;> first
      | cases hx
      | skip
    cases q <;> simp only at hx <;> first
      | cases hx
      | skip
    rename_i xs ys
    simp only [VRel] at hv hu
    obtain ⟨vs, rfl, hvs⟩ := hv
    obtain ⟨us, rfl, hus⟩ := hu
    unfold bkOf at hk
    cases hd : P.underlying t with
    | none => simp [hd] at hk
    | some d =>
      rw [hd] at hk
      cases d <;> simp only [reduceCtorEq, Option.some.injEq, Option.ite_none_right_eq_some, Option.map_eq_some_iff] at hk <;> first
        | (exfalso; simp_all; done)
        | skip
      rename_i fs
      obtain ⟨⟨h1, h2⟩, ks', hks, hk3⟩ := hk
      obtain rfl : ks' = ks := by simpa using hk3
      have hfo : P.fieldsOf t = fs := by simp [Program.fieldsOf, hd]
      have hcell : ∀ b, eqCells ks' xs ys = some b → (Op.equalIn (9999 + 1) t (.agg vs) (.agg us)).run P w = .ok b w := by
        intro b hb
        rw [run_equalIn_struct w 9999 t vs us (by rw [hfo]; exact hd) h1, hfo]
        exact eqCells_run (d := 9998) hks hb (by simpa using hvs) (by simpa using hus)
      simp only [Sem.run_bind, run_eqGuard_agg w op t xo yo vs us h2, Result.andThen_ok]
      cases hb : eqCells ks' xs ys with
      | none => cases op <;> simp [hb] at hx
      | some b =>
        cases op <;> simp [hb] at hx
        · subst hx
          exact ⟨.bool b, by rw [run_eql_struct, hcell b hb]; rfl, by simp [VRel]⟩
        · subst hx
          exact ⟨.bool (!b), by rw [run_neq_struct, hcell b hb]; rfl, by simp [VRel]⟩
end Gc
end
section
/- Each operation of the small language Gc comes to what the model's operation does: new blocks, structs, slices. -/
set_option linter.unusedVariables false
namespace Gc
open Go Go.RowKit
variable {P : Program} {S : Sig} {I : Inv} {B N : Nat} {μ : Place} {h h' : Heap} {w : World} {fr : Frame} {a : Act} {x : Val}
theorem arr_get {xs : List Val} {vs : Array Value} (hv : VRels S μ xs vs.toList) (i : Nat) (c : Val) (hc : xs[i]? = some c) : ∃ v, vs[i]? = some v ∧ VRel S μ c v := by
  obtain ⟨v, h1, h2⟩ := hv.get hc
  exact ⟨v, by simpa using h1, h2⟩
/-- A new block of the call's own, whatever world it is laid in. -/
theorem new_good {w1 : World} {base e : Nat} {slot : Option Nat} {cs : List Val} {k : Nat} {arr : Array Value} {el : TypeId} {lo hi : Nat} {r : Result Next} {v : Value} (H : HRel S B μ h w1) (hl : h.lay base slot ⟨cs, true, e⟩ = some (k, h'))
    (hlen : cs.length ≤ arr.size) (hfr : arr.size ≤ lo ∨ hi ≤ lo) (hv : ∀ (i : Nat) (c : Val), cs[i]? = some c → ∃ v, arr[i]? = some v ∧ VRel S μ c v)
    (hw : Below B w w1) (hr : r = .ok (.value v) (w1.alloc (.cells arr el (lo, hi)))) (hx : VRel S (μ.at k ⟨w1.heap.size, 0, arr.size, e⟩) x v) : Good S B μ r x h' w := by
  obtain ⟨H', E⟩ := lay_new H hl rfl hlen hfr hv (el := el)
  exact ⟨_, _, .inl ⟨v, hr, hx⟩, E, H', hw.alloc H.base _⟩
theorem box_good {base : Nat} {slot : Option Nat} {p : Val} {v : Value} {el : TypeId} {r : Result Next} (H : HRel S B μ h w) (hv : VRel S μ p v)
    (he : (if p.cells.all Val.one = true then (h.lay base slot ⟨p.cells, true, 0⟩).map fun r => (Val.ptr r.1 0, r.2) else none) = some (x, h'))
    (hr : r = .ok (.value (.pointer (some ⟨w.heap.size, 0, none⟩))) (w.alloc (.cells v.cells el))) : Good S B μ r x h' w := by
  split at he
  case isFalse => cases he
  rename_i hone
  simp only [Option.map_eq_some_iff, Prod.mk.injEq] at he
  obtain ⟨⟨k, h2⟩, hl, rfl, rfl⟩ := he
  have hc := hv.cells hone
  refine new_good (v := .pointer (some ⟨w.heap.size, 0, none⟩)) (arr := v.cells) H hl (by have := hc.length; simp at this; simp [this]) (.inr (Nat.le_refl 0)) (arr_get hc) (Below.refl _ _) hr ?_
  simp [VRel, Place.at]
/-! ### Parts put in their places -/
theorem foldl_place (off : Nat) : ∀ (l : List Value) (k : Nat) (cells : Array Value),
    ((l.zipIdx k).foldl (fun cs (p : Value × Nat) => cs.setIfInBounds (off + p.2) p.1) cells).size = cells.size ∧
    ∀ j, off + k + l.length ≤ cells.size → ((l.zipIdx k).foldl (fun cs (p : Value × Nat) => cs.setIfInBounds (off + p.2) p.1) cells)[j]? = if off + k ≤ j ∧ j < off + k + l.length then l[j - (off + k)]? else cells[j]?
  | [], k, cells => by
    refine ⟨rfl, fun j _ => ?_⟩
    rw [if_neg (by simp)]
    rfl
  | v :: l, k, cells => by
    obtain ⟨h1, h2⟩ := foldl_place off l (k + 1) (cells.setIfInBounds (off + k) v)
    refine ⟨by simpa using h1, fun j hj => ?_⟩
    simp only [List.length_cons] at hj
    simp only [List.zipIdx_cons, List.foldl_cons]
    rw [h2 j (by simp; omega)]
    by_cases e : j = off + k
    · subst e
      rw [if_neg (by omega), if_pos (by simp only [List.length_cons]; omega)]
      simp [Array.getElem?_setIfInBounds_self_of_lt (show off + k < cells.size by omega)]
    · rw [Array.getElem?_setIfInBounds_ne (Ne.symm e)]
      by_cases c : off + (k + 1) ≤ j ∧ j < off + (k + 1) + l.length
      · rw [if_pos c, if_pos (by simp only [List.length_cons]; omega)]
        rw [show j - (off + k) = (j - (off + (k + 1))) + 1 by omega]
        simp
      · rw [if_neg c, if_neg (by simp only [List.length_cons]; omega)]
theorem fill_rel {place : Nat → Option (Nat × Nat)} (F : FRel S μ N fr a.tmps) : ∀ {ps : List (Nat × Operand)} {cps : List (Nat × Nat × Opd)} {xs ys : List Val} {vs : Array Value}, cParts S I place ps = some cps → fill xs (evParts fr cps) = some ys → VRels S μ xs vs.toList →
    ∃ us, Instr.fill place vs (ps.map fun p => (p.1, a.eval p.2)) = some us ∧ VRels S μ ys us.toList
  | [], cps, xs, ys, vs, hc, hf, hv => by
    simp [cParts] at hc
    subst hc
    simp [evParts, fill] at hf
    subst hf
    exact ⟨vs, rfl, hv⟩
  | (i, o) :: ps, cps, xs, ys, vs, hc, hf, hv => by
    simp only [cParts, Option.bind_eq_some_iff, Option.map_eq_some_iff] at hc
    obtain ⟨⟨off, size⟩, hpl, y, hy, cps', hcps, rfl⟩ := hc
    simp only [evParts, List.map_cons, fill] at hf
    split at hf
    case isFalse => cases hf
    rename_i hcond
    obtain ⟨hlen, hle, hone⟩ := hcond
    have hrel := cOpd_rel F hy
    have hcells := hrel.cells hone
    have hsz : (a.eval o).cells.size = size := by have := hcells.length; simp at this; omega
    have hxl : vs.size = xs.length := by have := hv.length; simpa using this
    obtain ⟨g1, g2⟩ := foldl_place off (a.eval o).cells.toList 0 vs
    have hnew : VRels S μ (splice xs off (y.ev fr).cells) (((a.eval o).cells.toList.zipIdx 0).foldl (fun cs (p : Value × Nat) => cs.setIfInBounds (off + p.2) p.1) vs).toList := by
      refine VRels.mk (by simp [g1, hxl]; rw [splice_length _ _ _ (by omega)]) fun j c hj => ?_
      rw [splice_get _ _ _ (by omega)] at hj
      have hg := g2 j (by simp; omega)
      simp only [Nat.add_zero, Array.length_toList] at hg
      rw [Array.getElem?_toList, hg]
      split at hj
      · rename_i hin
        rw [if_pos (by omega)]
        exact hcells.get hj
      · rename_i hin
        rw [if_neg (by omega)]
        simpa using hv.get hj
    obtain ⟨us, k1, k2⟩ := fill_rel F hcps hf hnew
    refine ⟨us, ?_, k2⟩
    simp only [List.map_cons, Instr.fill, hpl, hsz]
    rw [if_neg (by simp; omega), ← k1]
    congr 1
    rw [← Array.foldl_toList]
    simp
theorem zeros_get (z : List Val) (n i : Nat) (hz : 0 < z.length) : (zeros z n)[i]? = if i < n * z.length then z[i % z.length]? else none := by
  unfold zeros
  induction n generalizing i with
  | zero => simp
  | succ n ih =>
    rw [List.replicate_succ, List.flatten_cons]
    by_cases hi : i < z.length
    · rw [List.getElem?_append_left hi, if_pos (by rw [Nat.add_mul]; omega), Nat.mod_eq_of_lt hi]
    · rw [List.getElem?_append_right (by omega), ih]
      have e : i % z.length = (i - z.length) % z.length := by
        rw [Nat.mod_eq_sub_mod (by omega)]
      rw [← e]
      by_cases c : i - z.length < n * z.length
      · rw [if_pos c, if_pos (by rw [Nat.add_mul]; omega)]
      · rw [if_neg c, if_neg (by rw [Nat.add_mul]; omega)]
theorem zeros_length (z : List Val) (n : Nat) : (zeros z n).length = n * z.length := by
  simp [zeros]
theorem zeros_rel {zc : List Val} {z : Array Value} {n s : Nat} (hz : VRels S μ zc z.toList) (hs : zc.length = s) (hp : 0 < s) : VRels S μ (zeros zc n) ((Array.range (n * s)).map (z[· % z.size]!)).toList := by
  have hzl : z.size = s := by have := hz.length; simp at this; omega
  refine VRels.mk (by simp [zeros_length, hs]) fun i c hc => ?_
  rw [zeros_get _ _ _ (by omega)] at hc
  split at hc
  case isFalse => cases hc
  rename_i hi
  rw [hs] at hc hi
  obtain ⟨v, h1, h2⟩ := arr_get hz _ _ hc
  refine ⟨v, ?_, h2⟩
  simp [List.getElem?_range, hi, hzl]
  have : i % s < z.size := by rw [hzl]; exact Nat.mod_lt _ hp
  rw [getElem!_pos z (i % s) this]
  rw [Array.getElem?_eq_getElem this] at h1
  exact Option.some.inj h1
theorem build_good {t : TypeId} {parts : Array (Nat × Operand)} {z : Value} {zc : List Val} {cps : List (Nat × Nat × Opd)} {place : Nat → Option (Nat × Nat)} (F : FRel S μ N fr a.tmps) (H : HRel S B μ h w)
    (hz : cCells z.cells.toList = some zc) (hc : cParts S I place parts.toList = some cps) (hb : ∀ ps us, Instr.fill place z.cells ps = some us → P.built t ps = some us) {ys : List Val} (hf : fill zc (evParts fr cps) = some ys) :
    Good S B μ ((do pure (Next.value (← Instr.build t (parts.map fun (i, x) => (i, a.eval x)))) : Sem Next).run P w) (.agg ys) h w := by
  obtain ⟨us, h1, h2⟩ := fill_rel F hc hf (cCells_rel hz)
  have := run_build (P := P) w t (parts.map fun (i, x) => (i, a.eval x)) us (hb _ _ (by simpa using h1))
  refine Good.pure (v := .agg us) ?_ H (by simp only [VRel]; exact ⟨us, rfl, h2⟩)
  simp [this]
theorem buildSlice_good {t e : TypeId} {n base kept : Nat} {slot : Option Nat} {parts : Array (Nat × Operand)} {ie : TypeInfo} {z : Value} {zc : List Val} {cps : List (Nat × Nat × Opd)} (F : FRel S μ N fr a.tmps) (H : HRel S B μ h w)
    (hu : P.underlying t = some (.slice e)) (hie : P.info? e = some ie) (hiz : ie.zero = some z) (hz : cCells z.cells.toList = some zc) (h1 : n * ie.size ≤ 16777216) (h2 : zc.length = ie.size) (h3 : 0 < ie.size)
    (hc : cParts S I (fun i => some (i * ie.size, ie.size)) parts.toList = some cps) (he : (Op.buildSlice slot ie.size (zeros zc n) n cps).eval base kept fr h = some (x, h')) :
    Good S B μ ((do pure (Next.value (← Instr.buildSlice t n (parts.map fun (i, x) => (i, a.eval x)))) : Sem Next).run P w) x h' w := by
  simp only [Op.eval] at he
  cases hf : fill (zeros zc n) (evParts fr cps) with
  | none => simp [hf] at he
  | some ys =>
    simp only [hf] at he
    split at he
    case isFalse => cases he
    simp only [Option.map_eq_some_iff, Prod.mk.injEq] at he
    obtain ⟨⟨k, h2'⟩, hl, rfl, rfl⟩ := he
    obtain ⟨us, g1, g2⟩ := fill_rel F hc hf (zeros_rel (n := n) (cCells_rel (S := S) (μ := μ) hz) h2 h3)
    have hrun : (Instr.buildSlice t n (parts.map fun (i, x) => (i, a.eval x))).run P w = .ok (.slice (some ⟨w.heap.size, 0, none⟩) n n) (w.alloc (.cells us e)) := by
      by_cases hn : n * ie.size = 0
      · have hn0 : n = 0 := by
          rcases Nat.mul_eq_zero.1 hn with h | h
          · exact h
          · omega
        subst hn0
        have e0 : ∀ f : Nat → Value, (Array.range 0).map f = #[] := fun f => by rw [Array.range_zero']; exact Array.map_empty
        have g1' := g1
        rw [Nat.zero_mul, e0] at g1'
        simp [Go.Instr.buildSlice, run_underlying hu, Go.sizeOf, Go.typeInfo, hie, newRow, e0, g1']
      · exact run_buildSlice w t e n _ us ie z hu hie hiz (by omega) hn (by simpa using g1)
    refine new_good (v := .slice (some ⟨w.heap.size, 0, none⟩) n n) (arr := us) (el := e) H hl (by have := g2.length; simp at this; simp [this]) (.inr (Nat.le_refl 0)) (arr_get g2) (Below.refl _ _) (by simp [hrun]) ?_
    simp only [VRel]
    exact ⟨_, _, by simp [Place.at]; rfl, rfl, Nat.le_refl _, .inr (by simp)⟩
end Gc
end
section
/- Each operation of the small language Gc comes to what the model's operation does: slices, append, strings and bytes. -/
set_option linter.unusedVariables false
namespace Gc
open Go Go.RowKit
variable {P : Program} {S : Sig} {I : Inv} {B N : Nat} {μ : Place} {h h' : Heap} {w : World} {fr : Frame} {a : Act} {x : Val}
/-! ### Slice expressions -/
def OV : Option Value → Option Nat → Prop
  | none, none => True
  | some v, some n => ∃ k i, v = .int k i ∧ 0 ≤ i ∧ i.toNat = n
  | _, _ => False
theorem cOpt_rel (F : FRel S μ N fr a.tmps) {xo : Option Operand} {yo : Option Opd} {n : Option Nat} (h : cOpt S I xo = some yo) (hb : boundOpt fr yo = some n) : OV (xo.map a.eval) n := by
  cases xo with
  | none =>
    simp [cOpt] at h
    subst h
    simp [boundOpt] at hb
    subst hb
    trivial
  | some x =>
    simp only [cOpt, Option.map_eq_some_iff] at h
    obtain ⟨y, hy, rfl⟩ := h
    have hr := cOpd_rel F hy
    simp only [boundOpt] at hb
    cases he : y.ev fr <;> simp only [he] at hb <;> first
      | cases hb
      | skip
    rename_i k i
    split at hb
    case isFalse => cases hb
    rename_i h0
    obtain rfl := Option.some.inj hb
    rw [he] at hr
    exact ⟨k, i, hr.of_int, h0, rfl⟩
theorem sb_run {v : Value} {n y : Nat} {code : BoundsCode} (hv : OV (some v) (some n)) (hn : n ≤ y) : (Instr.sliceBound v y code).run P w = .ok n w := by
  obtain ⟨k, i, rfl, h0, rfl⟩ := hv
  exact run_sliceBound w k i y code h0 (by omega)
theorem bounds_run {isS : Bool} {len cap : Nat} {lo hi mx : Option Value} {l h m : Option Nat} (hlo : OV lo l) (hhi : OV hi h) (hmx : OV mx m) (h1 : m = none ∨ h.isSome = true) (h2 : m.getD cap ≤ cap) (h3 : h.getD len ≤ m.getD cap) (h4 : l.getD 0 ≤ h.getD len) :
    (Instr.sliceBounds isS len cap lo hi mx).run P w = .ok (l.getD 0, h.getD len, m.getD cap) w := by
  cases mx with
  | none =>
    cases m with
    | some m => exact hmx.elim
    | none =>
      cases hi with
      | none =>
        cases h with
        | some h => exact hhi.elim
        | none =>
          cases lo with
          | none =>
            cases l with
            | some l => exact hlo.elim
            | none => simp [Instr.sliceBounds]
          | some lo =>
            cases l with
            | none => exact hlo.elim
            | some l => simp [Instr.sliceBounds, sb_run hlo (show l ≤ len by simpa using h4)]
      | some hi =>
        cases h with
        | none => exact hhi.elim
        | some h =>
          have e1 := fun c => sb_run (P := P) (w := w) (code := c) hhi (show h ≤ cap by simpa using h3)
          cases lo with
          | none =>
            cases l with
            | some l => exact hlo.elim
            | none => simp [Instr.sliceBounds, e1]
          | some lo =>
            cases l with
            | none => exact hlo.elim
            | some l => simp [Instr.sliceBounds, e1, sb_run hlo (show l ≤ h by simpa using h4)]
  | some mx =>
    cases m with
    | none => exact hmx.elim
    | some m =>
      have e0 := fun c => sb_run (P := P) (w := w) (code := c) hmx (show m ≤ cap by simpa using h2)
      cases hi with
      | none =>
        cases h with
        | some h => exact hhi.elim
        | none => simp at h1
      | some hi =>
        cases h with
        | none => exact hhi.elim
        | some h =>
          have e1 := fun c => sb_run (P := P) (w := w) (code := c) hhi (show h ≤ m by simpa using h3)
          cases lo with
          | none =>
            cases l with
            | some l => exact hlo.elim
            | none => simp [Instr.sliceBounds, e0, e1]
          | some lo =>
            cases l with
            | none => exact hlo.elim
            | some l => simp [Instr.sliceBounds, e0, e1, sb_run hlo (show l ≤ h by simpa using h4)]
theorem slice_run {t e : TypeId} {ie : TypeInfo} {ad : Option Addr} {len cap : Nat} {lo hi mx : Option Value} {l h m : Option Nat} (hu : P.underlying t = some (.slice e)) (hi' : P.info? e = some ie) (hlo : OV lo l) (hhi : OV hi h) (hmx : OV mx m) (h1 : m = none ∨ h.isSome = true) (h2 : m.getD cap ≤ cap) (h3 : h.getD len ≤ m.getD cap) (h4 : l.getD 0 ≤ h.getD len) :
    (Instr.sliceAt t (.slice ad len cap) lo hi mx).run P w = .ok (.slice (if m.getD cap = l.getD 0 then ad else ad.map (·.add (l.getD 0 * ie.size))) (h.getD len - l.getD 0) (m.getD cap - l.getD 0)) w := by
  simp [Instr.sliceAt, run_underlying hu, Instr.slice, bounds_run hlo hhi hmx h1 h2 h3 h4, Go.sizeOf, Go.typeInfo, hi']
theorem slc_good {t e : TypeId} {ie : TypeInfo} {xv : Val} {v : Value} {lo hi mx : Option Value} {l hh m : Option Nat} (H : HRel S B μ h w) (hu : P.underlying t = some (.slice e)) (hi' : P.info? e = some ie) (hv : VRel S μ xv v)
    (hlo : OV lo l) (hhi : OV hi hh) (hmx : OV mx m) (hok : slcOk h ie.size xv = true) (he : sliceOp ie.size xv (l.getD 0) hh m = some x) : ∃ r, (Instr.sliceAt t v lo hi mx).run P w = .ok r w ∧ VRel S μ x r := by
  cases xv <;> simp only [sliceOp] at he <;> first
    | cases he
    | skip
  · split at he
    case isFalse => cases he
    rename_i hc
    obtain rfl := Option.some.inj he
    simp only [VRel] at hv
    subst hv
    obtain ⟨hl0, hh0, hm, hone⟩ := hc
    refine ⟨_, slice_run hu hi' hlo hhi hmx hone (by omega) (by omega) (by omega), ?_⟩
    simp [VRel, hm, hh0, hl0]
  · rename_i k o n c
    cases m with
    | none =>
      cases c with
      | none =>
        simp only at he
        split at he
        case isFalse => cases he
        rename_i hc
        obtain rfl := Option.some.inj he
        simp only [VRel] at hv
        obtain ⟨p, ad, c, hp, rfl, hnc, had⟩ := hv
        have hes : p.esz = ie.size ∧ True := by
          simp only [slcOk] at hok
          cases hb : h.get k with
          | none => simp [hb] at hok
          | some b =>
            rw [hb] at hok
            simp at hok
            obtain ⟨p', hp', hB⟩ := H.blk k b hb
            obtain rfl := Option.some.inj (hp'.symm.trans hp)
            exact ⟨(hB.own hok.1).2.2.1.trans hok.2, trivial⟩
        refine ⟨_, slice_run hu hi' hlo hhi hmx (.inl rfl) (Nat.le_refl _) (by simp only [Option.getD_none]; omega) hc.1, ?_⟩
        simp only [VRel, Option.getD_none]
        by_cases e : c = l.getD 0
        · exact ⟨p, ad, c - l.getD 0, hp, by simp [e], by omega, .inl (by omega)⟩
        · rcases had with h0 | ⟨rfl, hroom⟩
          · omega
          · refine ⟨p, ⟨p.blk, p.off + o + l.getD 0 * ie.size, none⟩, c - l.getD 0, hp, by simp [e, add_off], by omega, .inr ⟨by simp [Nat.add_assoc], ?_⟩⟩
            rw [hes.1] at hroom ⊢
            rw [Nat.sub_mul]
            have : l.getD 0 * ie.size ≤ c * ie.size := Nat.mul_le_mul_right _ (by omega)
            omega
      | some c =>
        simp only at he
        split at he
        case isFalse => cases he
        rename_i hc
        obtain rfl := Option.some.inj he
        simp only [VRel] at hv
        obtain ⟨p, ad, hp, rfl, hnc, had⟩ := hv
        refine ⟨_, slice_run hu hi' hlo hhi hmx (.inl rfl) (Nat.le_refl _) (by simp only [Option.getD_none]; omega) hc.1, ?_⟩
        simp only [VRel, Option.getD_none]
        by_cases e : c = l.getD 0
        · exact ⟨p, ad, hp, by simp [e], by omega, .inl (by omega)⟩
        · rcases had with h0 | rfl
          · omega
          · exact ⟨p, ⟨p.blk, p.off + o + l.getD 0 * ie.size, none⟩, hp, by simp [e, add_off], by omega, .inr (by simp [e, Nat.add_assoc])⟩
    | some m =>
      simp only at he
      cases hh with
      | none => simp at he
      | some hh =>
        simp only at he
        split at he
        case isFalse => cases he
        rename_i hc
        obtain rfl := Option.some.inj he
        have key : ∀ ad cap p, μ k = some p → v = .slice (some ad) n cap → m ≤ cap → (cap = 0 ∨ ad = ⟨p.blk, p.off + o, none⟩) → ∃ r, (Instr.sliceAt t v lo hi mx).run P w = .ok r w ∧ VRel S μ (.slice k (if m = l.getD 0 then o else o + l.getD 0 * ie.size) (hh - l.getD 0) (some (m - l.getD 0))) r := by
          intro ad cap p hp hveq hm had
          subst hveq
          refine ⟨_, slice_run hu hi' hlo hhi hmx (.inr rfl) (by simpa using hm) (by simp; omega) (by simp; omega), ?_⟩
          simp only [VRel, Option.getD_some]
          by_cases e : m = l.getD 0
          · exact ⟨p, ad, hp, by simp [e], by omega, .inl (by omega)⟩
          · rcases had with h0 | rfl
            · omega
            · exact ⟨p, ⟨p.blk, p.off + o + l.getD 0 * ie.size, none⟩, hp, by simp [e, add_off], by omega, .inr (by simp [e, Nat.add_assoc])⟩
        cases c with
        | none =>
          simp only [VRel] at hv
          obtain ⟨p, ad, c, hp, rfl, hnc, had⟩ := hv
          have hm : m ≤ n := by simpa using hc.2.2
          exact key ad c p hp rfl (by omega) (had.imp id (·.1))
        | some c =>
          simp only [VRel] at hv
          obtain ⟨p, ad, hp, rfl, hnc, had⟩ := hv
          exact key ad c p hp rfl (by simpa using hc.2.2) had
end Gc
end
section
/- Each operation of the small language Gc comes to what the model's operation does: append. -/
set_option linter.unusedVariables false
namespace Gc
open Go Go.RowKit
variable {P : Program} {S : Sig} {I : Inv} {B N : Nat} {μ : Place} {h h' : Heap} {w : World} {fr : Frame} {a : Act} {x : Val}
/-- What a slice (or a string) lies in. -/
theorem slice_at {k o n : Nat} {c : Option Nat} {v : Value} (hv : VRel S μ (.slice k o n c) v) : ∃ p ad cap, μ k = some p ∧ v = .slice (some ad) n cap ∧ n ≤ cap ∧ (cap = 0 ∨ ad = ⟨p.blk, p.off + o, none⟩) := by
  cases c with
  | none =>
    simp only [VRel] at hv
    obtain ⟨p, ad, c, hp, rfl, hnc, had⟩ := hv
    exact ⟨p, ad, c, hp, rfl, hnc, had.imp id (·.1)⟩
  | some c =>
    simp only [VRel] at hv
    obtain ⟨p, ad, hp, rfl, hnc, had⟩ := hv
    exact ⟨p, ad, c, hp, rfl, hnc, had⟩
theorem firstCells_zero {esz : Nat} {v : Value} (hv : (∃ ad n c, v = .slice ad n c) ∨ ∃ s, v = .string s) : (Builtin.firstCells esz 0 v).run P w = .ok #[] w := by
  rcases hv with ⟨ad, n, c, rfl⟩ | ⟨s, rfl⟩
  · cases ad with
    | none => simp [Builtin.firstCells]
    | some ad =>
      have := run_loadCells_list (P := P) w ad [] (fun j v hj => by simp at hj)
      simp [Builtin.firstCells]
      simpa using this
  · have : (s.extract 0 0).data = #[] := by
      apply Array.eq_empty_of_size_eq_zero
      have := Lib.extract_data s 0 0
      have h2 := congrArg List.length this
      simpa using h2
    simp [Builtin.firstCells, this]
/-- The first n elements of a slice that Gc knows. -/
theorem cells_run {esz k o n m : Nat} {c : Option Nat} {b : Blk} {p : Plc} {ad : Addr} {cap len : Nat} (H : HRel S B μ h w) (hb : h.get k = some b) (hp : μ k = some p) (hle : o + n * esz ≤ b.cells.length) (had : n = 0 ∨ ad = ⟨p.blk, p.off + o, none⟩) :
    ∃ vs : List Value, vs.length = n * esz ∧ VRels S μ ((b.cells.drop o).take (n * esz)) vs ∧ (∀ j v, vs[j]? = some v → w.cell? (ad.add j) = some v) ∧
      (Builtin.firstCells esz n (.slice (some ad) len cap)).run P w = .ok vs.toArray w := by
  obtain ⟨vs, hvl, hrel, hcell⟩ := load_cells H hb hp hle
  have hcell' : ∀ j v, vs[j]? = some v → w.cell? (ad.add j) = some v := by
    intro j v hj
    rcases had with rfl | rfl
    · have := (List.getElem?_eq_some_iff.1 hj).1
      simp [hvl] at this
    · exact hcell j v hj
  refine ⟨vs, hvl, hrel, hcell', ?_⟩
  have := run_firstCells_some (P := P) w esz n ad len cap vs hvl hcell'
  exact this
theorem spread_run {esz n : Nat} {new : List Val} {xv : Val} {v : Value} (H : HRel S B μ h w) (hv : VRel S μ xv v) (hs : spread h esz xv = some (n, new)) :
    ∃ vs : List Value, vs.length = new.length ∧ VRels S μ new vs ∧ (Builtin.lenOf v).run P w = .ok n w ∧ ∀ w1 : World, (∀ ad, w1.cell? ad = w.cell? ad) → (Builtin.firstCells esz n v).run P w1 = .ok vs.toArray w1 := by
  cases xv <;> simp only [spread] at hs <;> first
    | cases hs
    | skip
  · split at hs
    case isFalse => cases hs
    rename_i s e
    simp only [Option.some.injEq, Prod.mk.injEq] at hs
    obtain ⟨rfl, rfl⟩ := hs
    obtain rfl := hv.of_str
    refine ⟨s.map fun b => .int .u8 b.toNat, by simp [ofBytes], ?_, by simp [Builtin.lenOf, ByteArray.size], fun w1 _ => ?_⟩
    · refine VRels.mk (by simp [ofBytes]) fun i c hc => ?_
      simp only [ofBytes, List.getElem?_map, Option.map_eq_some_iff] at hc
      obtain ⟨b, hb, rfl⟩ := hc
      exact ⟨_, by simp [hb]; rfl, by simp [VRel]⟩
    · have : ((⟨s.toArray⟩ : ByteArray).extract 0 s.length).data = s.toArray := by
        apply Array.ext'
        rw [Lib.extract_data]
        simp
      simp [Builtin.firstCells, this]
  · simp only [VRel] at hv
    subst hv
    refine ⟨[], rfl, by simp [VRels], by simp [Builtin.lenOf], fun w1 _ => by simp [Builtin.firstCells]⟩
  · rename_i k o n' c
    obtain ⟨p, ad, cap, hp, rfl, hnc, had⟩ := slice_at hv
    split at hs
    · rename_i e
      simp only [Option.some.injEq, Prod.mk.injEq] at hs
      obtain ⟨rfl, rfl⟩ := hs
      subst e
      exact ⟨[], rfl, by simp [VRels], by simp [Builtin.lenOf], fun w1 _ => firstCells_zero (.inl ⟨_, _, _, rfl⟩)⟩
    · cases hb : h.get k with
      | none => simp [hb] at hs
      | some b =>
        simp only [hb] at hs
        split at hs
        case isFalse => cases hs
        rename_i hle
        simp only [Option.some.injEq, Prod.mk.injEq] at hs
        obtain ⟨rfl, rfl⟩ := hs
        have had' : ad = ⟨p.blk, p.off + o, none⟩ := by
          rcases had with h0 | h0
          · omega
          · exact h0
        obtain ⟨vs, hvl, hrel, hcell, _⟩ := cells_run (P := P) (esz := esz) (len := n') (cap := cap) (m := 0) (c := none) H hb hp hle (.inr had')
        refine ⟨vs, by have := hrel.length; omega, hrel, by simp [Builtin.lenOf], fun w1 hw1 => ?_⟩
        exact run_firstCells_some (P := P) w1 esz n' ad n' cap vs hvl fun j v hj => by rw [hw1]; exact hcell j v hj
/-- 'append' that makes a new array. -/
theorem append_grow {t u e ty : TypeId} {d : TypeDesc} {ie : TypeInfo} {z v : Value} {base : Option Addr} {sLen sCap n : Nat} {olds news : List Value} (hu : P.underlying t = some (.slice e)) (hd : P.underlying u = some d) (hd' : ∀ k, d ≠ .int k) (hie : P.info? e = some ie) (hz : ie.zero = some z)
    (hlen : (Builtin.lenOf v).run P w = .ok n w) (hold : (Builtin.firstCells ie.size sLen (.slice base sLen sCap)).run P w.drew = .ok olds.toArray w.drew) (hnew : (Builtin.firstCells ie.size n v).run P w.drew = .ok news.toArray w.drew)
    (hg : sCap < sLen + n) (hb : 1 ≤ ie.bytes) (hroom : (sLen + n) * ie.bytes ≤ maxRoom) :
    (Builtin.append_ #[t, u] ty #[.slice base sLen sCap, v]).run P w = .ok (.slice (some ⟨w.heap.size, 0, none⟩) (sLen + n) (grownCap w (sLen + n) sCap e))
      (w.drew.alloc (.cells (olds.toArray ++ news.toArray ++ Builtin.zeroCells z.cells (grownCap w (sLen + n) sCap e - (sLen + n))) e)) := by
  unfold maxRoom at hroom
  have hle : sLen + n ≤ 35184372088832 := Nat.le_trans (Nat.le_mul_of_pos_right _ hb) hroom
  have hn : ¬ (sLen + n ≤ sCap) := by omega
  have h63' : ¬ (9223372036854775807 < ((sLen : Int) + (n : Int))) := by omega
  have hfit := growslice_fits (bytes := ie.bytes) hg (by omega)
  have h48' : ¬ (281474976710656 < Builtin.nextslicecap (sLen + n) sCap * ie.bytes) := by omega
  simp [Builtin.append_, run_underlying hu, run_underlying hd, Go.sizeOf, Go.typeInfo, zeroValue, hie, hz, hlen, hn, h63', h48', Question.forced, hold, hnew, newRow, grownCap]
  congr 2
  apply Array.ext'
  simp [List.append_assoc]
/-- 'append' into the array that is there. -/
theorem append_fits {t u e ty : TypeId} {d : TypeDesc} {ie : TypeInfo} {v : Value} {base : Option Addr} {sLen sCap n : Nat} {news : List Value} {w' : World} (hu : P.underlying t = some (.slice e)) (hd : P.underlying u = some d) (hd' : ∀ k, d ≠ .int k) (hie : P.info? e = some ie)
    (hlen : (Builtin.lenOf v).run P w = .ok n w) (hnew : (Builtin.firstCells ie.size n v).run P w = .ok news.toArray w) (hg : sLen + n ≤ sCap)
    (hst : ∀ ad, base = some ad → (storeCells (ad.add (sLen * ie.size)) news).run P w = .ok () w') (hnil : base = none → w' = w) :
    (Builtin.append_ #[t, u] ty #[.slice base sLen sCap, v]).run P w = .ok (.slice base (sLen + n) sCap) w' := by
  cases base with
  | none =>
    obtain rfl := hnil rfl
    simp [Builtin.append_, run_underlying hu, run_underlying hd, Go.sizeOf, Go.typeInfo, hie, hlen, hg, hnew]
  | some ad =>
    have := hst ad rfl
    simp [Builtin.append_, run_underlying hu, run_underlying hd, Go.sizeOf, Go.typeInfo, hie, hlen, hg, hnew, this]
end Gc
end
section
/- The small language's append comes to what the model's append does, whatever capacity the model draws. -/
set_option linter.unusedVariables false
namespace Gc
open Go Go.RowKit
variable {P : Program} {S : Sig} {I : Inv} {B N : Nat} {μ : Place} {h h' : Heap} {w : World} {fr : Frame} {a : Act} {x : Val}
/-- A block is given up; its cells in the model's memory may have turned. -/
theorem kill_rel {k : Nat} {b : Blk} {p : Plc} {w' : World} (H : HRel S B μ h w) (hb : h.get k = some b) (hrw : b.rw = true) (hp : μ k = some p) (hsz : w.heap.size ≤ w'.heap.size) (hw : ∀ i, i < w.heap.size → i ≠ p.blk → w'.heap[i]? = w.heap[i]?) :
    HRel S B μ (h.set k (some .dead)) w' := by
  have hkl := lt_size H.wf hb
  refine ⟨Nat.le_trans H.base hsz, fun j hj => ?_, fun j hj => ?_, fun j q hq => Nat.lt_of_lt_of_le (H.old j q hq) hsz, fun j bj hbj => ?_, ?_⟩
  · rw [Heap.size_set _ _ _ hkl] at hj
    rw [Heap.get_set, if_neg (by omega)]
    exact H.wf j hj
  · rw [Heap.get_set] at hj
    split at hj
    · cases hj
    · exact H.dom j hj
  · rw [Heap.get_set] at hbj
    split at hbj
    · rename_i e
      subst e
      obtain rfl := Option.some.inj hbj
      exact ⟨p, hp, ⟨fun i c hc => by simp [Blk.dead] at hc, fun hr => by simp [Blk.dead] at hr⟩⟩
    · rename_i e
      obtain ⟨q, hq, hBq⟩ := H.blk j bj hbj
      refine ⟨q, hq, ?_⟩
      by_cases hx : bj.rw = true ∨ bj.cells ≠ []
      · have hne := H.sep k j b bj p q (Ne.symm e) hb hbj hrw hx hp hq
        exact hBq.mono (Ext.refl _) (hw _ (H.old j q hq) (Ne.symm hne))
      · simp only [not_or, Decidable.not_not] at hx
        refine ⟨fun i c hc => ?_, fun hr => absurd hr hx.1⟩
        rw [hx.2] at hc; simp at hc
  · intro i j bi bj pi pj hij hbi hbj hri hrj hpi hpj
    rw [Heap.get_set] at hbi hbj
    split at hbi
    · obtain rfl := Option.some.inj hbi
      simp [Blk.dead] at hri
    · split at hbj
      · obtain rfl := Option.some.inj hbj
        simp [Blk.dead] at hrj
      · exact H.sep i j bi bj pi pj hij hbi hbj hri hrj hpi hpj
theorem grownCap_le (w : World) {need old : Nat} {e : TypeId} : need ≤ grownCap w need old e := by
  show need ≤ need + _ % (2 ^ 63 - need)
  exact Nat.le_add_right _ _
theorem zeroCells_size (z : Array Value) (n : Nat) : (Builtin.zeroCells z n).size = n * z.size := by simp [Builtin.zeroCells]
/-- What a new array bears: the old elements, the new ones, and zeros. -/
theorem grown_good {w1 : World} {base e n : Nat} {slot : Option Nat} {k : Nat} {el : TypeId} {r : Result Next} {olds news : List Value} {z : Array Value} {old new : List Val} {cap : Nat} (H : HRel S B μ h w1)
    (hl : h.lay base slot ⟨old ++ new, true, e⟩ = some (k, h')) (ho : VRels S μ old olds) (hn : VRels S μ new news) (hw : Below B w w1) (hlen : old.length + new.length = n * e) (hz : z.size = e) (hcap : n ≤ cap)
    (hr : r = .ok (.value (.slice (some ⟨w1.heap.size, 0, none⟩) n cap)) (w1.alloc (.cells (olds.toArray ++ news.toArray ++ Builtin.zeroCells z (cap - n)) el))) : Good S B μ r (.slice k 0 n none) h' w := by
  have hol := ho.length
  have hnl := hn.length
  have hsz : (olds.toArray ++ news.toArray ++ Builtin.zeroCells z (cap - n)).size = cap * e := by
    simp only [Array.size_append, List.size_toArray, zeroCells_size, hz, hol, hnl, hlen]
    rw [← Nat.add_mul]
    congr 1
    omega
  refine new_good (arr := olds.toArray ++ news.toArray ++ Builtin.zeroCells z (cap - n)) (el := el) H hl ?_ (.inr (Nat.le_refl 0)) ?_ hw hr ?_
  · rw [hsz, List.length_append, hlen]
    exact Nat.mul_le_mul_right _ hcap
  · intro i c hc
    obtain ⟨v, h1, h2⟩ := (ho.append hn).get hc
    refine ⟨v, ?_, h2⟩
    have hlt : i < (olds ++ news).length := (List.getElem?_eq_some_iff.1 h1).1
    rw [Array.getElem?_append_left (by simpa using hlt)]
    simpa using h1
  · simp only [VRel]
    refine ⟨_, _, cap, by simp [Place.at]; rfl, rfl, hcap, .inr ⟨by simp, ?_⟩⟩
    simp only [Array.size_append, List.size_toArray] at hsz
    simp only [Nat.zero_add, Array.size_append, List.size_toArray]
    omega
theorem append_good {t u e ty : TypeId} {d : TypeDesc} {ie : TypeInfo} {z s' x' : Value} {base n : Nat} {slot : Option Nat} {sv xv : Val} {new : List Val} (H : HRel S B μ h w)
    (hu : P.underlying t = some (.slice e)) (hd : P.underlying u = some d) (hd' : ∀ k, d ≠ .int k) (hie : P.info? e = some ie) (hz : ie.zero = some z) (hzs : z.cells.size = ie.size)
    (hs : VRel S μ sv s') (hx : VRel S μ xv x') (hsp : spread h ie.size xv = some (n, new)) (he : appendOp base h slot ie.size ie.bytes sv n new = some (x, h')) :
    Good S B μ ((do pure (Next.value (← Builtin.append_ #[t, u] ty #[s', x'])) : Sem Next).run P w) x h' w := by
  obtain ⟨news, hnl, hnrel, hlenOf, hfirst⟩ := spread_run (P := P) H hx hsp
  unfold appendOp at he
  split at he
  case isTrue => cases he
  rename_i hcond
  simp only [Decidable.not_not] at hcond
  obtain ⟨hb1, he1, hnlen, hnone⟩ := hcond
  have hcellsD : ∀ ad, w.drew.cell? ad = w.cell? ad := fun ad => World.cell?_drew w ad
  have HD : HRel S B μ h w.drew := H.later (Nat.le_refl _) fun i _ => rfl
  have BD : Below B w w.drew := (Below.refl B w).drew
  cases sv <;> simp only at he <;> first
    | cases he
    | skip
  · simp only [VRel] at hs
    subst hs
    split at he
    · rename_i hn0
      subst hn0
      simp only [Option.some.injEq, Prod.mk.injEq] at he
      obtain ⟨rfl, rfl⟩ := he
      have hr := append_fits (ty := ty) (base := none) (sLen := 0) (sCap := 0) (news := news) (w' := w) hu hd hd' hie hlenOf (hfirst w fun _ => rfl) (by omega) (fun ad h => by cases h) (fun _ => rfl)
      exact Good.pure (v := .slice none 0 0) (by simp [hr]) H (by simp [VRel])
    · rename_i hn0
      split at he
      case isFalse => cases he
      rename_i hroom
      simp only [Option.map_eq_some_iff, Prod.mk.injEq] at he
      obtain ⟨⟨k, h2⟩, hl, rfl, rfl⟩ := he
      have hr := append_grow (ty := ty) (base := none) (sLen := 0) (sCap := 0) (olds := []) (news := news) hu hd hd' hie hz hlenOf (by simp [Builtin.firstCells]) (hfirst _ hcellsD) (by omega) hb1 (by simpa using hroom)
      refine grown_good (w1 := w.drew) (old := []) (olds := []) (news := news) (z := z.cells) (cap := grownCap w n 0 e) (n := n) (el := e) HD (by simpa using hl) (by simp [VRels]) hnrel BD (by simpa using hnlen) hzs (grownCap_le w) ?_
      simp [hr]
  · rename_i k o len c
    split at he
    · rename_i hn0
      subst hn0
      simp only [Option.some.injEq, Prod.mk.injEq] at he
      obtain ⟨rfl, rfl⟩ := he
      obtain ⟨p, ad, cap, hp, rfl, hnc, had⟩ := slice_at hs
      have hnews : news = [] := List.eq_nil_of_length_eq_zero (by omega)
      subst hnews
      have hr := append_fits (ty := ty) (base := some ad) (sLen := len) (sCap := cap) (news := []) (w' := w) hu hd hd' hie hlenOf (hfirst w fun _ => rfl) (by omega) (fun ad h => rfl) (fun h => by cases h)
      exact Good.pure (v := .slice (some ad) len cap) (by simp [hr]) H hs
    · rename_i hn0
      cases hb : h.get k with
      | none => simp [hb] at he
      | some b =>
        simp only [hb] at he
        split at he
        case isTrue => cases he
        rename_i hcond2
        simp only [Decidable.not_not] at hcond2
        obtain ⟨hle, hroom⟩ := hcond2
        obtain ⟨p, ad, cap, hp, hs', hnc, had⟩ := slice_at hs
        subst hs'
        obtain ⟨olds, hol, horel, hocell, _⟩ := cells_run (P := P) (esz := ie.size) (n := len) (len := len) (cap := cap) (m := 0) (c := none) (ad := ad) H hb hp hle (by
          rcases had with h0 | h0
          · exact .inl (by omega)
          · exact .inr h0)
        have hofirst : (Builtin.firstCells ie.size len (.slice (some ad) len cap)).run P w.drew = .ok olds.toArray w.drew :=
          run_firstCells_some (P := P) w.drew ie.size len ad len cap olds hol fun j v hj => by rw [hcellsD]; exact hocell j v hj
        have growGood : ∀ (hg : cap < len + n) (hh2 : Heap) (k' : Nat), h.lay base slot ⟨(b.cells.drop o).take (len * ie.size) ++ new, true, ie.size⟩ = some (k', hh2) →
            Good S B μ ((do pure (Next.value (← Builtin.append_ #[t, u] ty #[.slice (some ad) len cap, x'])) : Sem Next).run P w) (.slice k' 0 (len + n) none) hh2 w := by
          intro hg hh2 k' hl
          have hr := append_grow (ty := ty) (base := some ad) (sLen := len) (sCap := cap) (olds := olds) (news := news) hu hd hd' hie hz hlenOf hofirst (hfirst _ hcellsD) hg hb1 hroom
          refine grown_good (w1 := w.drew) (olds := olds) (news := news) (z := z.cells) (cap := grownCap w (len + n) cap e) (n := len + n) (el := e) HD hl horel hnrel BD ?_ hzs (grownCap_le w) ?_
          · have := horel.length
            rw [← this, hol, hnlen, ← Nat.add_mul]
          · simp [hr]
        cases c with
        | some c =>
          simp only at he
          have hcc : cap = c := by
            simp only [VRel] at hs
            obtain ⟨p', ad', hp', hsl, _⟩ := hs
            simp only [Value.slice.injEq] at hsl
            exact hsl.2.2
          subst hcc
          split at he
          · rename_i hfit
            split at he
            · cases he
            cases hst : h.store base k (o + len * ie.size) new with
            | none => simp [hst] at he
            | some h2 =>
              simp only [hst, Option.some.injEq, Prod.mk.injEq] at he
              obtain ⟨rfl, rfl⟩ := he
              obtain ⟨w', g1, g2, g3⟩ := store_rel (P := P) H hst hp hnrel
              have hadx : ad = ⟨p.blk, p.off + o, none⟩ := by
                rcases had with h0 | h0
                · omega
                · exact h0
              have hr := append_fits (ty := ty) (base := some ad) (sLen := len) (sCap := cap) (news := news) (w' := w') hu hd hd' hie hlenOf (hfirst w fun _ => rfl) hfit (fun ad' h => by
                obtain rfl := Option.some.inj h
                rw [hadx, add_off]
                rw [← Nat.add_assoc] at g1
                exact g1) (fun h => by cases h)
              refine ⟨μ, w', .inl ⟨.slice (some ad) (len + n) cap, by simp [hr], ?_⟩, Ext.refl _, g2, g3⟩
              simp only [VRel]
              exact ⟨p, ad, hp, rfl, hfit, .inr hadx⟩
          · rename_i hfit
            simp only [Option.map_eq_some_iff, Prod.mk.injEq] at he
            obtain ⟨⟨k', h2⟩, hl, rfl, rfl⟩ := he
            exact growGood (by omega) h2 k' hl
        | none =>
          simp only at he
          split at he
          case isFalse => cases he
          rename_i hk
          obtain ⟨hbase, hrw, hesz, rfl⟩ := hk
          simp only [Option.map_eq_some_iff, Prod.mk.injEq] at he
          obtain ⟨⟨k', h2⟩, hl, rfl, rfl⟩ := he
          have hneq : k ≠ (h.set k (some .dead)).size := by
            have := lt_size H.wf hb
            rw [Heap.size_set _ _ _ this]
            omega
          by_cases hfit : len + n ≤ cap
          · -- into the array that is there
            have hadx : ad = ⟨p.blk, p.off + o, none⟩ ∧ o + cap * p.esz ≤ p.room := by
              simp only [VRel] at hs
              obtain ⟨p', ad', c', hp', hsl, _, had'⟩ := hs
              obtain rfl := Option.some.inj (hp'.symm.trans hp)
              simp only [Value.slice.injEq, Option.some.injEq] at hsl
              obtain ⟨rfl, _, rfl⟩ := hsl
              rcases had' with h0 | h0
              · omega
              · exact h0
            obtain ⟨hadx, hroomx⟩ := hadx
            obtain ⟨p', hp', hBb⟩ := H.blk k b hb
            obtain rfl := Option.some.inj (hp'.symm.trans hp)
            obtain ⟨hBp, hbr, hpe, arr, el, lo, hi, hheap, harr, hfrz⟩ := hBb.own hrw
            rw [hpe, hesz] at hroomx
            have hmul : (len + n) * ie.size ≤ cap * ie.size := Nat.mul_le_mul_right _ hfit
            rw [Nat.add_mul] at hmul
            obtain ⟨w', arr', g1, g2, g3, g4, g5, g6, g7, g8, g9⟩ := storeCells_run (P := P) (off := p'.off + o + len * ie.size) news 0 w arr hheap (by omega) (by omega) (by
              intro v hvm
              obtain ⟨i, hi, rfl⟩ := List.mem_iff_getElem.1 hvm
              obtain ⟨v, e1, e2⟩ := hnrel.get (i := i) (x := new[i]'(by omega)) (List.getElem?_eq_getElem _)
              rw [List.getElem?_eq_getElem hi] at e1
              have := e2.oneCell (List.all_eq_true.1 hnone _ (List.getElem_mem _))
              rw [← Option.some.inj e1] at this
              exact this)
            have hr := append_fits (ty := ty) (base := some ad) (sLen := len) (sCap := cap) (news := news) (w' := w') hu hd hd' hie hlenOf (hfirst w fun _ => rfl) hfit (fun ad' h => by
                obtain rfl := Option.some.inj h
                rw [hadx, add_off]
                exact g1) (fun h => by cases h)
            have HK : HRel S B μ (h.set k (some .dead)) w' := kill_rel H hb hrw hp (by omega) fun i _ hi => g5 i hi
            have hlt := H.old k p' hp
            have hcl : ((b.cells.drop o).take (len * ie.size)).length = len * ie.size := by simp; omega
            have hBR : BRel S B μ ⟨(b.cells.drop o).take (len * ie.size) ++ new, true, ie.size⟩ ⟨p'.blk, p'.off + o, p'.room - o, ie.size⟩ w' := by
              refine ⟨fun i c hc => ?_, fun _ => ⟨hBp, ?_, rfl, arr', el, lo, hi, g2, ?_, ?_⟩⟩
              · simp only at hc
                have hcell : ∀ i, w'.cell? ⟨p'.blk, p'.off + o + i, none⟩ = arr'[p'.off + o + i]? := fun i => by simp [World.cell?, g2]
                simp only [hcell, g4]
                by_cases hi : i < len * ie.size
                · rw [if_neg (by omega)]
                  rw [List.getElem?_append_left (by omega)] at hc
                  obtain ⟨v, e1, e2⟩ := horel.get hc
                  refine ⟨v, ?_, e2⟩
                  have := hocell i v e1
                  rw [hadx, add_off] at this
                  simpa [World.cell?, hheap] using this
                · rw [List.getElem?_append_right (by omega), hcl] at hc
                  have hin : i - len * ie.size < new.length := (List.getElem?_eq_some_iff.1 hc).1
                  rw [if_pos (by omega)]
                  obtain ⟨v, e1, e2⟩ := hnrel.get hc
                  exact ⟨v, by rw [← e1]; congr 1; omega, e2⟩
              · simp only [List.length_append, hcl]
                omega
              · simp only
                omega
              · simp only
                omega
            have hsepx : ∀ j bj pj, (h.set k (some .dead)).get j = some bj → (bj.rw = true ∨ bj.cells ≠ []) → μ j = some pj → pj.blk ≠ p'.blk := by
              intro j bj pj hbj hrj hpj
              rw [Heap.get_set] at hbj
              split at hbj
              · obtain rfl := Option.some.inj hbj
                simp [Blk.dead] at hrj
              · rename_i e
                exact (H.sep k j b bj p' pj (Ne.symm e) hb hbj hrw hrj hp hpj).symm
            obtain ⟨H', E⟩ := lay_rel (p := ⟨p'.blk, p'.off + o, p'.room - o, ie.size⟩) HK hl (by simp only; omega) hBR hsepx
            refine ⟨_, w', .inl ⟨.slice (some ad) (len + n) cap, by simp [hr], ?_⟩, E, H', ⟨g7, g8, g9, by omega, fun i hi => g5 i (by omega)⟩⟩
            simp only [VRel]
            refine ⟨_, ad, cap, by simp [Place.at]; rfl, rfl, hfit, .inr ⟨by simp [hadx], ?_⟩⟩
            simp only
            omega
          · have HK : HRel S B μ (h.set k (some .dead)) w := kill_rel H hb hrw hp (Nat.le_refl _) fun i _ _ => rfl
            have HKD : HRel S B μ (h.set k (some .dead)) w.drew := HK.later (Nat.le_refl _) fun i _ => rfl
            have hr := append_grow (ty := ty) (base := some ad) (sLen := len) (sCap := cap) (olds := olds) (news := news) hu hd hd' hie hz hlenOf hofirst (hfirst _ hcellsD) (by omega) hb1 hroom
            refine grown_good (w1 := w.drew) (olds := olds) (news := news) (z := z.cells) (cap := grownCap w (len + n) cap e) (n := len + n) (el := e) HKD hl horel hnrel BD ?_ hzs (grownCap_le w) ?_
            · have := horel.length
              rw [← this, hol, hnlen, ← Nat.add_mul]
            · simp [hr]
end Gc
end
section
/- Every operation that calls nothing comes to what the model's operation does. -/
set_option linter.unusedVariables false
namespace Gc
open Go Go.RowKit
variable {P : Program} {S : Sig} {I : Inv} {B N : Nat} {μ : Place} {h h' : Heap} {w : World} {fr : Frame} {a : Act} {x : Val}
theorem field_rel {t : TypeId} {d : TypeDesc} {i : TypeInfo} (hd : P.underlying t = some d) (hi : P.info? t = some i) {n off : Nat} {cs : List Val} {vs : Array Value} (hn : n = if isAggD d then i.size else 1)
    (hx : Val.ofCells (isAggD d) ((cs.drop off).take n) = some x) (hle : off + n ≤ cs.length) (hv : VRels S μ cs vs.toList) : ∃ v, (Go.part t vs off).run P w = .ok v w ∧ VRel S μ x v := by
  have hisagg : (isAgg t).run P w = .ok (isAggD d) w := by
    simp only [isAgg, Sem.run_bind, run_underlying hd, Result.andThen_ok]
    cases d <;> rfl
  have hsz : vs.size = cs.length := by have := hv.length; simpa using this
  have hr := (hv.drop off).take n
  rcases ofCells_rel hx hr with ⟨hagg, hrel⟩ | ⟨hagg, v, hveq, hrel⟩
  · rw [hagg] at hn hisagg
    refine ⟨_, ?_, hrel⟩
    simp only [Go.part, Sem.run_bind, hisagg, Result.andThen_ok, if_true, Go.sizeOf, Go.typeInfo, run_program, hi, Sem.run_pure]
    congr 2
    apply Array.ext'
    simp only [if_true] at hn
    subst hn
    simp [Array.toList_extract, List.extract_eq_take_drop]
  · rw [hagg] at hn hisagg
    refine ⟨v, ?_, hrel⟩
    simp only [Bool.false_eq_true, if_false] at hn
    subst hn
    have : vs[off]? = some v := by
      have := congrArg (·[0]?) hveq
      simpa using this
    simp [Go.part, hisagg, this]
theorem asBytes_rel : ∀ {cs : List Val} {vs : List Value} {s : List UInt8}, asBytes cs = some s → VRels S μ cs vs → ∃ ns : List Int, vs = ns.map (Value.int .u8) ∧ ns.map (fun n => UInt8.ofNat n.toNat) = s
  | [], vs, s, hs, hv => by
    simp [asBytes] at hs
    simp only [VRels] at hv
    subst hs hv
    exact ⟨[], rfl, rfl⟩
  | c :: cs, vs, s, hs, hv => by
    simp only [VRels] at hv
    obtain ⟨v, l, rfl, h1, h2⟩ := hv
    cases c
    case int k n =>
      cases k <;> simp only [asBytes, Option.map_eq_some_iff, reduceCtorEq] at hs
      obtain ⟨s', hs', rfl⟩ := hs
      obtain ⟨ns, rfl, rfl⟩ := asBytes_rel hs' h2
      exact ⟨n :: ns, by simp [h1.of_int], by simp⟩
    all_goals simp [asBytes] at hs
theorem foldl_push : ∀ (ns : List Int) (r : ByteArray), ns.foldl (fun r n => r.push (UInt8.ofNat n.toNat)) r = ⟨r.data ++ (ns.map fun n => UInt8.ofNat n.toNat).toArray⟩
  | [], r => by simp
  | n :: ns, r => by
    simp only [List.foldl_cons]
    rw [foldl_push ns]
    simp [ByteArray.push]
theorem minmax_run {mx : Bool} : ∀ {cs : List Val} {vs : List Value} {k : IntKind} {n : Int}, VRels S μ cs vs → foldMM mx k n cs = some x → ∃ v, (vs.foldlM (if mx then Builtin.max2 else Builtin.min2) (Value.int k n)).run P w = .ok v w ∧ VRel S μ x v
  | [], vs, k, n, hv, hx => by
    simp only [VRels] at hv
    subst hv
    simp [foldMM] at hx
    subst hx
    exact ⟨.int k n, by simp, by simp [VRel]⟩
  | c :: cs, vs, k, n, hv, hx => by
    simp only [VRels] at hv
    obtain ⟨v, l, rfl, h1, h2⟩ := hv
    cases c <;> simp only [foldMM] at hx <;> first
      | cases hx
      | skip
    rename_i k' m
    split at hx
    case isFalse => cases hx
    rename_i e
    subst e
    obtain rfl := h1.of_int
    obtain ⟨v, g1, g2⟩ := minmax_run h2 hx
    refine ⟨v, ?_, g2⟩
    rw [List.foldlM_cons]
    cases mx
    · simpa [Builtin.min2] using g1
    · simpa [Builtin.max2] using g1
theorem un_run {op : UnOp} {p : Val} {v : Value} (h : unOp op p = some x) (hv : VRel S μ p v) : ∃ r, (Op.unary op v).run P w = .ok r w ∧ VRel S μ x r := by
  cases op <;> cases p <;> simp only [unOp, bitsOp, Option.map_some, reduceCtorEq, Option.some.injEq] at h
  all_goals
    subst h
    simp only [VRel] at hv
    subst hv
    exact ⟨_, rfl, by simp [VRel]⟩
set_option maxHeartbeats 1000000 in
theorem op_good {o : Oper} {op : Op} {slot : Option Nat} {base kept : Nat} (hc : cOp P S I slot o = some op) (he : op.eval base kept fr h = some (x, h')) (F : FRel S μ N fr a.tmps) (H : HRel S B μ h w) :
    Good S B μ ((execOp a.eval o).run P w) x h' w := by
  unfold cOp at hc
  unfold execOp
  cases ho : o.op <;> simp only [ho] at hc ⊢ <;> first
    | cases hc
    | skip
  case move y =>
    simp only [Option.map_eq_some_iff] at hc
    obtain ⟨y', hy, rfl⟩ := hc
    simp only [Op.eval, Option.some.injEq, Prod.mk.injEq] at he
    obtain ⟨rfl, rfl⟩ := he
    exact Good.pure rfl H (cOpd_rel F hy)
  case assign y =>
    simp only [Option.map_eq_some_iff] at hc
    obtain ⟨y', hy, rfl⟩ := hc
    simp only [Op.eval, Option.some.injEq, Prod.mk.injEq] at he
    obtain ⟨rfl, rfl⟩ := he
    exact Good.pure rfl H (cOpd_rel F hy)
  case pick c y z =>
    simp only [Option.bind_eq_some_iff, Option.map_eq_some_iff] at hc
    obtain ⟨c', hc', y', hy, z', hz, rfl⟩ := hc
    simp only [Op.eval] at he
    have hr := cOpd_rel F hc'
    cases hb : c'.ev fr <;> simp only [hb] at he <;> first
      | cases he
      | skip
    rename_i b
    rw [hb] at hr
    have hb' := hr.of_bool
    refine Good.pure (v := if b then a.eval y else a.eval z) (by simp [hb', asBool]) H ?_
    cases b
    · exact cOpd_rel F hz
    · exact cOpd_rel F hy
  case alloc t =>
    simp only [Option.bind_eq_some_iff, Option.map_eq_some_iff] at hc
    obtain ⟨i, hi, z, hz, z', hz', rfl⟩ := hc
    simp only [Op.eval, Opd.ev] at he
    refine box_good H (cZero_rel hz') he (el := t) ?_
    simp [Instr.alloc, zeroValue, Go.typeInfo, hi, hz, newVar, newRow]
  case box t y =>
    simp only [Option.map_eq_some_iff] at hc
    obtain ⟨y', hy, rfl⟩ := hc
    simp only [Op.eval] at he
    refine box_good H (cOpd_rel F hy) he (el := t) ?_
    simp [Instr.box, newVar, newRow]
  case build t parts =>
    simp only [Option.bind_eq_some_iff] at hc
    obtain ⟨i, hi, z, hz, zc, hzc, hc⟩ := hc
    cases hu : P.underlying t with
    | none => simp [hu] at hc
    | some d =>
      rw [hu] at hc
      cases d <;> simp only [Option.bind_eq_some_iff, Option.map_eq_some_iff, reduceCtorEq] at hc
      · obtain ⟨ie, hie, ps, hps, rfl⟩ := hc
        simp only [Op.eval, Option.map_eq_some_iff, Prod.mk.injEq] at he
        obtain ⟨ys, hys, rfl, rfl⟩ := he
        exact build_good F H hzc hps (fun ps us hf => by simpa [Program.built, hi, hu, hz, hie] using hf) hys
      · obtain ⟨pl, hpl, ps, hps, rfl⟩ := hc
        simp only [Op.eval, Option.map_eq_some_iff, Prod.mk.injEq] at he
        obtain ⟨ys, hys, rfl, rfl⟩ := he
        unfold fieldPlaces at hpl
        exact build_good F H hzc hps (fun ps us hf => by simp only [Program.built, hi, hu, hz, hpl]; exact hf) hys
  case buildSlice t n parts =>
    cases hu : P.underlying t with
    | none => simp [hu] at hc
    | some d =>
      rw [hu] at hc
      cases d <;> simp only [Option.bind_eq_some_iff, reduceCtorEq] at hc
      obtain ⟨ie, hie, z, hz, zc, hzc, hc⟩ := hc
      split at hc
      case isFalse => cases hc
      rename_i hcond
      simp only [Option.map_eq_some_iff] at hc
      obtain ⟨ps, hps, rfl⟩ := hc
      exact buildSlice_good F H hu hie hz hzc hcond.1 hcond.2.1 hcond.2.2 hps he
  case load t y =>
    simp only [Option.bind_eq_some_iff, Option.map_eq_some_iff] at hc
    obtain ⟨d, hd, i, hi, y', hy, rfl⟩ := hc
    have hr := cOpd_rel F hy
    have he : (Op.load (isAggD d) (if isAggD d then i.size else 1) y').eval base kept fr h = some (x, h') := by
      cases slot with
      | none => exact he
      | some t =>
        simp only [Op.eval] at he ⊢
        split at he
        · exact he
        · cases he
    simp only [Op.eval] at he
    cases hp : y'.ev fr <;> simp only [hp] at he <;> first
      | cases he
      | skip
    rename_i k off
    rw [hp] at hr
    simp only [VRel] at hr
    obtain ⟨p, hp', hv⟩ := hr
    simp only [Option.map_eq_some_iff, Prod.mk.injEq] at he
    obtain ⟨v, hl, rfl, rfl⟩ := he
    obtain ⟨u, h1, h2⟩ := load_rel H hd hi rfl (fun h => by simp [h]) hl hp'
    exact Good.pure (v := u) (by simp [Instr.loadAt, hv, Instr.sureAddr, h1]) H h2
  case store t y z =>
    simp only [Option.bind_eq_some_iff, Option.map_eq_some_iff] at hc
    obtain ⟨i, hi, y', hy, z', hz, rfl⟩ := hc
    have hr := cOpd_rel F hy
    have he : (Op.store i.size y' z').eval base kept fr h = some (x, h') := by
      cases slot with
      | none => exact he
      | some t =>
        simp only [Op.eval] at he ⊢
        split at he
        · exact he
        · cases he
    simp only [Op.eval] at he
    cases hp : y'.ev fr <;> simp only [hp] at he <;> first
      | cases he
      | skip
    rename_i k off
    rw [hp] at hr
    simp only [VRel] at hr
    obtain ⟨p, hp', hv⟩ := hr
    split at he
    case isFalse => cases he
    rename_i hlen
    simp only [Option.map_eq_some_iff, Prod.mk.injEq] at he
    obtain ⟨h2, hst, rfl, rfl⟩ := he
    have hone : (z'.ev fr).cells.all Val.one = true := by
      unfold Heap.store at hst
      cases hb : h.get k with
      | none => simp [hb] at hst
      | some b =>
        simp only [hb] at hst
        split at hst
        · rename_i hcc; exact hcc.2.2.2
        · cases hst
    have hcells := (cOpd_rel F hz).cells hone
    obtain ⟨w', g1, g2, g3⟩ := store_rel (P := P) H hst hp' hcells
    have hsz : (a.eval z).cells.size = i.size := by have := hcells.length; simp at this; omega
    refine ⟨μ, w', .inr ⟨?_, rfl⟩, Ext.refl _, g2, g3⟩
    simp [Instr.storeAt, hv, Instr.sureAddr, storeVar, Go.sizeOf, Go.typeInfo, hi, hsz, g1]
  case nilCheck y =>
    simp only [Option.map_eq_some_iff] at hc
    obtain ⟨y', hy, rfl⟩ := hc
    have hr := cOpd_rel F hy
    simp only [Op.eval] at he
    cases hp : y'.ev fr <;> simp only [hp] at he <;> first
      | cases he
      | skip
    all_goals
      rw [hp] at hr
      have hr' := hr
      simp only [VRel] at hr
    · obtain ⟨p, hp', hv⟩ := hr
      rw [hv] at hr' ⊢
      exact Good.pure rfl H hr'
    · obtain ⟨cs, hv, _⟩ := hr
      rw [hv] at hr' ⊢
      exact Good.pure rfl H hr'
    · obtain ⟨cs, hv, _⟩ := hr
      rw [hv] at hr' ⊢
      exact Good.pure rfl H hr'
  case binOp op t y z zt =>
    simp only [Option.bind_eq_some_iff, Option.map_eq_some_iff] at hc
    obtain ⟨k, hk, y', hy, z', hz, rfl⟩ := hc
    simp only [Op.eval, Option.map_eq_some_iff, Prod.mk.injEq] at he
    obtain ⟨v, hv, rfl, rfl⟩ := he
    obtain ⟨r, h1, h2⟩ := binOp_run (P := P) (w := w) (xo := y) hk hv (cOpd_rel F hy) (cOpd_rel F hz)
    refine Good.pure (v := r) ?_ H h2
    simp only [Sem.run_bind] at h1 ⊢
    rw [h1]
    rfl
  case unOp op t y =>
    simp only [Option.map_eq_some_iff] at hc
    obtain ⟨y', hy, rfl⟩ := hc
    have hr := cOpd_rel F hy
    simp only [Op.eval, Option.map_eq_some_iff, Prod.mk.injEq] at he
    obtain ⟨v, hv, rfl, rfl⟩ := he
    obtain ⟨r, h1, h2⟩ := un_run (P := P) (w := w) hv hr
    exact Good.pure (v := r) (by simp [h1]) H h2
  case convert src dst y =>
    have conv : ∀ (d : TypeDesc) (k : IntKind), P.underlying src = some d → P.underlying dst = some (.int k) → (cOpd S I y).map (fun x => Op.conv k x) = some op → Good S B μ ((do pure (Next.value (← convert src dst (a.eval y))) : Sem Next).run P w) x h' w := by
      intro d k hs hd hc
      simp only [Option.map_eq_some_iff] at hc
      obtain ⟨y', hy, rfl⟩ := hc
      have hr := cOpd_rel F hy
      simp only [Op.eval] at he
      cases hp : y'.ev fr <;> simp only [hp] at he <;> first
        | cases he
        | skip
      rw [hp] at hr
      have hv := hr.of_int
      refine Good.pure (v := .int k (k.wrap _)) ?_ H (by simp [VRel]; rfl)
      rw [hv]
      simp [convert, run_underlying hs, run_underlying hd, Conv.intToInt]
    cases hs : P.underlying src with
    | none => simp [hs] at hc
    | some ds =>
      cases hd : P.underlying dst with
      | none => simp [hs, hd] at hc
      | some dd =>
        rw [hs, hd] at hc
        cases dd <;> (try (cases ds <;> simp only [reduceCtorEq] at hc; done))
        · exact conv _ _ hs hd (by simpa using hc)
        · cases ds <;> simp only [reduceCtorEq] at hc
          rename_i e
          cases hue : P.underlying e with
          | none => simp [hue] at hc
          | some de =>
            rw [hue] at hc
            cases de <;> (try simp only [reduceCtorEq] at hc)
            rename_i k
            cases k <;> simp only [reduceCtorEq, Option.map_eq_some_iff] at hc
            obtain ⟨y', hy, rfl⟩ := hc
            have hr := cOpd_rel F hy
            simp only [Op.eval] at he
            cases hp : y'.ev fr <;> simp only [hp] at he <;> first
              | cases he
              | skip
            · rw [hp] at hr
              simp only [VRel] at hr
              refine Good.pure (v := .string .empty) ?_ H (by simp [VRel]; rfl)
              rw [hr]
              simp [convert, run_underlying hs, run_underlying hd, run_underlying hue, Conv.bytesToString]
            · rename_i k o n c
              rw [hp] at hr
              cases hsp : spread h 1 (.slice k o n c) with
              | none => simp [hsp] at he
              | some nc =>
                obtain ⟨m, cs⟩ := nc
                simp only [hsp, Option.map_eq_some_iff, Prod.mk.injEq] at he
                obtain ⟨s, hs', rfl, rfl⟩ := he
                obtain ⟨vs, g1, g2, g3, g4⟩ := spread_run (P := P) H hr hsp
                obtain ⟨p, ad, cap, _, hv, _⟩ := slice_at hr
                obtain ⟨ns, rfl, hns⟩ := asBytes_rel hs' g2
                have hmn : m = n := by
                  simp only [hv, Builtin.lenOf, Sem.run_pure, Result.ok.injEq] at g3
                  exact g3.1.symm
                subst hmn
                have hl := g4 w fun _ => rfl
                rw [hv] at hl
                simp only [Builtin.firstCells, Nat.mul_one] at hl
                have := run_bytesToString (P := P) w ad m cap ns hl
                rw [foldl_push, hns] at this
                refine Good.pure (v := .string ⟨(ByteArray.empty.data ++ s.toArray)⟩) ?_ H (by simp [VRel])
                rw [hv]
                simp [run_convert_bytes_string w src dst e (some ad) m cap hs hue hd, this]
        · cases ds <;> simp only [reduceCtorEq] at hc
          rename_i e
          cases hue : P.underlying e with
          | none => simp [hue] at hc
          | some de =>
            rw [hue] at hc
            cases de <;> (try simp only [reduceCtorEq] at hc)
            rename_i k
            cases k <;> simp only [reduceCtorEq, Option.map_eq_some_iff] at hc
            obtain ⟨y', hy, rfl⟩ := hc
            have hr := cOpd_rel F hy
            simp only [Op.eval] at he
            cases hp : y'.ev fr <;> simp only [hp] at he <;> first
              | cases he
              | skip
            rename_i s
            rw [hp] at hr
            have hv := hr.of_str
            split at he
            case isFalse => cases he
            simp only [Option.map_eq_some_iff, Prod.mk.injEq] at he
            obtain ⟨⟨k, h2⟩, hl, rfl, rfl⟩ := he
            have hrun := run_bytes_of_string (P := P) w src dst e ⟨s.toArray⟩ hs hd hue
            have HD : HRel S B μ h w.drew := H.later (Nat.le_refl _) fun i _ => rfl
            have hsz : (⟨s.toArray⟩ : ByteArray).size = s.length := by simp [ByteArray.size]
            have hrow : (bytesRow ⟨s.toArray⟩ (grownCap w (⟨s.toArray⟩ : ByteArray).size 0 e)).size = grownCap w s.length 0 e := by
              have := grownCap_le w (need := s.length) (old := 0) (e := e)
              simp only [bytesRow, Array.size_append, Array.size_map, Array.size_replicate, hsz]
              simp only [List.size_toArray]
              omega
            refine new_good (w1 := w.drew) (v := .slice (some ⟨w.heap.size, 0, none⟩) s.length (grownCap w s.length 0 e)) (arr := bytesRow ⟨s.toArray⟩ (grownCap w (⟨s.toArray⟩ : ByteArray).size 0 e)) (el := e) (hi := (bytesRow ⟨s.toArray⟩ (grownCap w (⟨s.toArray⟩ : ByteArray).size 0 e)).size + 1) HD hl ?_ (.inl (Nat.le_refl _)) (fun i c hc => ?_) ((Below.refl B w).drew) ?_ ?_
            · rw [hrow]
              have := grownCap_le w (need := s.length) (old := 0) (e := e)
              simpa [ofBytes] using this
            · simp only [ofBytes, List.getElem?_map, Option.map_eq_some_iff] at hc
              obtain ⟨b, hb, rfl⟩ := hc
              have hlt := (List.getElem?_eq_some_iff.1 hb).1
              refine ⟨_, bytesRow_at ⟨s.toArray⟩ _ i (by simpa using hlt), ?_⟩
              have : s[i] = b := (List.getElem?_eq_some_iff.1 hb).2
              simp [VRel, this]
            · rw [hv]
              simp [hrun, hsz]
            · simp only [VRel]
              have := grownCap_le w (need := s.length) (old := 0) (e := e)
              refine ⟨_, _, _, by simp [Place.at]; rfl, rfl, this, .inr ⟨by simp, ?_⟩⟩
              simp only [hrow]
              omega
  case makeInterface t y =>
    simp only [Option.bind_eq_some_iff] at hc
    obtain ⟨d, hd, hc⟩ := hc
    split at hc
    case isFalse => cases hc
    rename_i hcc
    simp only [Option.map_eq_some_iff] at hc
    obtain ⟨y', hy, rfl⟩ := hc
    simp only [Op.eval, Option.some.injEq, Prod.mk.injEq] at he
    obtain ⟨rfl, rfl⟩ := he
    have hcon : P.concrete t = true := by
      unfold Program.concrete
      rw [hd]
      cases d <;> first | rfl | simp [notIface] at hcc
    refine Good.pure (v := .iface t (a.eval y)) (by simp [run_makeInterface w t _ hcon]) H ?_
    simp only [VRel, hcc.2]
    exact ⟨_, rfl, cOpd_rel F hy⟩
  case makeFunc fn first captured =>
    cases fn <;> simp only [reduceCtorEq] at hc
    rename_i f
    split at hc
    case isFalse => cases hc
    rename_i hcc
    simp only [Option.map_eq_some_iff] at hc
    obtain ⟨cs, hcs, rfl⟩ := hc
    simp only [Op.eval, Option.some.injEq, Prod.mk.injEq] at he
    obtain ⟨rfl, rfl⟩ := he
    have hf : first = #[] := Array.eq_empty_of_size_eq_zero hcc.2
    subst hf
    refine Good.pure (v := .func (.func f) #[] (captured.map a.eval)) (by simp [Instr.makeFunc]) H ?_
    simp only [VRel, hcc.1]
    exact ⟨_, rfl, by simpa using cOpds_rel F hcs⟩
  case makeSlice t l c =>
    cases hu : P.underlying t with
    | none => simp [hu] at hc
    | some d =>
      rw [hu] at hc
      cases d <;> simp only [Option.bind_eq_some_iff, reduceCtorEq] at hc
      rename_i e
      obtain ⟨ie, hie, z, hz, zc, hzc, hc⟩ := hc
      split at hc
      case isFalse => cases hc
      rename_i hcc
      simp only [Option.bind_eq_some_iff, Option.map_eq_some_iff] at hc
      obtain ⟨l', hl', c', hc', rfl⟩ := hc
      have hrl := cOpd_rel F hl'
      have hrc := cOpd_rel F hc'
      simp only [Op.eval] at he
      cases hp : l'.ev fr <;> simp only [hp, reduceCtorEq] at he
      rename_i k1 n1
      cases hq : c'.ev fr <;> (try simp only [hq, reduceCtorEq] at he)
      rename_i k2 n2
      cases k1 <;> (try simp only [reduceCtorEq] at he)
      cases k2 <;> (try simp only [reduceCtorEq] at he)
      rw [hp] at hrl
      rw [hq] at hrc
      have hvl := hrl.of_int
      have hvc := hrc.of_int
      split at he
      case isFalse => cases he
      rename_i hcond
      obtain ⟨h0, hlc, hroom, hb1, hone⟩ := hcond
      simp only [Option.map_eq_some_iff, Prod.mk.injEq] at he
      obtain ⟨⟨k, h2⟩, hlay, rfl, rfl⟩ := he
      have hzr := cCells_rel (S := S) (μ := μ) hzc
      have hall := zeros_rel (n := n2.toNat) hzr hcc.1 hcc.2
      unfold maxRoom at hroom
      have hn2 : n2 ≤ 35184372088832 := by
        have h1 : n2 * 1 ≤ n2 * (ie.bytes : Int) := Int.mul_le_mul_of_nonneg_left (by omega) (by omega)
        omega
      have hrun := run_make (P := P) w t e ie z hu hie hz .i64 .i64 n1 n2 h0 hlc (by rw [Int.mul_comm]; omega) (by omega)
      refine new_good (v := .slice (some ⟨w.heap.size, 0, none⟩) n1.toNat n2.toNat) (arr := madeCells z.cells (n2.toNat * ie.size)) (el := e) H hlay ?_ (.inr (Nat.le_refl 0)) (fun i c hci => ?_) (Below.refl _ _) ?_ ?_
      · have := hall.length
        simp only [Array.length_toList] at this
        exact Nat.le_of_eq this.symm
      · exact arr_get hall i c hci
      · rw [hvl, hvc]
        simp [hrun]
      · simp only [VRel]
        exact ⟨_, _, by simp [Place.at]; rfl, rfl, by omega, .inr (by simp)⟩
  case slice t y lo hi mx =>
    cases hu : P.underlying t with
    | none => simp [hu] at hc
    | some d =>
      rw [hu] at hc
      cases d <;> simp only [Option.bind_eq_some_iff, Option.map_eq_some_iff, reduceCtorEq] at hc
      · split at hc
        · cases hc
        rename_i hmx
        simp only [Option.bind_eq_some_iff, Option.map_eq_some_iff] at hc
        obtain ⟨y', hy, lo', hlo, hi', hhi, rfl⟩ := hc
        have hmx' : mx = none := by cases mx <;> simp_all
        subst hmx'
        have hr := cOpd_rel F hy
        simp only [Op.eval] at he
        cases hp : y'.ev fr <;> simp only [hp, reduceCtorEq] at he
        rename_i s
        rw [hp] at hr
        have hv := hr.of_str
        cases hbl : boundOpt fr lo' with
        | none => simp [hbl] at he
        | some l =>
          cases hbh : boundOpt fr hi' with
          | none => simp [hbl, hbh] at he
          | some hh =>
            simp only [hbl, hbh] at he
            split at he
            case isFalse => cases he
            rename_i hcond
            simp only [Option.some.injEq, Prod.mk.injEq] at he
            obtain ⟨rfl, rfl⟩ := he
            have hsz : (⟨s.toArray⟩ : ByteArray).size = s.length := by simp [ByteArray.size]
            have hb := bounds_run (P := P) (w := w) (isS := false) (len := s.length) (cap := s.length) (m := none) (cOpt_rel F hlo hbl) (cOpt_rel F hhi hbh) (mx := none) trivial (.inl rfl) (Nat.le_refl _) hcond.2 hcond.1
            refine Good.pure (v := .string ((⟨s.toArray⟩ : ByteArray).extract (l.getD 0) (hh.getD s.length))) ?_ H ?_
            · rw [hv]
              simp [Instr.sliceAt, run_underlying hu, Instr.slice, hsz, hb]
            · simp only [VRel]
              rw [Lib.extract_eq]
              congr 2
              simp [List.drop_take]
      · rename_i e
        obtain ⟨ie, hie, y', hy, lo', hlo, hi', hhi, mx', hmx, rfl⟩ := hc
        have hr := cOpd_rel F hy
        simp only [Op.eval] at he
        cases hbl : boundOpt fr lo' with
        | none => simp [hbl] at he
        | some l =>
          cases hbh : boundOpt fr hi' with
          | none => simp [hbl, hbh] at he
          | some hh =>
            cases hbm : boundOpt fr mx' with
            | none => simp [hbl, hbh, hbm] at he
            | some m =>
              simp only [hbl, hbh, hbm] at he
              split at he
              case isFalse => cases he
              rename_i hok
              simp only [Option.map_eq_some_iff, Prod.mk.injEq] at he
              obtain ⟨v, hv, rfl, rfl⟩ := he
              obtain ⟨r, h1, h2⟩ := slc_good (P := P) H hu hie hr (cOpt_rel F hlo hbl) (cOpt_rel F hhi hbh) (cOpt_rel F hmx hbm) hok hv
              exact Good.pure (v := r) (by simp [h1]) H h2
  case fieldAddr t y f =>
    cases hu : P.underlying t with
    | none => simp [hu] at hc
    | some d =>
      rw [hu] at hc
      cases d <;> simp only [Option.bind_eq_some_iff, reduceCtorEq] at hc
      rename_i fs
      obtain ⟨fd, hfd, i, hi, hc⟩ := hc
      split at hc
      · cases hc
      rename_i hsz
      simp only [Option.map_eq_some_iff] at hc
      obtain ⟨y', hy, rfl⟩ := hc
      have hr := cOpd_rel F hy
      simp only [Op.eval] at he
      cases hp : y'.ev fr <;> simp only [hp, reduceCtorEq, Option.some.injEq, Prod.mk.injEq] at he
      obtain ⟨rfl, rfl⟩ := he
      rw [hp] at hr
      simp only [VRel] at hr
      obtain ⟨p, hp', hv⟩ := hr
      refine Good.pure (v := .pointer (some ⟨p.blk, p.off + (_ + fd.offset), none⟩)) ?_ H (by simp only [VRel]; exact ⟨p, hp', rfl⟩)
      rw [hv]
      simp [Instr.fieldAt, run_underlying hu, hfd, Instr.sureAddr, fieldPlace, Go.sizeOf, Go.typeInfo, hi, hsz, add_off, Nat.add_assoc]
  case field t y f =>
    cases hu : P.underlying t with
    | none => simp [hu] at hc
    | some d =>
      rw [hu] at hc
      cases d <;> simp only [Option.bind_eq_some_iff, Option.map_eq_some_iff, reduceCtorEq] at hc
      rename_i fs
      obtain ⟨fd, hfd, i, hi, df, hdf, y', hy, rfl⟩ := hc
      have hr := cOpd_rel F hy
      simp only [Op.eval] at he
      generalize hn : (if isAggD df = true then i.size else 1) = n at he
      cases hp : y'.ev fr <;> simp only [hp, reduceCtorEq] at he
      split at he
      case isFalse => cases he
      rename_i hle
      simp only [Option.map_eq_some_iff, Prod.mk.injEq] at he
      obtain ⟨v, hv, rfl, rfl⟩ := he
      rw [hp] at hr
      simp only [VRel] at hr
      obtain ⟨vs, hvs, hrel⟩ := hr
      obtain ⟨r, h1, h2⟩ := field_rel (P := P) (w := w) hdf hi hn.symm hv hle hrel
      refine Good.pure (v := r) ?_ H h2
      rw [hvs]
      simp [Instr.field, run_underlying hu, hfd, asAgg, h1]
  case indexAddr t y z =>
    cases hu : P.underlying t with
    | none => simp [hu] at hc
    | some d =>
      rw [hu] at hc
      cases d <;> simp only [Option.bind_eq_some_iff, Option.map_eq_some_iff, reduceCtorEq] at hc
      · rename_i e
        obtain ⟨ie, hie, y', hy, z', hz, rfl⟩ := hc
        have hr := cOpd_rel F hy
        have hrz := cOpd_rel F hz
        simp only [Op.eval] at he
        cases hp : y'.ev fr <;> simp only [hp, reduceCtorEq] at he
        cases hq : z'.ev fr <;> simp only [hq, reduceCtorEq] at he
        split at he
        case isFalse => cases he
        rename_i hcond
        simp only [Option.some.injEq, Prod.mk.injEq] at he
        obtain ⟨rfl, rfl⟩ := he
        rw [hp] at hr
        rw [hq] at hrz
        have hz' := hrz.of_int
        obtain ⟨p, ad, cap, hp', hv, hnc, had⟩ := slice_at hr
        have hadx : ad = ⟨p.blk, p.off + _, none⟩ := had.resolve_left (by omega)
        refine Good.pure (v := .pointer (some ⟨p.blk, p.off + (_ + _ * ie.size), none⟩)) ?_ H (by simp only [VRel]; exact ⟨p, hp', rfl⟩)
        rw [hv, hz', hadx]
        simp [Instr.indexAt, asIntOf, run_underlying hu, hcond, Go.sizeOf, Go.typeInfo, hie, add_off, Nat.add_assoc]
      · rename_i n e
        obtain ⟨ie, hie, y', hy, z', hz, rfl⟩ := hc
        have hr := cOpd_rel F hy
        have hrz := cOpd_rel F hz
        simp only [Op.eval] at he
        cases hp : y'.ev fr <;> simp only [hp, reduceCtorEq] at he
        cases hq : z'.ev fr <;> simp only [hq, reduceCtorEq] at he
        split at he
        case isFalse => cases he
        rename_i hcond
        simp only [Option.some.injEq, Prod.mk.injEq] at he
        obtain ⟨rfl, rfl⟩ := he
        rw [hp] at hr
        rw [hq] at hrz
        have hz' := hrz.of_int
        simp only [VRel] at hr
        obtain ⟨p, hp', hv⟩ := hr
        refine Good.pure (v := .pointer (some ⟨p.blk, p.off + (_ + _ * ie.size), none⟩)) ?_ H (by simp only [VRel]; exact ⟨p, hp', rfl⟩)
        rw [hv, hz']
        simp [Instr.indexAt, asIntOf, Instr.sureAddr, run_underlying hu, hcond, Go.sizeOf, Go.typeInfo, hie, add_off, Nat.add_assoc]
  case index t y z =>
    cases hu : P.underlying t with
    | none => simp [hu] at hc
    | some d =>
      rw [hu] at hc
      cases d <;> simp only [Option.bind_eq_some_iff, Option.map_eq_some_iff, reduceCtorEq] at hc
      · obtain ⟨y', hy, z', hz, rfl⟩ := hc
        have hr := cOpd_rel F hy
        have hrz := cOpd_rel F hz
        simp only [Op.eval] at he
        cases hp : y'.ev fr <;> simp only [hp, reduceCtorEq] at he
        rename_i s
        cases hq : z'.ev fr <;> simp only [hq, reduceCtorEq] at he
        rename_i k j
        split at he
        case isFalse => cases he
        rename_i hcond
        simp only [Option.map_eq_some_iff, Prod.mk.injEq] at he
        obtain ⟨b, hb, rfl, rfl⟩ := he
        rw [hp] at hr
        rw [hq] at hrz
        have hv := hr.of_str
        have hz' := hrz.of_int
        have hlt : j.toNat < s.length := (List.getElem?_eq_some_iff.1 hb).1
        have hsb : s[j.toNat] = b := (List.getElem?_eq_some_iff.1 hb).2
        refine Good.pure (v := .int .u8 b.toNat) ?_ H (by simp [VRel])
        rw [hv, hz']
        have h2 : 0 ≤ j ∧ j < ((⟨s.toArray⟩ : ByteArray).size : Int) := by
          simp only [ByteArray.size, List.size_toArray]
          omega
        have h3 : ((⟨s.toArray⟩ : ByteArray)[j.toNat]'(by simp only [ByteArray.size, List.size_toArray]; exact hlt)) = b := by
          rw [← hsb]
          rfl
        simp [run_index_string w t _ _ _ hu, h2, h3]
      · rename_i n e
        obtain ⟨ie, hie, d, hd, hc⟩ := hc
        split at hc
        case isFalse => cases hc
        rename_i hagg
        simp only [Option.bind_eq_some_iff, Option.map_eq_some_iff] at hc
        obtain ⟨y', hy, z', hz, rfl⟩ := hc
        have hr := cOpd_rel F hy
        have hrz := cOpd_rel F hz
        simp only [Op.eval] at he
        cases hp : y'.ev fr <;> simp only [hp, reduceCtorEq] at he
        cases hq : z'.ev fr <;> simp only [hq, reduceCtorEq] at he
        split at he
        case isFalse => cases he
        rename_i hcond
        simp only [Option.map_eq_some_iff, Prod.mk.injEq] at he
        obtain ⟨v, hv, rfl, rfl⟩ := he
        rw [hp] at hr
        rw [hq] at hrz
        have hz' := hrz.of_int
        simp only [VRel] at hr
        obtain ⟨vs, hvs, hrel⟩ := hr
        have hn : ie.size = if isAggD d = true then ie.size else 1 := by
          split
          · rfl
          · rename_i hx; exact hagg.resolve_left hx
        obtain ⟨r, h1, h2⟩ := field_rel (P := P) (w := w) hd hie hn hv hcond.2.2 hrel
        refine Good.pure (v := r) ?_ H h2
        rw [hvs, hz']
        simp [Instr.index, asIntOf, run_underlying hu, hcond.1, hcond.2.1, Go.sizeOf, Go.typeInfo, hie, h1]
  case typeAssert y yt t ok =>
    simp only [Option.bind_eq_some_iff] at hc
    obtain ⟨d, hd, i, hi, z, hz, zv, hzv, hc⟩ := hc
    split at hc
    case isFalse => cases hc
    rename_i hcc
    simp only [Option.map_eq_some_iff] at hc
    obtain ⟨y', hy, rfl⟩ := hc
    have hr := cOpd_rel F hy
    simp only [Op.eval] at he
    cases hp : y'.ev fr <;> simp only [hp, reduceCtorEq] at he
    · rename_i u v
      rw [hp] at hr
      simp only [VRel] at hr
      obtain ⟨v', hv', hrel⟩ := hr
      split at he
      · rename_i hut
        simp only [Option.some.injEq, Prod.mk.injEq] at he
        obtain ⟨rfl, rfl⟩ := he
        have e : S.ty u = t := by rw [hut]; exact hcc.2
        refine Good.pure (v := if ok then .tuple #[v', .bool true] else v') ?_ H ?_
        · rw [hv']
          cases d <;> first
            | (simp [notIface] at hcc; done)
            | (cases ok <;> simp [Instr.typeAssert, run_underlying hd, e])
        · cases ok
          · exact hrel
          · simp only [if_true, VRel]
            exact ⟨_, rfl, by simpa [VRels, VRel] using hrel⟩
      · rename_i hut
        split at he
        case isFalse => cases he
        rename_i hok
        simp only [Option.some.injEq, Prod.mk.injEq] at he
        obtain ⟨rfl, rfl⟩ := he
        have e : ¬ S.ty u = t := fun h => hut (S.inj _ _ (by rw [h, hcc.2]))
        refine Good.pure (v := .tuple #[z, .bool false]) ?_ H ?_
        · rw [hv']
          cases d <;> first
            | (simp [notIface] at hcc; done)
            | simp [Instr.typeAssert, run_underlying hd, e, hok, zeroValue, Go.typeInfo, hi, hz]
        · simp only [VRel]
          exact ⟨_, rfl, by simpa [VRels, VRel] using cZero_rel hzv⟩
    · split at he
      case isFalse => cases he
      rename_i hok
      simp only [Option.some.injEq, Prod.mk.injEq] at he
      obtain ⟨rfl, rfl⟩ := he
      rw [hp] at hr
      simp only [VRel] at hr
      refine Good.pure (v := .tuple #[z, .bool false]) ?_ H ?_
      · rw [hr]
        cases d <;> first
          | (simp [notIface] at hcc; done)
          | simp [Instr.typeAssert, run_underlying hd, hok, zeroValue, Go.typeInfo, hi, hz]
      · simp only [VRel]
        exact ⟨_, rfl, by simpa [VRels, VRel] using cZero_rel hzv⟩
  case extract y i =>
    simp only [Option.map_eq_some_iff] at hc
    obtain ⟨y', hy, rfl⟩ := hc
    have hr := cOpd_rel F hy
    simp only [Op.eval] at he
    cases hp : y'.ev fr <;> simp only [hp, reduceCtorEq, Option.map_eq_some_iff, Prod.mk.injEq] at he
    obtain ⟨v, hv, rfl, rfl⟩ := he
    rw [hp] at hr
    simp only [VRel] at hr
    obtain ⟨vs, hvs, hrel⟩ := hr
    obtain ⟨u, h1, h2⟩ := arr_get hrel _ _ hv
    refine Good.pure (v := u) ?_ H h2
    rw [hvs]
    simp [Instr.extract, h1]
  case call c =>
    cases hcal : c.callee with
    | value f => simp [hcal] at hc
    | invoke r m => simp [hcal] at hc
    | builtin b =>
      rw [hcal] at hc
      simp only [resolve, hcal, Sem.run_bind, Sem.run_pure, Result.andThen_ok]
      cases b <;> simp only [reduceCtorEq] at hc
      case len =>
        cases hargs : c.args.toList with
        | nil => simp [hargs] at hc
        | cons y l =>
          cases l with
          | cons _ _ => simp [hargs] at hc
          | nil =>
            rw [hargs] at hc
            cases ht : c.argTypes[0]? with
            | none => simp [ht] at hc
            | some t =>
              have hc2 : ∃ y' d, cOpd S I y = some y' ∧ P.underlying t = some d ∧ ((d = .string ∧ op = .len true y') ∨ ((∃ e, d = .slice e) ∧ op = .len false y')) := by
                simp only [ht] at hc
                cases hu : P.underlying t with
                | none => simp [hu] at hc
                | some d =>
                  rw [hu] at hc
                  cases d <;> simp only [reduceCtorEq, Option.map_eq_some_iff] at hc
                  · obtain ⟨y', hy, rfl⟩ := hc; exact ⟨y', _, hy, rfl, .inl ⟨rfl, rfl⟩⟩
                  · obtain ⟨y', hy, rfl⟩ := hc; exact ⟨y', _, hy, rfl, .inr ⟨⟨_, rfl⟩, rfl⟩⟩
              obtain ⟨y', d, hy, hu, hd⟩ := hc2
              have hca : c.args = #[y] := by
                apply Array.ext'
                simpa using hargs
              have hr := cOpd_rel F hy
              simp only [invoke, builtin, hca]
              have run : ∀ (n : Nat), x = .int .i64 n → h' = h → (Builtin.len_ c.argTypes o.type #[a.eval y]).run P w = .ok (goInt n) w → Good S B μ ((do pure (Next.value (← Builtin.len_ c.argTypes o.type (#[y].map a.eval))) : Sem Next).run P w) x h' w := by
                rintro n rfl rfl hrun
                refine Good.pure (v := goInt n) ?_ H (by simp [VRel, goInt])
                simp [hrun]
              rcases hd with ⟨rfl, rfl⟩ | ⟨⟨e, rfl⟩, rfl⟩
              · simp only [Op.eval] at he
                cases hp : y'.ev fr <;> simp only [hp, reduceCtorEq, Option.some.injEq, Prod.mk.injEq] at he
                obtain ⟨rfl, rfl⟩ := he
                rw [hp] at hr
                have hv := hr.of_str
                rename_i s
                have hsz : (⟨s.toArray⟩ : ByteArray).size = s.length := by simp [ByteArray.size]
                refine run s.length rfl rfl ?_
                rw [hv]
                simp [Builtin.len_, ht, run_underlying hu, hsz]
              · simp only [Op.eval] at he
                cases hp : y'.ev fr <;> simp only [hp, reduceCtorEq, Option.some.injEq, Prod.mk.injEq] at he
                · obtain ⟨rfl, rfl⟩ := he
                  rw [hp] at hr
                  simp only [VRel] at hr
                  refine run 0 rfl rfl ?_
                  rw [hr]; simp [Builtin.len_, ht, run_underlying hu]
                · obtain ⟨rfl, rfl⟩ := he
                  rw [hp] at hr
                  obtain ⟨p, ad, cap, _, hv, _⟩ := slice_at hr
                  refine run _ rfl rfl ?_
                  rw [hv]; simp [Builtin.len_, ht, run_underlying hu]
      case append =>
        cases hargs : c.args.toList with
        | nil => simp [hargs] at hc
        | cons y l =>
          cases l with
          | nil => simp [hargs] at hc
          | cons z l =>
            cases l with
            | cons _ _ => simp [hargs] at hc
            | nil =>
              rw [hargs] at hc
              cases ht : c.argTypes[0]? with
              | none => simp [ht] at hc
              | some t =>
                cases ht2 : c.argTypes[1]? with
                | none => simp [ht, ht2] at hc
                | some u =>
                  simp only [ht, ht2] at hc
                  cases hu : P.underlying t with
                  | none => simp [hu] at hc
                  | some dt =>
                    cases hd : P.underlying u with
                    | none => cases dt <;> simp [hu, hd] at hc
                    | some d =>
                      rw [hu, hd] at hc
                      cases dt <;> simp only [reduceCtorEq] at hc
                      rename_i e
                      simp only [Option.bind_eq_some_iff] at hc
                      obtain ⟨ie, hie, q, hq, zv, hz, hc⟩ := hc
                      split at hc
                      · cases hc
                      rename_i hzs
                      simp only [Option.bind_eq_some_iff, Option.map_eq_some_iff] at hc
                      obtain ⟨y', hy, z', hz', rfl⟩ := hc
                      have hca : c.args = #[y, z] := by
                        apply Array.ext'
                        simpa using hargs
                      have hd' : ∀ k, d ≠ .int k := by
                        intro k e
                        subst e
                        simp at hq
                      simp only [Op.eval] at he
                      cases hsp : spread h ie.size (z'.ev fr) with
                      | none => simp [hsp] at he
                      | some nn =>
                        obtain ⟨n, new⟩ := nn
                        simp only [hsp] at he
                        have hg := append_good (P := P) (ty := o.type) H hu hd hd' hie hz (by simpa using hzs) (cOpd_rel F hy) (cOpd_rel F hz') hsp he
                        have hts : ∀ args, Builtin.append_ c.argTypes o.type args = Builtin.append_ #[t, u] o.type args := by
                          intro args
                          unfold Builtin.append_
                          simp [ht, ht2]
                        have hmap : (#[y, z] : Array Operand).map a.eval = #[a.eval y, a.eval z] := by simp
                        simp only [invoke, builtin, hca, hts, hmap]
                        exact hg
      case clear =>
        cases hal : c.args.toList with
        | nil => simp [hal] at hc
        | cons y r =>
          cases r with
          | cons z r => simp [hal] at hc
          | nil =>
            cases ht : c.argTypes[0]? with
            | none => simp [hal, ht] at hc
            | some t =>
              simp only [hal, ht] at hc
              cases hu : P.underlying t with
              | none => simp [hu] at hc
              | some d =>
                rw [hu] at hc
                cases d <;> simp only [Option.bind_eq_some_iff, reduceCtorEq] at hc
                rename_i e
                obtain ⟨ie, hie, z, hz, zc, hzc, hc⟩ := hc
                split at hc
                · cases hc
                rename_i hne
                simp only [Option.map_eq_some_iff] at hc
                obtain ⟨y', hy, rfl⟩ := hc
                have hr := cOpd_rel F hy
                have hca : c.args = #[y] := by apply Array.ext'; simpa using hal
                have hzr := cCells_rel (S := S) (μ := μ) hzc
                have hlen : zc.length = z.cells.size := by have := hzr.length; simp at this; omega
                have hpos : 0 < z.cells.size := by
                  rw [← hlen]
                  exact List.length_pos_iff.2 (by simpa using hne)
                simp only [Op.eval] at he
                cases hp : y'.ev fr <;> simp only [hp, reduceCtorEq] at he
                · simp only [Option.some.injEq, Prod.mk.injEq] at he
                  obtain ⟨rfl, rfl⟩ := he
                  rw [hp] at hr
                  simp only [VRel] at hr
                  refine Good.pure (v := .tuple #[]) ?_ H (by simp [VRel, VRels])
                  simp [hca, hr, invoke, builtin, Builtin.clear_, ht, run_underlying hu]
                · rename_i k o n cc
                  rw [hp] at hr
                  obtain ⟨p, ad, cap, hp', hv, hnc, had⟩ := slice_at hr
                  split at he
                  · rename_i h0
                    subst h0
                    simp only [Option.some.injEq, Prod.mk.injEq] at he
                    obtain ⟨rfl, rfl⟩ := he
                    refine Good.pure (v := .tuple #[]) ?_ H (by simp [VRel, VRels])
                    simp [hca, hv, invoke, builtin, Builtin.clear_, ht, run_underlying hu]
                  · rename_i h0
                    simp only [Option.map_eq_some_iff, Prod.mk.injEq] at he
                    obtain ⟨h2, hst, rfl, rfl⟩ := he
                    have hadx : ad = ⟨p.blk, p.off + o, none⟩ := by
                      rcases had with h1 | h1
                      · omega
                      · exact h1
                    have hall := zeros_rel (n := n) hzr hlen hpos
                    obtain ⟨w', g1, g2, g3⟩ := store_rel (P := P) H hst hp' hall
                    refine ⟨μ, w', .inl ⟨.tuple #[], ?_, by simp [VRel, VRels]⟩, Ext.refl _, g2, g3⟩
                    obtain ⟨m, rfl⟩ : ∃ m, n = m + 1 := ⟨n - 1, by omega⟩
                    simp [hca, hv, invoke, builtin, Builtin.clear_, ht, run_underlying hu, zeroValue, Go.typeInfo, hie, hz, hadx, Builtin.zeroCells] at g1 ⊢
                    simp [g1]
      case max =>
        simp only [Option.map_eq_some_iff] at hc
        obtain ⟨xs, hxs, rfl⟩ := hc
        have hr := cOpds_rel F hxs
        simp only [Op.eval] at he
        cases hm : (xs.map (fun x => x.ev fr) : List Val) with
        | nil => simp [hm] at he
        | cons p r =>
          rw [hm] at he hr
          cases p <;> simp only [reduceCtorEq, Option.map_eq_some_iff, Prod.mk.injEq] at he
          obtain ⟨v, hv, rfl, rfl⟩ := he
          simp only [VRels] at hr
          obtain ⟨v1, l1, hl, h1, h2⟩ := hr
          obtain ⟨u, g1, g2⟩ := minmax_run (P := P) (w := w) h2 hv
          refine Good.pure (v := u) ?_ H g2
          have := h1.of_int
          subst this
          simp only [if_true] at g1
          simp only [invoke, builtin, Builtin.max_, Array.toList_map, hl]
          simp [g1]
      case min =>
        simp only [Option.map_eq_some_iff] at hc
        obtain ⟨xs, hxs, rfl⟩ := hc
        have hr := cOpds_rel F hxs
        simp only [Op.eval] at he
        cases hm : (xs.map (fun x => x.ev fr) : List Val) with
        | nil => simp [hm] at he
        | cons p r =>
          rw [hm] at he hr
          cases p <;> simp only [reduceCtorEq, Option.map_eq_some_iff, Prod.mk.injEq] at he
          obtain ⟨v, hv, rfl, rfl⟩ := he
          simp only [VRels] at hr
          obtain ⟨v1, l1, hl, h1, h2⟩ := hr
          obtain ⟨u, g1, g2⟩ := minmax_run (P := P) (w := w) h2 hv
          refine Good.pure (v := u) ?_ H g2
          have := h1.of_int
          subst this
          simp only [Bool.false_eq_true, if_false] at g1
          simp only [invoke, builtin, Builtin.min_, Array.toList_map, hl]
          simp [g1]
end Gc
end
section
/- Operations of Gc that may change places: two neighbours of a region that have nothing to do with each other come to the same in either order. Nothing of the model stands here. -/
set_option linter.unusedVariables false
namespace Gc
/-! ### What an operation looks at -/
def optOpd : Option Opd → List Opd
  | none => []
  | some x => [x]
def Op.opds : Op → List Opd
  | .mov x => [x]
  | .pick c a b => [c, a, b]
  | .box _ x => [x]
  | .build _ ps => ps.map (·.2.2)
  | .buildSlice _ _ _ _ ps => ps.map (·.2.2)
  | .load _ _ a => [a]
  | .store _ a x => [a, x]
  | .loadVia _ _ a t => [a, .t t]
  | .storeApart _ a x t => [a, x, .t t]
  | .clear _ x => [x]
  | .fail => []
  | .nilchk x => [x]
  | .bin _ _ x y => [x, y]
  | .un _ x => [x]
  | .conv _ x => [x]
  | .toStr x => [x]
  | .toBytes x => [x]
  | .mkIface _ x => [x]
  | .mkFn _ cs => cs
  | .makeSlice _ _ l c => [l, c]
  | .slc _ x lo hi mx => x :: (optOpd lo ++ optOpd hi ++ optOpd mx)
  | .strSlc x lo hi => x :: (optOpd lo ++ optOpd hi)
  | .fieldAddr _ x => [x]
  | .field _ _ _ x => [x]
  | .indexAddr _ x i => [x, i]
  | .indexArrAddr _ _ x i => [x, i]
  | .index _ _ _ x i => [x, i]
  | .strIndex x i => [x, i]
  | .assert _ _ x _ => [x]
  | .extract x _ => [x]
  | .len _ x => [x]
  | .append _ _ _ s x => [s, x]
  | .minmax _ xs => xs
theorem evParts_congr {fr fr' : Frame} {ps : List (Nat × Nat × Opd)} (h : ∀ x ∈ ps.map (·.2.2), x.ev fr = x.ev fr') : evParts fr ps = evParts fr' ps := by
  unfold evParts
  apply List.map_congr_left
  intro p hp
  rw [h p.2.2 (List.mem_map.2 ⟨p, hp, rfl⟩)]
theorem boundOpt_congr {fr fr' : Frame} {o : Option Opd} (h : ∀ x ∈ optOpd o, x.ev fr = x.ev fr') : boundOpt fr o = boundOpt fr' o := by
  cases o with
  | none => rfl
  | some x => simp only [boundOpt, h x (by simp [optOpd])]
theorem Op.eval_congr {base kept : Nat} {fr fr' : Frame} {h : Heap} {p : Op} (hp : ∀ x ∈ p.opds, x.ev fr = x.ev fr') : p.eval base kept fr h = p.eval base kept fr' h := by
  cases p <;> simp only [Op.opds, List.mem_cons, List.not_mem_nil, or_false, forall_eq_or_imp, forall_eq, List.mem_append] at hp <;> simp only [Op.eval]
  case loadVia agg n a t => rw [hp.1, show fr.get t = fr'.get t from hp.2]
  case storeApart n a x t => rw [hp.1, hp.2.1, show fr.get t = fr'.get t from hp.2.2]
  case build z ps => rw [evParts_congr hp]
  case buildSlice z ps => rw [evParts_congr hp]
  case mkFn f cs => rw [List.map_congr_left fun x hx => hp x hx]
  case minmax m xs => rw [List.map_congr_left fun x hx => hp x hx]
  case slc e x lo hi mx =>
    rw [hp.1, boundOpt_congr (o := lo) fun x hx => hp.2 x (.inl (.inl hx)), boundOpt_congr (o := hi) fun x hx => hp.2 x (.inl (.inr hx)), boundOpt_congr (o := mx) fun x hx => hp.2 x (.inr hx)]
  case strSlc x lo hi =>
    rw [hp.1, boundOpt_congr (o := lo) fun x hx => hp.2 x (.inl hx), boundOpt_congr (o := hi) fun x hx => hp.2 x (.inr hx)]
  all_goals simp_all
/-- What an operation has to do with the heap: 0 nothing; 1 it reads; 2 it lays a block at a number that was kept; 3 both; 4 a call that leaves what was there; 5 anything. -/
def Op.cls : Op → Nat
  | .load _ _ _ => 1
  | .slc _ _ _ _ _ => 1
  | .toStr _ => 1
  | .box (some _) _ => 2
  | .buildSlice (some _) _ _ _ _ => 2
  | .append (some _) _ _ _ _ => 3
  | .box none _ => 5
  | .buildSlice none _ _ _ _ => 5
  | .append none _ _ _ _ => 5
  | .store _ _ _ => 5
  | .loadVia _ _ _ _ => 1
  | .storeApart _ _ _ _ => 5
  | .clear _ _ => 5
  | .fail => 5
  | .toBytes _ => 5
  | .makeSlice _ _ _ _ => 5
  | _ => 0
def Sub (h g : Heap) : Prop := ∀ k b, h.get k = some b → g.get k = some b
theorem Sub.refl (h : Heap) : Sub h h := fun _ _ e => e
theorem Heap.load_sub {h g : Heap} (s : Sub h g) {agg : Bool} {n k o : Nat} {v : Val} (e : h.load agg n k o = some v) : g.load agg n k o = some v := by
  unfold Heap.load at e ⊢
  cases hk : h.get k with
  | none => simp [hk] at e
  | some b => rw [hk] at e; rw [s k b hk]; exact e
theorem spread_sub {h g : Heap} (s : Sub h g) {esz : Nat} {x : Val} {r : Nat × List Val} (e : spread h esz x = some r) : spread g esz x = some r := by
  cases x <;> simp only [spread] at e ⊢ <;> first
    | exact e
    | skip
  rename_i k o n c
  split at e
  · rename_i h0; rw [if_pos h0]; exact e
  · rename_i h0
    rw [if_neg h0]
    cases hk : h.get k with
    | none => simp [hk] at e
    | some b => rw [hk] at e; rw [s k b hk]; exact e
theorem slcOk_sub {h g : Heap} (s : Sub h g) {esz : Nat} {x : Val} (e : slcOk h esz x = true) : slcOk g esz x = true := by
  cases x <;> simp only [slcOk] at e ⊢
  rename_i k o n c
  cases c <;> simp only at e ⊢
  cases hk : h.get k with
  | none => simp [hk] at e
  | some b => rw [hk] at e; rw [s k b hk]; exact e
/-- An operation that only reads: in a heap that has more it gives the same. -/
theorem read_more {base kept : Nat} {fr : Frame} {h h' : Heap} {p : Op} {v : Val} (hc : p.cls ≤ 1) (e : p.eval base kept fr h = some (v, h')) : h' = h ∧ ∀ g, Sub h g ∨ p.cls = 0 → p.eval base kept fr g = some (v, g) := by
  have fin : ∀ {f : Option Val}, (f.map fun v => (v, h)) = some (v, h') → h' = h ∧ ∀ g : Heap, (f.map fun v => (v, g)) = some (v, g) := by
    intro f e
    simp only [Option.map_eq_some_iff, Prod.mk.injEq] at e
    obtain ⟨u, rfl, rfl, rfl⟩ := e
    exact ⟨rfl, fun g => rfl⟩
  cases p
  case load agg n a =>
    simp only [Op.eval] at e ⊢
    cases hp : a.ev fr <;> simp only [hp, reduceCtorEq, Option.map_eq_some_iff, Prod.mk.injEq] at e
    obtain ⟨u, hu, rfl, rfl⟩ := e
    refine ⟨rfl, fun g hg => ?_⟩
    have hg := hg.resolve_right (by simp [Op.cls])
    simp only [Heap.load_sub hg hu, Option.map_some]
  case loadVia agg n a t =>
    simp only [Op.eval] at e ⊢
    split at e
    case isFalse => cases e
    rename_i hs
    cases hp : a.ev fr <;> simp only [hp, reduceCtorEq, Option.map_eq_some_iff, Prod.mk.injEq] at e
    obtain ⟨u, hu, rfl, rfl⟩ := e
    refine ⟨rfl, fun g hg => ?_⟩
    have hg := hg.resolve_right (by simp [Op.cls])
    rw [hp] at hs
    simp only [hs, if_true, Heap.load_sub hg hu, Option.map_some]
  case slc esz x lo hi mx =>
    simp only [Op.eval] at e ⊢
    cases h1 : boundOpt fr lo with
    | none => simp [h1] at e
    | some l =>
      cases h2 : boundOpt fr hi with
      | none => simp [h1, h2] at e
      | some hh =>
        cases h3 : boundOpt fr mx with
        | none => simp [h1, h2, h3] at e
        | some m =>
          simp only [h1, h2, h3] at e
          split at e
          case isFalse => cases e
          rename_i hok
          simp only [Option.map_eq_some_iff, Prod.mk.injEq] at e
          obtain ⟨u, hu, rfl, rfl⟩ := e
          refine ⟨rfl, fun g hg => ?_⟩
          have hg := hg.resolve_right (by simp [Op.cls])
          simp only
          rw [if_pos (slcOk_sub hg hok), hu]
          rfl
  case toStr x =>
    simp only [Op.eval] at e ⊢
    cases hp : x.ev fr <;> simp only [hp, reduceCtorEq, Option.some.injEq, Prod.mk.injEq] at e
    · obtain ⟨rfl, rfl⟩ := e
      exact ⟨rfl, fun g _ => rfl⟩
    · rename_i k o n c
      cases hs : spread h 1 (.slice k o n c) with
      | none => simp [hs] at e
      | some r =>
        obtain ⟨m, cs⟩ := r
        simp only [hs, Option.map_eq_some_iff, Prod.mk.injEq] at e
        obtain ⟨s, hs', rfl, rfl⟩ := e
        refine ⟨rfl, fun g hg => ?_⟩
        have hg := hg.resolve_right (by simp [Op.cls])
        simp only [spread_sub hg hs, hs', Option.map_some]
  case box s x => cases s <;> simp [Op.cls] at hc
  case buildSlice s _ _ _ _ => cases s <;> simp [Op.cls] at hc
  case append s _ _ _ _ => cases s <;> simp [Op.cls] at hc
  case store => simp [Op.cls] at hc
  case storeApart => simp [Op.cls] at hc
  case clear => simp [Op.cls] at hc
  case fail => simp [Op.cls] at hc
  case toBytes => simp [Op.cls] at hc
  case makeSlice => simp [Op.cls] at hc
  all_goals
    simp only [Op.eval] at e ⊢
    first
      | (obtain ⟨h1, h2⟩ := fin e; exact ⟨h1, fun g _ => h2 g⟩)
      | (simp only [Option.some.injEq, Prod.mk.injEq] at e; obtain ⟨rfl, rfl⟩ := e; exact ⟨rfl, fun g _ => rfl⟩)
      | skip
  all_goals
    (repeat' (split at e)) <;> first
      | (cases e; done)
      | (simp only [Option.some.injEq, Prod.mk.injEq] at e; obtain ⟨rfl, rfl⟩ := e; refine ⟨rfl, fun g _ => ?_⟩; simp_all; done)
      | (simp only [Option.map_eq_some_iff, Prod.mk.injEq] at e; obtain ⟨u, h1, rfl, rfl⟩ := e; refine ⟨rfl, fun g _ => ?_⟩; simp_all; done)
      | skip
theorem lay_some {h h' : Heap} {base s k : Nat} {b : Blk} (e : h.lay base (some s) b = some (k, h')) : k = s ∧ h' = h.set s (some b) ∧ base ≤ s ∧ s < h.size ∧ h.has s = true ∧ h.get s = none ∧
    ∀ g : Heap, s < g.size → g.has s = true → g.get s = none → g.lay base (some s) b = some (s, g.set s (some b)) := by
  simp only [Heap.lay] at e
  split at e
  case isFalse => cases e
  rename_i hc
  simp only [Option.some.injEq, Prod.mk.injEq] at e
  obtain ⟨rfl, rfl⟩ := e
  refine ⟨rfl, rfl, hc.1, hc.2.1, hc.2.2.1, by simpa using hc.2.2.2, fun g h1 h2 h3 => ?_⟩
  simp [Heap.lay, hc.1, h1, h2, h3]
/-- An operation that lays a block at a number that was kept. -/
def Lays (base kept : Nat) (fr : Frame) (h h' : Heap) (p : Op) (v : Val) : Prop :=
  (p.cls = 3 ∧ h' = h ∧ ∀ g, Sub h g → p.eval base kept fr g = some (v, g)) ∨
  (∃ k b, h' = h.set k (some b) ∧ base ≤ k ∧ k < h.size ∧ h.has k = true ∧ h.get k = none ∧
    ∀ g : Heap, (Sub h g ∨ p.cls = 2) → k < g.size → g.has k = true → g.get k = none → p.eval base kept fr g = some (v, g.set k (some b)))
theorem lay_more {base kept : Nat} {fr : Frame} {h h' : Heap} {p : Op} {v : Val} (hc : p.cls = 2 ∨ p.cls = 3) (e : p.eval base kept fr h = some (v, h')) : Lays base kept fr h h' p v := by
  cases p <;> try (simp [Op.cls] at hc; done)
  case box s x =>
    cases s with
    | none => simp [Op.cls] at hc
    | some s =>
      simp only [Op.eval, Option.map_some] at e
      split at e
      case isFalse => cases e
      rename_i hone
      simp only [Option.map_eq_some_iff, Prod.mk.injEq] at e
      obtain ⟨⟨k, h2⟩, hl, rfl, rfl⟩ := e
      obtain ⟨rfl, rfl, h1, h2, h3, h4, h5⟩ := lay_some hl
      refine .inr ⟨_, _, rfl, h1, h2, h3, h4, fun g _ g1 g2 g3 => ?_⟩
      simp only [Op.eval, Option.map_some]
      rw [if_pos hone, h5 g g1 g2 g3]
      rfl
  case buildSlice s e1 z n ps =>
    cases s with
    | none => simp [Op.cls] at hc
    | some s =>
      simp only [Op.eval, Option.map_some] at e
      cases hf : fill z (evParts fr ps) with
      | none => simp [hf] at e
      | some cs =>
        simp only [hf] at e
        split at e
        case isFalse => cases e
        rename_i hone
        simp only [Option.map_eq_some_iff, Prod.mk.injEq] at e
        obtain ⟨⟨k, h2⟩, hl, rfl, rfl⟩ := e
        obtain ⟨rfl, rfl, h1, h2, h3, h4, h5⟩ := lay_some hl
        refine .inr ⟨_, _, rfl, h1, h2, h3, h4, fun g _ g1 g2 g3 => ?_⟩
        simp only [Op.eval, Option.map_some, hf]
        rw [if_pos hone, h5 g g1 g2 g3]
        rfl
  case append s esz bytes sx x =>
    cases s with
    | none => simp [Op.cls] at hc
    | some s =>
      simp only [Op.eval, Option.map_some] at e
      cases hs : spread h esz (x.ev fr) with
      | none => simp [hs] at e
      | some r =>
        obtain ⟨n, new⟩ := r
        simp only [hs] at e
        unfold appendOp at e
        split at e
        case isTrue => cases e
        rename_i hcond
        cases hv : sx.ev fr <;> simp only [hv, reduceCtorEq] at e
        · split at e
          · rename_i hn
            simp only [Option.some.injEq, Prod.mk.injEq] at e
            obtain ⟨rfl, rfl⟩ := e
            refine .inl ⟨rfl, rfl, fun g hg => ?_⟩
            simp only [Op.eval, Option.map_some, spread_sub hg hs]
            unfold appendOp
            rw [if_neg hcond, hv]
            simp only
            rw [if_pos hn]
          · rename_i hn
            split at e
            case isFalse => cases e
            rename_i hroom
            simp only [Option.map_eq_some_iff, Prod.mk.injEq] at e
            obtain ⟨⟨k, h2⟩, hl, rfl, rfl⟩ := e
            obtain ⟨rfl, rfl, h1, h2, h3, h4, h5⟩ := lay_some hl
            refine .inr ⟨_, _, rfl, h1, h2, h3, h4, fun g hg g1 g2 g3 => ?_⟩
            have hg := hg.resolve_right (by simp [Op.cls])
            simp only [Op.eval, Option.map_some, spread_sub hg hs]
            unfold appendOp
            rw [if_neg hcond, hv]
            simp only
            rw [if_neg hn, if_pos hroom, h5 g g1 g2 g3]
            rfl
        · rename_i k o len c
          split at e
          · rename_i hn
            simp only [Option.some.injEq, Prod.mk.injEq] at e
            obtain ⟨rfl, rfl⟩ := e
            refine .inl ⟨rfl, rfl, fun g hg => ?_⟩
            simp only [Op.eval, Option.map_some, spread_sub hg hs]
            unfold appendOp
            rw [if_neg hcond, hv]
            simp only
            rw [if_pos hn]
          · rename_i hn
            cases hb : h.get k with
            | none => simp [hb] at e
            | some b =>
              simp only [hb] at e
              split at e
              case isTrue => cases e
              rename_i hc2
              cases c with
              | none => simp at e
              | some c =>
                simp only at e
                split at e
                · simp at e
                · rename_i hfit
                  simp only [Option.map_eq_some_iff, Prod.mk.injEq] at e
                  obtain ⟨⟨k', h2⟩, hl, rfl, rfl⟩ := e
                  obtain ⟨rfl, rfl, h1, h2, h3, h4, h5⟩ := lay_some hl
                  refine .inr ⟨_, _, rfl, h1, h2, h3, h4, fun g hg g1 g2 g3 => ?_⟩
                  have hg := hg.resolve_right (by simp [Op.cls])
                  simp only [Op.eval, Option.map_some, spread_sub hg hs]
                  unfold appendOp
                  rw [if_neg hcond, hv]
                  simp only
                  rw [if_neg hn, hg k b hb]
                  simp only
                  rw [if_neg hc2, if_neg hfit, h5 g g1 g2 g3]
                  rfl
/-! ### Frames and heaps written at two places -/
theorem Frame.put_comm (fr : Frame) {j k : Nat} (hjk : j ≠ k) (u v : Val) : (fr.put j u).put k v = (fr.put k v).put j u := by
  induction fr with
  | nil =>
    simp only [Frame.put]
    by_cases h1 : k < j
    · rw [if_pos h1, if_neg (by omega), if_neg hjk]
    · rw [if_neg h1, if_neg (Ne.symm hjk), if_pos (by omega)]
  | cons p r ih =>
    obtain ⟨i, x⟩ := p
    simp only [Frame.put]
    by_cases a1 : j < i
    · rw [if_pos a1]
      by_cases b1 : k < i
      · rw [if_pos b1]
        simp only [Frame.put]
        by_cases c : k < j
        · rw [if_pos c, if_neg (by omega), if_neg hjk, if_pos a1]
        · rw [if_neg c, if_neg (Ne.symm hjk), if_pos b1, if_pos (by omega)]
      · rw [if_neg b1]
        by_cases b2 : k = i
        · rw [if_pos b2]
          simp only [Frame.put]
          rw [if_neg (by omega), if_neg (Ne.symm hjk), if_neg b1, if_pos b2, if_pos (by omega)]
        · rw [if_neg b2]
          simp only [Frame.put]
          rw [if_neg (by omega), if_neg (Ne.symm hjk), if_neg b1, if_neg b2, if_pos a1]
    · rw [if_neg a1]
      by_cases a2 : j = i
      · rw [if_pos a2]
        by_cases b1 : k < i
        · rw [if_pos b1]
          simp only [Frame.put]
          rw [if_pos (by omega), if_neg (by omega), if_neg hjk, if_neg a1, if_pos a2]
        · rw [if_neg b1, if_neg (by omega)]
          simp only [Frame.put]
          rw [if_neg (by omega), if_neg (Ne.symm hjk), if_neg a1, if_pos a2]
      · rw [if_neg a2]
        by_cases b1 : k < i
        · rw [if_pos b1]
          simp only [Frame.put]
          rw [if_pos b1, if_neg (by omega), if_neg hjk, if_neg a1, if_neg a2]
        · rw [if_neg b1]
          by_cases b2 : k = i
          · rw [if_pos b2]
            simp only [Frame.put]
            rw [if_neg b1, if_pos b2, if_neg (by omega), if_neg (by omega)]
          · rw [if_neg b2]
            simp only [Frame.put]
            rw [if_neg b1, if_neg b2, if_neg a1, if_neg a2, ih]
theorem Heap.set_comm (h : Heap) {j k : Nat} (hjk : j ≠ k) (u v : Option Blk) (hj : h.has j = true) (hk : h.has k = true) : (h.set j u).set k v = (h.set k v).set j u := by
  induction h with
  | nil => simp [Heap.has] at hj
  | cons p r ih =>
    obtain ⟨i, x⟩ := p
    simp only [Heap.has] at hj hk
    simp only [Heap.set]
    by_cases a : i = j
    · rw [if_pos a, if_neg (by omega)]
      simp only [Heap.set]
      rw [if_neg (by omega), if_pos a]
    · rw [if_neg a]
      by_cases b : i = k
      · rw [if_pos b]
        simp only [Heap.set]
        rw [if_pos b, if_neg a]
      · rw [if_neg b]
        simp only [Heap.set]
        rw [if_neg a, if_neg b]
        rw [if_neg a] at hj
        rw [if_neg b] at hk
        rw [ih hj hk]
theorem Heap.has_set (h : Heap) (j k : Nat) (u : Option Blk) (hk : h.has k = true) : (h.set j u).has k = true := by
  induction h with
  | nil => simp [Heap.has] at hk
  | cons p r ih =>
    obtain ⟨i, x⟩ := p
    simp only [Heap.has] at hk
    simp only [Heap.set]
    by_cases a : i = j
    · rw [if_pos a]
      simpa only [Heap.has] using hk
    · rw [if_neg a]
      simp only [Heap.has]
      by_cases b : i = k
      · rw [if_pos b]
      · rw [if_neg b] at hk ⊢
        exact ih hk
end Gc
end
section
/- What a run of Gc leaves as it was: the blocks below the number that it was handed; and heaps stay in order. Nothing of the model stands here. -/
set_option linter.unusedVariables false
namespace Gc
def Heap.Wf (h : Heap) : Prop := ∀ k, h.size ≤ k → h.get k = none
/-- From one heap to a later one. -/
structure Grows (base : Nat) (h h' : Heap) : Prop where
  wf : h'.Wf
  size : h.size ≤ h'.size
  keep : ∀ k, k < base → h'.get k = h.get k
theorem Grows.refl {base : Nat} {h : Heap} (w : h.Wf) : Grows base h h := ⟨w, Nat.le_refl _, fun _ _ => rfl⟩
theorem Grows.trans {base : Nat} {h h' h'' : Heap} (a : Grows base h h') (b : Grows base h' h'') : Grows base h h'' :=
  ⟨b.wf, Nat.le_trans a.size b.size, fun k hk => (b.keep k hk).trans (a.keep k hk)⟩
theorem Grows.mono {base base' : Nat} {h h' : Heap} (a : Grows base h h') (hb : base' ≤ base) : Grows base' h h' := ⟨a.wf, a.size, fun k hk => a.keep k (by omega)⟩
theorem Heap.Wf.lt {h : Heap} (w : h.Wf) {k : Nat} {b : Blk} (e : h.get k = some b) : k < h.size := by
  rcases Nat.lt_or_ge k h.size with h1 | h1
  · exact h1
  · rw [w k h1] at e; cases e
theorem grows_push {base : Nat} {h : Heap} (w : h.Wf) (hb : base ≤ h.size) (b : Option Blk) : Grows base h (h.push b) :=
  ⟨fun k hk => by rw [Heap.get_push, if_neg (by simp at hk; omega)]; exact w k (by simp at hk; omega), by simp, fun k hk => by rw [Heap.get_push, if_neg (by omega)]⟩
theorem grows_set {base k : Nat} {h : Heap} (w : h.Wf) (hb : base ≤ k) (hk : k < h.size) (b : Option Blk) : Grows base h (h.set k b) :=
  ⟨fun j hj => by rw [Heap.size_set _ _ _ hk] at hj; rw [Heap.get_set, if_neg (by omega)]; exact w j hj, by rw [Heap.size_set _ _ _ hk]; exact Nat.le_refl _, fun j hj => by rw [Heap.get_set, if_neg (by omega)]⟩
theorem grows_reserve {base : Nat} : ∀ (n : Nat) {h : Heap}, h.Wf → base ≤ h.size → Grows base h (h.reserve n)
  | 0, h, w, _ => Grows.refl w
  | n + 1, h, w, hb => by
    have g := grows_push w hb none
    exact g.trans (grows_reserve n g.wf (by simp; omega))
theorem grows_lay {base : Nat} {h h' : Heap} {slot : Option Nat} {b : Blk} {k : Nat} (w : h.Wf) (hb : base ≤ h.size) (e : h.lay base slot b = some (k, h')) : Grows base h h' := by
  cases slot with
  | none =>
    simp only [Heap.lay, Option.some.injEq, Prod.mk.injEq] at e
    obtain ⟨rfl, rfl⟩ := e
    exact grows_push w hb _
  | some s =>
    obtain ⟨rfl, rfl, h1, h2, _⟩ := lay_some e
    exact grows_set w h1 h2 _
theorem grows_store {base k o : Nat} {h h' : Heap} {cs : List Val} (w : h.Wf) (e : h.store base k o cs = some h') : Grows base h h' := by
  unfold Heap.store at e
  cases hb : h.get k with
  | none => simp [hb] at e
  | some b =>
    simp only [hb] at e
    split at e
    case isFalse => cases e
    rename_i hc
    obtain rfl := Option.some.inj e
    exact grows_set w hc.1 (w.lt hb) _
theorem grows_append {base esz bytes n : Nat} {h h' : Heap} {slot : Option Nat} {s v : Val} {new : List Val} (w : h.Wf) (hb : base ≤ h.size) (e : appendOp base h slot esz bytes s n new = some (v, h')) : Grows base h h' := by
  unfold appendOp at e
  split at e
  case isTrue => cases e
  cases s <;> simp only [reduceCtorEq] at e
  · split at e
    · simp only [Option.some.injEq, Prod.mk.injEq] at e
      obtain ⟨_, rfl⟩ := e
      exact Grows.refl w
    · split at e
      case isFalse => cases e
      simp only [Option.map_eq_some_iff, Prod.mk.injEq] at e
      obtain ⟨⟨k, h2⟩, hl, _, rfl⟩ := e
      exact grows_lay w hb hl
  · rename_i k o len c
    split at e
    · simp only [Option.some.injEq, Prod.mk.injEq] at e
      obtain ⟨_, rfl⟩ := e
      exact Grows.refl w
    · cases hk : h.get k with
      | none => simp [hk] at e
      | some b =>
        simp only [hk] at e
        split at e
        case isTrue => cases e
        cases c with
        | some c =>
          simp only at e
          split at e
          · split at e
            · cases e
            · cases hs : h.store base k (o + len * esz) new with
              | none => simp [hs] at e
              | some h2 =>
                simp only [hs, Option.some.injEq, Prod.mk.injEq] at e
                obtain ⟨_, rfl⟩ := e
                exact grows_store w hs
          · simp only [Option.map_eq_some_iff, Prod.mk.injEq] at e
            obtain ⟨⟨k', h2⟩, hl, _, rfl⟩ := e
            exact grows_lay w hb hl
        | none =>
          simp only at e
          split at e
          case isFalse => cases e
          rename_i hc
          simp only [Option.map_eq_some_iff, Prod.mk.injEq] at e
          obtain ⟨⟨k', h2⟩, hl, _, rfl⟩ := e
          have g := grows_set w hc.1 (w.lt hk) (some .dead)
          exact g.trans (grows_lay g.wf (by have := g.size; omega) hl)
theorem grows_eval {base kept : Nat} {fr : Frame} {h h' : Heap} {p : Op} {v : Val} (w : h.Wf) (hb : base ≤ h.size) (e : p.eval base kept fr h = some (v, h')) : Grows base h h' := by
  rcases Nat.lt_or_ge 1 p.cls with hc | hc
  · cases p <;> try (simp [Op.cls] at hc; done)
    case box s x =>
      simp only [Op.eval] at e
      split at e
      case isFalse => cases e
      simp only [Option.map_eq_some_iff, Prod.mk.injEq] at e
      obtain ⟨⟨k, h2⟩, hl, _, rfl⟩ := e
      exact grows_lay w hb hl
    case buildSlice s e1 z n ps =>
      simp only [Op.eval] at e
      cases hf : fill z (evParts fr ps) with
      | none => simp [hf] at e
      | some cs =>
        simp only [hf] at e
        split at e
        case isFalse => cases e
        simp only [Option.map_eq_some_iff, Prod.mk.injEq] at e
        obtain ⟨⟨k, h2⟩, hl, _, rfl⟩ := e
        exact grows_lay w hb hl
    case store n a x =>
      simp only [Op.eval] at e
      cases hp : a.ev fr <;> simp only [hp, reduceCtorEq] at e
      split at e
      case isFalse => cases e
      simp only [Option.map_eq_some_iff, Prod.mk.injEq] at e
      obtain ⟨h2, hs, _, rfl⟩ := e
      exact grows_store w hs
    case storeApart n a x t =>
      simp only [Op.eval] at e
      split at e
      case isFalse => cases e
      cases hp : a.ev fr <;> simp only [hp, reduceCtorEq] at e
      split at e
      case isFalse => cases e
      simp only [Option.map_eq_some_iff, Prod.mk.injEq] at e
      obtain ⟨h2, hs, _, rfl⟩ := e
      exact grows_store w hs
    case fail => simp [Op.eval] at e
    case clear z x =>
      simp only [Op.eval] at e
      cases hp : x.ev fr <;> simp only [hp, reduceCtorEq] at e
      · simp only [Option.some.injEq, Prod.mk.injEq] at e
        obtain ⟨_, rfl⟩ := e
        exact Grows.refl w
      · split at e
        · simp only [Option.some.injEq, Prod.mk.injEq] at e
          obtain ⟨_, rfl⟩ := e
          exact Grows.refl w
        · simp only [Option.map_eq_some_iff, Prod.mk.injEq] at e
          obtain ⟨h2, hs, _, rfl⟩ := e
          exact grows_store w hs
    case toBytes x =>
      simp only [Op.eval] at e
      cases hp : x.ev fr <;> simp only [hp, reduceCtorEq] at e
      split at e
      case isFalse => cases e
      simp only [Option.map_eq_some_iff, Prod.mk.injEq] at e
      obtain ⟨⟨k, h2⟩, hl, _, rfl⟩ := e
      exact grows_lay w hb hl
    case makeSlice z bytes l c =>
      simp only [Op.eval] at e
      split at e
      case h_2 => cases e
      split at e
      case isFalse => cases e
      simp only [Option.map_eq_some_iff, Prod.mk.injEq] at e
      obtain ⟨⟨k, h2⟩, hl, _, rfl⟩ := e
      exact grows_lay w hb hl
    case append s esz bytes sx x =>
      simp only [Op.eval] at e
      cases hs : spread h esz (x.ev fr) with
      | none => simp [hs] at e
      | some r =>
        simp only [hs] at e
        exact grows_append w hb e
  · obtain ⟨rfl, _⟩ := read_more hc e
    exact Grows.refl w
/-! ### One operation of a region -/
/-- What an operation of a region gives, apart from the slot that it fills. -/
def valK (call : CallF) (E : Env) (base kept : Nat) (o : ROp) (fr : Frame) (h : Heap) : Option (Res × Heap) :=
  match o.k with
  | .op p => (p.eval base kept fr h).map fun r => (.ret r.1, r.2)
  | .call prot c args =>
    match c.find E fr (args.map (·.ev fr)) with
    | some (f, vs) => call (if prot then h.size else base) f vs h
    | none => none
def valOp (call : CallF) (E : Env) (base kept : Nat) (o : ROp) (fr : Frame) (h : Heap) : Option (Res × Heap) :=
  match o.guard with
  | none => valK call E base kept o fr h
  | some (t, want) =>
    match gate (fr.get t) want with
    | some true => valK call E base kept o fr h
    | some false => some (.ret skipped, h)
    | none => none
def Res.into (o : ROp) (fr : Frame) : Res × Heap → Ex × Frame × Heap
  | (.ret v, h) => (.norm, fr.dst o.dst v, h)
  | (.pan v, h) => (.pan v, fr, h)
theorem stepOp_eq (call : CallF) (E : Env) (base kept : Nat) (o : ROp) (fr : Frame) (h : Heap) : stepOp call E base kept o fr h = (valOp call E base kept o fr h).map (Res.into o fr) := by
  have hk : stepK call E base kept o fr h = (valK call E base kept o fr h).map (Res.into o fr) := by
    unfold stepK valK
    cases o.k with
    | op p =>
      simp only
      cases p.eval base kept fr h with
      | none => rfl
      | some r => rfl
    | call prot c args =>
      simp only
      cases c.find E fr (args.map (·.ev fr)) with
      | none => rfl
      | some r =>
        obtain ⟨f, vs⟩ := r
        simp only
        cases call (if prot then h.size else base) f vs h with
        | none => rfl
        | some r => obtain ⟨x, h'⟩ := r; cases x <;> rfl
  unfold stepOp valOp
  cases o.guard with
  | none => exact hk
  | some g =>
    obtain ⟨t, want⟩ := g
    simp only
    cases gate (fr.get t) want with
    | none => rfl
    | some b =>
      cases b
      · rfl
      · exact hk
/-- What is known of the calls. -/
def CallKeeps (call : CallF) : Prop := ∀ base f args h r h', h.Wf → base ≤ h.size → call base f args h = some (r, h') → Grows base h h'
theorem grows_valOp {call : CallF} (C : CallKeeps call) {E : Env} {base kept : Nat} {o : ROp} {fr : Frame} {h h' : Heap} {r : Res} (w : h.Wf) (hb : base ≤ h.size) (e : valOp call E base kept o fr h = some (r, h')) : Grows base h h' := by
  have hk : ∀ r, valK call E base kept o fr h = some (r, h') → Grows base h h' := by
    intro r e
    unfold valK at e
    cases ho : o.k with
    | op p =>
      simp only [ho, Option.map_eq_some_iff, Prod.mk.injEq] at e
      obtain ⟨⟨v, h2⟩, he, _, rfl⟩ := e
      exact grows_eval w hb he
    | call prot c args =>
      simp only [ho] at e
      cases hf : c.find E fr (args.map (·.ev fr)) with
      | none => simp [hf] at e
      | some p =>
        obtain ⟨f, vs⟩ := p
        simp only [hf] at e
        cases prot with
        | true => exact (C _ _ _ _ _ _ w (Nat.le_refl _) e).mono hb
        | false => exact C _ _ _ _ _ _ w hb e
  unfold valOp at e
  cases hg : o.guard with
  | none => rw [hg] at e; exact hk r e
  | some g =>
    obtain ⟨t, want⟩ := g
    rw [hg] at e
    simp only at e
    cases hv : gate (fr.get t) want with
    | none => simp [hv] at e
    | some b =>
      cases b
      · simp only [hv, Option.some.injEq, Prod.mk.injEq] at e
        obtain ⟨_, rfl⟩ := e
        exact Grows.refl w
      · simp only [hv] at e
        exact hk r e
theorem grows_runOps {call : CallF} (C : CallKeeps call) {E : Env} {base kept : Nat} : ∀ {os : List ROp} {fr fr' : Frame} {h h' : Heap} {x : Ex}, h.Wf → base ≤ h.size → runOps call E base kept os fr h = some (x, fr', h') → Grows base h h'
  | [], fr, fr', h, h', x, w, hb, e => by
    simp only [runOps, Option.some.injEq, Prod.mk.injEq] at e
    obtain ⟨_, _, rfl⟩ := e
    exact Grows.refl w
  | o :: os, fr, fr', h, h', x, w, hb, e => by
    simp only [runOps, stepOp_eq] at e
    cases hv : valOp call E base kept o fr h with
    | none => simp [hv] at e
    | some r =>
      obtain ⟨r, h1⟩ := r
      have g := grows_valOp C w hb hv
      rw [hv] at e
      cases r with
      | ret v =>
        simp only [Option.map_some, Res.into] at e
        exact g.trans (grows_runOps C g.wf (Nat.le_trans hb g.size) e)
      | pan v =>
        simp only [Option.map_some, Res.into, Option.some.injEq, Prod.mk.injEq] at e
        obtain ⟨_, _, rfl⟩ := e
        exact g
theorem callBy_keeps {E : Env} {n : Nat} (X : ∀ base c fr h x fr' h', h.Wf → base ≤ h.size → exec E n base c fr h = some (x, fr', h') → Grows base h h') : CallKeeps (callBy (exec E n) E) := by
  intro base f args h r h' w hb e
  unfold callBy at e
  cases ht : E.told f args h with
  | some v =>
    simp only [ht, Option.some.injEq, Prod.mk.injEq] at e
    obtain ⟨_, rfl⟩ := e
    exact Grows.refl w
  | none =>
    simp only [ht] at e
    cases hc : E.code f with
    | none => simp [hc] at e
    | some fn =>
      simp only [hc] at e
      cases hx : exec E n base fn.body (Frame.enterFrom 0 args) h with
      | none => simp [hx] at e
      | some q =>
        obtain ⟨x, fr', h2⟩ := q
        have g := X _ _ _ _ _ _ _ w hb hx
        rw [hx] at e
        cases x <;> simp only [reduceCtorEq, Option.map_eq_some_iff, Option.some.injEq, Prod.mk.injEq] at e
        · obtain ⟨_, _, _, rfl⟩ := e; exact g
        · obtain ⟨_, _, _, rfl⟩ := e; exact g
        · obtain ⟨_, rfl⟩ := e; exact g
theorem grows_exec (E : Env) : ∀ (n base : Nat) (c : Code) (fr : Frame) (h : Heap) (x : Ex) (fr' : Frame) (h' : Heap), h.Wf → base ≤ h.size → exec E n base c fr h = some (x, fr', h') → Grows base h h' := by
  intro n
  induction n with
  | zero => intro base c fr h x fr' h' w hb e; simp [exec] at e
  | succ n ih =>
    intro base c fr h x fr' h' w hb e
    cases c <;> simp only [exec] at e
    case skip =>
      simp only [Option.some.injEq, Prod.mk.injEq] at e
      obtain ⟨_, _, rfl⟩ := e
      exact Grows.refl w
    case seq a b =>
      cases ha : exec E n base a fr h with
      | none => simp [ha] at e
      | some q =>
        obtain ⟨x1, fr1, h1⟩ := q
        have g := ih _ _ _ _ _ _ _ w hb ha
        rw [ha] at e
        cases x1 <;> simp only [Option.some.injEq, Prod.mk.injEq] at e
        · exact g.trans (ih _ _ _ _ _ _ _ g.wf (Nat.le_trans hb g.size) e)
        all_goals (obtain ⟨_, _, rfl⟩ := e; exact g)
    case region ops drop keep draw =>
      have g0 := grows_reserve (base := base) keep w hb
      cases hr : runOps (callBy (exec E n) E) E base h.size ops fr (h.reserve keep) with
      | none => simp [hr] at e
      | some q =>
        obtain ⟨x1, fr1, h1⟩ := q
        have g := g0.trans (grows_runOps (callBy_keeps ih) g0.wf (Nat.le_trans hb g0.size) hr)
        rw [hr] at e
        cases x1 <;> simp only [Option.some.injEq, Prod.mk.injEq] at e
        case pan v =>
          split at e
          · cases e
          · simp only [Option.some.injEq, Prod.mk.injEq] at e
            obtain ⟨_, _, rfl⟩ := e; exact g
        all_goals (obtain ⟨_, _, rfl⟩ := e; exact g)
    case cond y a b =>
      cases hv : y.ev fr <;> simp only [hv, reduceCtorEq] at e
      exact ih _ _ _ _ _ _ _ w hb e
    case block id c =>
      cases ha : exec E n base c fr h with
      | none => simp [ha] at e
      | some q =>
        obtain ⟨x1, fr1, h1⟩ := q
        have g := ih _ _ _ _ _ _ _ w hb ha
        rw [ha] at e
        cases x1 <;> simp only [Option.some.injEq, Prod.mk.injEq] at e
        all_goals (obtain ⟨_, _, rfl⟩ := e; exact g)
    case loop c =>
      cases ha : exec E n base c fr h with
      | none => simp [ha] at e
      | some q =>
        obtain ⟨x1, fr1, h1⟩ := q
        have g := ih _ _ _ _ _ _ _ w hb ha
        rw [ha] at e
        cases x1 <;> simp only [Option.some.injEq, Prod.mk.injEq] at e
        · exact g.trans (ih _ _ _ _ _ _ _ g.wf (Nat.le_trans hb g.size) e)
        all_goals (obtain ⟨_, _, rfl⟩ := e; exact g)
    case exit id =>
      simp only [Option.some.injEq, Prod.mk.injEq] at e
      obtain ⟨_, _, rfl⟩ := e
      exact Grows.refl w
    case ret =>
      simp only [Option.some.injEq, Prod.mk.injEq] at e
      obtain ⟨_, _, rfl⟩ := e
      exact Grows.refl w
theorem callN_keeps (E : Env) (n : Nat) : CallKeeps (callBy (exec E n) E) := callBy_keeps (grows_exec E n)
end Gc
end
section
/- Two neighbours of a region that have nothing to do with each other change places, and nothing else turns. Nothing of the model stands here. -/
set_option linter.unusedVariables false
namespace Gc
def Opd.tmps : Opd → List Nat
  | .t n => [n]
  | .c _ => []
def Callee.opds : Callee → List Opd
  | .fn _ => []
  | .val x => [x]
  | .inv x _ => [x]
def ROp.opds (o : ROp) : List Opd :=
  match o.k with
  | .op p => p.opds
  | .call _ c args => c.opds ++ args
def ROp.reads (o : ROp) : List Nat := o.opds.flatMap Opd.tmps ++ (match o.guard with | some (t, _) => [t] | none => [])
def ROp.cls (o : ROp) : Nat :=
  match o.k with
  | .op p => p.cls
  | .call true _ _ => 4
  | .call false _ _ => 5
def notIn (d : Option Nat) (l : List Nat) : Bool :=
  match d with
  | none => true
  | some d => !l.contains d
def dstNe (d e : Option Nat) : Bool :=
  match d, e with
  | some d, some e => d != e
  | _, _ => true
def apartB (x y : ROp) : Bool := notIn x.dst y.reads && notIn y.dst x.reads && dstNe x.dst y.dst
/-- A load of a block, and a store to another one. -/
def viaB (y x : ROp) : Bool :=
  match y.k, x.k with
  | .op (.loadVia _ _ _ t), .op (.storeApart _ _ _ t') => t == t'
  | _, _ => false
def commB (y x : ROp) : Bool := apartB x y && (viaB y x || y.cls == 0 || x.cls == 0 || (y.cls == 1 && decide (x.cls ≤ 4)) || ((y.cls == 2 || y.cls == 3) && x.cls == 2))
theorem Opd.ev_dst {x : Opd} {fr : Frame} {d : Option Nat} {v : Val} (h : ∀ k, d = some k → k ∉ x.tmps) : x.ev (fr.dst d v) = x.ev fr := by
  cases x with
  | c u => rfl
  | t n =>
    cases d with
    | none => rfl
    | some k =>
      have := h k rfl
      simp [Opd.tmps] at this
      simp only [Opd.ev, Frame.dst, Frame.get_put]
      rw [if_neg (by omega)]
theorem Frame.get_dst {fr : Frame} {d : Option Nat} {v : Val} {t : Nat} (h : ∀ k, d = some k → k ≠ t) : (fr.dst d v).get t = fr.get t := by
  cases d with
  | none => rfl
  | some k =>
    simp only [Frame.dst, Frame.get_put]
    rw [if_neg (Ne.symm (h k rfl))]
theorem dst_comm {fr : Frame} {d e : Option Nat} {u v : Val} (h : dstNe d e = true) : (fr.dst d u).dst e v = (fr.dst e v).dst d u := by
  cases d with
  | none => rfl
  | some j =>
    cases e with
    | none => rfl
    | some k =>
      simp [dstNe] at h
      exact Frame.put_comm fr h u v
theorem notIn_spec {d : Option Nat} {l : List Nat} (h : notIn d l = true) : ∀ k, d = some k → k ∉ l := by
  intro k e
  subst e
  simpa [notIn] using h
/-- A write to a slot that an operation doesn't look at. -/
theorem valOp_dst {call : CallF} {E : Env} {base kept : Nat} {o : ROp} {fr : Frame} {h : Heap} {d : Option Nat} {v : Val} (hd : notIn d o.reads = true) : valOp call E base kept o (fr.dst d v) h = valOp call E base kept o fr h := by
  have hn := notIn_spec hd
  have ho : ∀ x ∈ o.opds, x.ev (fr.dst d v) = x.ev fr := fun x hx => Opd.ev_dst fun k hk hm => hn k hk (by
    unfold ROp.reads
    exact List.mem_append.2 (.inl (List.mem_flatMap.2 ⟨x, hx, hm⟩)))
  have hk : valK call E base kept o (fr.dst d v) h = valK call E base kept o fr h := by
    unfold valK
    unfold ROp.opds at ho
    cases hok : o.k with
    | op p =>
      rw [hok] at ho
      simp only
      rw [Op.eval_congr ho]
    | call prot c args =>
      rw [hok] at ho
      simp only at ho ⊢
      have ha : args.map (·.ev (fr.dst d v)) = args.map (·.ev fr) := List.map_congr_left fun x hx => ho x (List.mem_append.2 (.inr hx))
      have hc : c.find E (fr.dst d v) (args.map (·.ev (fr.dst d v))) = c.find E fr (args.map (·.ev fr)) := by
        rw [ha]
        cases c with
        | fn f => rfl
        | val x => simp only [Callee.find, ho x (by simp [Callee.opds])]
        | inv x m => simp only [Callee.find, ho x (by simp [Callee.opds])]
      rw [hc]
  unfold valOp
  cases hg : o.guard with
  | none => exact hk
  | some g =>
    obtain ⟨t, want⟩ := g
    simp only
    rw [Frame.get_dst fun k hk' e => hn k hk' (by unfold ROp.reads; simp [hg, e]), hk]
theorem cls_cases (p : Op) : p.cls = 0 ∨ p.cls = 1 ∨ p.cls = 2 ∨ p.cls = 3 ∨ p.cls = 5 := by
  cases p
  case box s _ => cases s <;> simp [Op.cls]
  case buildSlice s _ _ _ _ => cases s <;> simp [Op.cls]
  case append s _ _ _ _ => cases s <;> simp [Op.cls]
  all_goals simp [Op.cls]
/-- How one operation may come to its value: as it is everywhere; as it is in every heap that has more; by a block that it lays. -/
inductive How (base kept : Nat) (call : CallF) (E : Env) (o : ROp) (fr : Frame) (h h' : Heap) (v : Val) : Prop where
  | pure (e : h' = h) (g : ∀ g, valOp call E base kept o fr g = some (.ret v, g))
  | read (c : o.cls = 1) (e : h' = h) (g : ∀ g, Sub h g → valOp call E base kept o fr g = some (.ret v, g))
  | both (c : o.cls = 3) (e : h' = h) (g : ∀ g, Sub h g → valOp call E base kept o fr g = some (.ret v, g))
  | lays (c : o.cls = 2 ∨ o.cls = 3) (k : Nat) (b : Blk) (e : h' = h.set k (some b)) (e1 : k < h.size) (e2 : h.has k = true) (e3 : h.get k = none)
      (g : ∀ g : Heap, (Sub h g ∨ o.cls = 2) → k < g.size → g.has k = true → g.get k = none → valOp call E base kept o fr g = some (.ret v, g.set k (some b)))
  | calls (c : o.cls = 4) (s : Sub h h')
  | any (c : o.cls = 5)
theorem sub_set {h : Heap} {k : Nat} {b : Option Blk} (e : h.get k = none) : Sub h (h.set k b) := by
  intro j c hj
  rw [Heap.get_set, if_neg (fun e' => by subst e'; rw [e] at hj; cases hj)]
  exact hj
theorem sub_grows {h h' : Heap} (w : h.Wf) (g : Grows h.size h h') : Sub h h' := fun k b hk => by rw [g.keep k (w.lt hk)]; exact hk
theorem how {call : CallF} (C : CallKeeps call) {E : Env} {base kept : Nat} {o : ROp} {fr : Frame} {h h' : Heap} {v : Val} (w : h.Wf) (e : valOp call E base kept o fr h = some (.ret v, h')) : How base kept call E o fr h h' v := by
  have key : (∀ g, valOp call E base kept o fr g = valK call E base kept o fr g) → How base kept call E o fr h h' v := by
    intro hv
    rw [hv] at e
    unfold valK at e
    cases hk : o.k with
    | op p =>
      have hval : ∀ g, valOp call E base kept o fr g = (p.eval base kept fr g).map fun r => (Res.ret r.1, r.2) := fun g => by rw [hv]; unfold valK; rw [hk]
      have hcls : o.cls = p.cls := by unfold ROp.cls; rw [hk]
      simp only [hk, Option.map_eq_some_iff, Prod.mk.injEq, Res.ret.injEq] at e
      obtain ⟨⟨v', h2⟩, he, rfl, rfl⟩ := e
      by_cases c0 : p.cls = 0
      · obtain ⟨e1, e2⟩ := read_more (by omega) he
        exact .pure e1 fun g => by rw [hval, e2 g (.inr c0)]; rfl
      · by_cases c1 : p.cls = 1
        · obtain ⟨e1, e2⟩ := read_more (by omega) he
          exact .read (by omega) e1 fun g hg => by rw [hval, e2 g (.inl hg)]; rfl
        · by_cases c2 : p.cls = 2 ∨ p.cls = 3
          · rcases lay_more c2 he with ⟨c3, e1, e2⟩ | ⟨k, b, e1, e2, e3, e4, e5, e6⟩
            · exact .both (by omega) e1 fun g hg => by rw [hval, e2 g hg]; rfl
            · exact .lays (by omega) k b e1 e3 e4 e5 fun g h1 h2 h3 h4 => by rw [hval, e6 g (h1.imp id (by omega)) h2 h3 h4]; rfl
          · have := cls_cases p
            exact .any (by omega)
    | call prot c args =>
      cases prot with
      | false => exact .any (by unfold ROp.cls; rw [hk])
      | true =>
        simp only [hk] at e
        cases hf : c.find E fr (args.map (·.ev fr)) with
        | none => simp [hf] at e
        | some p =>
          obtain ⟨f, vs⟩ := p
          simp only [hf, if_true] at e
          exact .calls (by unfold ROp.cls; rw [hk]) (sub_grows w (C _ _ _ _ _ _ w (Nat.le_refl _) e))
  cases hg : o.guard with
  | none => exact key fun g => by unfold valOp; rw [hg]
  | some g =>
    obtain ⟨t, want⟩ := g
    cases hv : gate (fr.get t) want with
    | none => unfold valOp at e; simp [hg, hv] at e
    | some b =>
      cases b
      · have : ∀ g, valOp call E base kept o fr g = some (.ret skipped, g) := fun g => by unfold valOp; rw [hg]; simp only [hv]
        rw [this] at e
        simp only [Option.some.injEq, Prod.mk.injEq, Res.ret.injEq] at e
        obtain ⟨rfl, rfl⟩ := e
        exact .pure rfl this
      · exact key fun g => by unfold valOp; rw [hg]; simp only [hv]
theorem valOp_op {call : CallF} {E : Env} {base kept : Nat} {o : ROp} {fr : Frame} {p : Op} (hk : o.k = .op p) :
    (∀ g, valOp call E base kept o fr g = none) ∨ (∀ g, valOp call E base kept o fr g = some (.ret skipped, g)) ∨ (∀ g, valOp call E base kept o fr g = (p.eval base kept fr g).map fun r => (.ret r.1, r.2)) := by
  have hv : ∀ g, valK call E base kept o fr g = (p.eval base kept fr g).map fun r => (.ret r.1, r.2) := fun g => by unfold valK; rw [hk]
  cases hg : o.guard with
  | none => exact .inr (.inr fun g => by unfold valOp; rw [hg]; exact hv g)
  | some q =>
    obtain ⟨t, want⟩ := q
    cases hb : gate (fr.get t) want with
    | none => exact .inl fun g => by unfold valOp; simp only [hg, hb]
    | some b =>
      cases b
      · exact .inr (.inl fun g => by unfold valOp; simp only [hg, hb])
      · exact .inr (.inr fun g => by unfold valOp; simp only [hg, hb]; exact hv g)
theorem swap_via {call : CallF} {E : Env} {base kept : Nat} {x y : ROp} {fr : Frame} {h h1 h2 : Heap} {u v : Val} (hc : viaB y x = true)
    (ey : valOp call E base kept y fr h = some (.ret v, h1)) (ex : valOp call E base kept x fr h1 = some (.ret u, h2)) :
    ∃ h3, valOp call E base kept x fr h = some (.ret u, h3) ∧ valOp call E base kept y fr h3 = some (.ret v, h2) := by
  unfold viaB at hc
  split at hc
  case h_2 => cases hc
  rename_i agg n a t size b z t' hy hx
  have e : t = t' := by simpa using hc
  subst e
  rcases valOp_op (call := call) (E := E) (base := base) (kept := kept) (fr := fr) hy with g | g | g
  · rw [g] at ey; cases ey
  · rw [g] at ey
    simp only [Option.some.injEq, Prod.mk.injEq, Res.ret.injEq] at ey
    obtain ⟨rfl, rfl⟩ := ey
    exact ⟨h2, ex, g h2⟩
  · rw [g] at ey
    simp only [Option.map_eq_some_iff, Prod.mk.injEq, Res.ret.injEq] at ey
    obtain ⟨⟨v', h1'⟩, hl, rfl, rfl⟩ := ey
    obtain ⟨rfl, _⟩ := read_more (by simp [Op.cls]) hl
    rcases valOp_op (call := call) (E := E) (base := base) (kept := kept) (fr := fr) hx with g' | g' | g'
    · rw [g'] at ex; cases ex
    · rw [g'] at ex
      simp only [Option.some.injEq, Prod.mk.injEq, Res.ret.injEq] at ex
      obtain ⟨rfl, rfl⟩ := ex
      exact ⟨h1', g' h1', by rw [g, hl]; rfl⟩
    · refine ⟨h2, ex, ?_⟩
      rw [g'] at ex
      simp only [Option.map_eq_some_iff, Prod.mk.injEq, Res.ret.injEq] at ex
      obtain ⟨⟨u', h2'⟩, hst, rfl, rfl⟩ := ex
      rw [g]
      simp only [Op.eval] at hl hst ⊢
      split at hl
      case isFalse => cases hl
      rename_i hs1
      rw [if_pos hs1]
      split at hst
      case isFalse => cases hst
      rename_i hs2
      cases hp : a.ev fr <;> simp only [hp, reduceCtorEq, Option.map_eq_some_iff, Prod.mk.injEq] at hl
      rename_i k o
      obtain ⟨v2, hl, rfl, _⟩ := hl
      cases hq : b.ev fr <;> simp only [hq, reduceCtorEq] at hst
      rename_i k2 o2
      split at hst
      case isFalse => cases hst
      simp only [Option.map_eq_some_iff, Prod.mk.injEq] at hst
      obtain ⟨h3, hst, rfl, rfl⟩ := hst
      have hne : k ≠ k2 := by
        rw [hp] at hs1
        rw [hq] at hs2
        cases ht : fr.get t <;> simp only [ht, sameBlk, reduceCtorEq, Option.some.injEq, beq_iff_eq, beq_eq_false_iff_ne, ne_eq] at hs1 hs2
        intro e
        exact hs2 (e.symm.trans hs1)
      have hget : h3.get k = h1'.get k := by
        unfold Heap.store at hst
        cases hb : h1'.get k2 with
        | none => simp [hb] at hst
        | some b =>
          simp only [hb] at hst
          split at hst
          · obtain rfl := Option.some.inj hst
            rw [Heap.get_set, if_neg hne]
          · cases hst
      have : h3.load agg n k o = h1'.load agg n k o := by unfold Heap.load; rw [hget]
      simp only [this, hl]
      rfl
theorem swap {call : CallF} (C : CallKeeps call) {E : Env} {base kept : Nat} {x y : ROp} {fr : Frame} {h h1 h2 : Heap} {u v : Val} (w : h.Wf) (hc : commB y x = true) (hb : base ≤ h.size)
    (ey : valOp call E base kept y fr h = some (.ret v, h1)) (ex : valOp call E base kept x fr h1 = some (.ret u, h2)) :
    ∃ h3, valOp call E base kept x fr h = some (.ret u, h3) ∧ valOp call E base kept y fr h3 = some (.ret v, h2) := by
  have w1 := (grows_valOp C w hb ey).wf
  have Hy := how C w ey
  have Hx := how C w1 ex
  by_cases hvia : viaB y x = true
  · exact swap_via hvia ey ex
  simp only [commB, Bool.and_eq_true, Bool.or_eq_true, beq_iff_eq, decide_eq_true_eq, hvia, Bool.false_eq_true, false_or] at hc
  obtain ⟨_, hc⟩ := hc
  cases Hy with
  | pure e g => subst e; exact ⟨h2, ex, g h2⟩
  | read c e g =>
    subst e
    refine ⟨h2, ex, g h2 ?_⟩
    cases Hx with
    | pure e g => subst e; exact Sub.refl _
    | read c e g => subst e; exact Sub.refl _
    | both c e g => subst e; exact Sub.refl _
    | lays c k b e e1 e2 e3 g => subst e; exact sub_set e3
    | calls c s => exact s
    | any c5 => exfalso; omega
  | both c e g =>
    subst e
    refine ⟨h2, ex, g h2 ?_⟩
    cases Hx with
    | pure e g => subst e; exact Sub.refl _
    | read c e g => subst e; exact Sub.refl _
    | both c e g => subst e; exact Sub.refl _
    | lays c k b e e1 e2 e3 g => subst e; exact sub_set e3
    | calls c s => exact s
    | any c5 => exfalso; omega
  | lays c k b e e1 e2 e3 g =>
    cases Hx with
    | pure e' g' => subst e'; exact ⟨h, g' h, ey⟩
    | read c' e' g' => exfalso; omega
    | both c' e' g' => exfalso; omega
    | calls c' s => exfalso; omega
    | any c5 => exfalso; omega
    | lays c' k' b' e' e1' e2' e3' g' =>
      have hx2 : x.cls = 2 := by omega
      subst e
      have hkk : k' ≠ k := by
        intro e
        subst e
        rw [Heap.get_set, if_pos rfl] at e3'
        cases e3'
      have hk'h : h.get k' = none := by
        rw [Heap.get_set, if_neg hkk] at e3'
        exact e3'
      have hk's : k' < h.size := by rw [Heap.size_set _ _ _ e1] at e1'; exact e1'
      have hk'has : h.has k' = true := by
        have : ∀ (l : Heap), (l.set k (some b)).has k' = true → l.has k' = true ∨ k' = k := by
          intro l hl
          induction l with
          | nil => simp only [Heap.set, Heap.has] at hl; split at hl <;> simp_all
          | cons p r ih =>
            obtain ⟨i, z⟩ := p
            simp only [Heap.set] at hl
            split at hl
            · rename_i ei
              simp only [Heap.has] at hl ⊢
              exact .inl hl
            · simp only [Heap.has] at hl ⊢
              split at hl
              · rename_i ei; rw [if_pos ei]; exact .inl rfl
              · rename_i ei; rw [if_neg ei]; exact ih hl
        exact (this h e2').resolve_right hkk
      refine ⟨h.set k' (some b'), g' h (.inr hx2) hk's hk'has hk'h, ?_⟩
      rw [e', Heap.set_comm h (Ne.symm hkk) _ _ e2 hk'has]
      refine g _ (.inl (sub_set hk'h)) (by rw [Heap.size_set _ _ _ hk's]; exact e1) (Heap.has_set h _ _ _ e2) ?_
      rw [Heap.get_set, if_neg (Ne.symm hkk)]
      exact e3
  | calls c s =>
    cases Hx with
    | pure e' g' => subst e'; exact ⟨h, g' h, ey⟩
    | read c' e' g' => exfalso; omega
    | both c' e' g' => exfalso; omega
    | lays c' => exfalso; omega
    | calls c' s => exfalso; omega
    | any c5 => exfalso; omega
  | any c =>
    cases Hx with
    | pure e' g' => subst e'; exact ⟨h, g' h, ey⟩
    | read c' e' g' => exfalso; omega
    | both c' e' g' => exfalso; omega
    | lays c' => exfalso; omega
    | calls c' s => exfalso; omega
    | any c5 => exfalso; omega
end Gc
end
section
/- From the model's code of a function to its text in the small language Gc: regions, calls and whole functions; and what a step of a region is worth. -/
set_option linter.unusedVariables false
namespace Gc
open Go Go.RowKit
/-- What is said of a region beside its text: the order in which Gc takes its operations; the slots that nobody reads behind it; how many block numbers are kept, and for which operations; the calls that must leave what was there. -/
structure Hint where
  order : List Nat
  drop : List Nat
  keep : Nat
  slots : List (Nat × Nat)
  prot : List Nat
def isBuiltin : Go.Callee → Bool
  | .builtin _ => true
  | _ => false
def cCallee (S : Sig) (I : Inv) : Go.Callee → Option Callee
  | .value (.func f) => if S.fn (I.fn f) = f then some (.fn (I.fn f)) else none
  | .value x => (cOpd S I x).map .val
  | .invoke r m => (cOpd S I r).map fun r => .inv r (I.meth m)
  | .builtin _ => none
def cROpK (P : Program) (S : Sig) (I : Inv) (H : Hint) (i : Nat) (o : Oper) : Option ROpK :=
  match o.op with
  | .call c =>
    if isBuiltin c.callee then (cOp P S I (H.slots.lookup i) o).map .op
    else (cCallee S I c.callee).bind fun cal => (cOpds S I c.args.toList).map fun args => .call (H.prot.contains i) cal args
  | _ => (cOp P S I (H.slots.lookup i) o).map .op
def cGuard (ops : Array Oper) : Option (Nat × Bool) → Option (Option (Nat × Bool))
  | none => some none
  | some (j, b) => ((ops[j]?).bind (·.dst)).map fun t => some (t, b)
def dstOk (N : Nat) : Option Nat → Bool
  | none => true
  | some d => decide (d < N)
def cROp (P : Program) (S : Sig) (I : Inv) (N : Nat) (ops : Array Oper) (H : Hint) (i : Nat) : Option ROp :=
  (ops[i]?).bind fun o => if dstOk N o.dst = true then (cGuard ops o.guard).map fun g => ⟨o.dst, g, (cROpK P S I H i o).getD (.op .fail)⟩ else none
def cROps (P : Program) (S : Sig) (I : Inv) (N : Nat) (ops : Array Oper) (H : Hint) : List Nat → Option (List ROp)
  | [] => some []
  | i :: l => (cROp P S I N ops H i).bind fun r => (cROps P S I N ops H l).map (r :: ·)
def deps (ops : Array Oper) (i : Nat) : List Nat := ((ops[i]?).map fun o => (o.after.toList.filter (Region.binds .any)).map (·.on)).getD []
def maskOf (tab : List (Nat × Nat)) (i : Nat) : Nat := (tab.lookup i).getD 0
def addMask (ops : Array Oper) (tab : List (Nat × Nat)) (i : Nat) : List (Nat × Nat) := (i, (deps ops i).foldl (fun m d => m ||| (2 ^ d ||| maskOf tab d)) 0) :: tab
def maskTab (ops : Array Oper) (l : List Nat) : List (Nat × Nat) := l.foldl (addMask ops) []
def pairsOk (tab : List (Nat × Nat)) : List (Nat × ROp) → Bool
  | [] => true
  | p :: r => r.all (fun q => (maskOf tab q.1).testBit p.1 || commB p.2 q.2) && pairsOk tab r
def depsBefore (ops : Array Oper) : List Nat → List Nat → Bool
  | _, [] => true
  | seen, i :: l => (deps ops i).all (fun d => seen.contains d) && depsBefore ops (i :: seen) l
def drawOk (ops : Array Oper) (l : List Nat) (rops : List ROp) : Bool :=
  l.length == ops.size && decide l.Nodup && l.all (fun i => decide (i < ops.size)) && (List.range ops.size).all (fun j => l.contains j) && depsBefore ops [] l && pairsOk (maskTab ops l) (l.zip rops)
def cCode (P : Program) (S : Sig) (I : Inv) (N : Nat) (hints : Nat → Option Hint) : Go.Code → Option Code
  | .skip => some .skip
  | .seq a b => (cCode P S I N hints a).bind fun a => (cCode P S I N hints b).map fun b => .seq a b
  | .region id ops draw => (hints id).bind fun H =>
      if draw = true then (cROps P S I N ops H H.order).bind fun rops => if drawOk ops H.order rops = true then some (.region rops H.drop H.keep true) else none
      else (cROps P S I N ops H (List.range ops.size)).map fun rops => .region rops H.drop H.keep false
  | .cond c a b => (cOpd S I c).bind fun c => (cCode P S I N hints a).bind fun a => (cCode P S I N hints b).map fun b => .cond c a b
  | .block id c => (cCode P S I N hints c).map fun c => .block id c
  | .loop c => (cCode P S I N hints c).map fun c => .loop c
  | .exit id => some (.exit id)
  | .ret => some .ret
  | _ => some (.region [⟨none, none, .op .fail⟩] [] 0 false)
def cRVs (P : Program) : List ResultVar → Option (List RV)
  | [] => some []
  | .tmp t :: r => (cRVs P r).map (.tmp t :: ·)
  | .cell a t :: r => (P.underlying t).bind fun d => (P.info? t).bind fun i => (cRVs P r).map (.cell a (isAggD d) (if isAggD d then i.size else 1) :: ·)
/-! ### What is asked of a program -/
def ResRel (S : Sig) (μ : Place) : Res → Ending → Prop
  | .ret v, .returned u => VRel S μ v u
  | .pan v, .panicked ch => ∃ u, ch = [{ v := u, recovered := false }] ∧ VRel S μ v u
  | _, _ => False
/-- What a call comes to in the model. -/
def CPost (S : Sig) (B : Nat) (μ : Place) (r : Res) (h' : Heap) (w : World) (e : Ending) (w' : World) : Prop :=
  ∃ μ', Ext μ μ' ∧ HRel S B μ' h' w' ∧ Below B w w' ∧ ResRel S μ' r e
def IsFn (P : Program) (f : FuncId) : Prop := ∃ gf, P.funcs[f]? = some gf ∧ gf.body.isSome = true ∧ (gf.name == "runtime.NumGoroutine") = false
def CallOk (P : Program) (S : Sig) (B : Nat) (call : CallF) : Prop :=
  ∀ base f args h r h' (vargs : List Value) μ w, base ≤ h.size → call base f args h = some (r, h') → Ext S.base μ → VRels S μ args vargs → HRel S B μ h w → IsFn P (S.fn f) ∧ Calls P (S.fn f) vargs.toArray w (CPost S B μ r h' w)
def subPart (pt : Option (Bool × Nat × Nat)) (x : Val) : Option Val :=
  match pt with
  | none => some x
  | some (agg, off, size) => part agg off size x
def MethodOk (P : Program) (S : Sig) (I : Inv) (E : Env) : Prop :=
  ∀ t name f pt, E.method t (I.meth name) = some (f, pt) → ∀ μ w (x u : Val) (v : Value), VRel S μ x v → subPart pt x = some u →
    ∃ uv, (method (P.types.size + Made.depth) (S.ty t) v name).run P w = .ok (S.fn f, uv) w ∧ VRel S μ u uv
variable {P : Program} {S : Sig} {I : Inv} {B N : Nat} {μ : Place} {h h' : Heap} {w : World} {fr : Frame} {a : Act} {x : Val}
theorem callFunc_run {f : FuncId} {args : Array Value} (hf : IsFn P f) : (callFunc f args).run P w = .ok (.enter f args) w := by
  obtain ⟨gf, h1, h2, h3⟩ := hf
  have hb : gf.body.isNone = false := by cases hb : gf.body <;> simp_all
  unfold callFunc
  simp only [Sem.run_bind, run_program, Result.andThen_ok, h1, h3, hb, Bool.false_eq_true, if_false, Sem.run_pure]
theorem inv_first (rv : Value) (l : Array Value) : (#[rv] ++ l)[0]? = some rv := by
  rw [Array.getElem?_append_left (by simp)]
  rfl
theorem inv_rest (rv : Value) (l : Array Value) : (#[rv] ++ l).extract 1 (#[rv] ++ l).size = l := by
  apply Array.ext'
  rw [Array.toList_extract, List.extract_eq_take_drop]
  simp only [Array.toList_append, List.singleton_append, List.drop_succ_cons, List.drop_zero]
  exact List.take_of_length_le (by simp)
/-- A call of a region. -/
theorem call_sound {E : Env} {call : CallF} (C : CallOk P S B call) (M : MethodOk P S I E) {o : Oper} {c : Call} {cal : Callee} {args : List Opd} {base f : Nat} {vs : List Val} {r : Res} {Q : Exit → Act → World → Prop} {K : Act → World → Prop}
    (ho : o.op = .call c) (hb : base ≤ h.size) (hcal : cCallee S I c.callee = some cal) (hargs : cOpds S I c.args.toList = some args) (hf : cal.find E fr (args.map (·.ev fr)) = some (f, vs)) (hc : call base f vs h = some (r, h')) (F : FRel S μ N fr a.tmps) (H : HRel S B μ h w)
    (hK : ∀ μ' v u w', r = .ret v → VRel S μ' v u → Ext μ μ' → HRel S B μ' h' w' → Below B w w' → K (a.put o.dst u) w')
    (hQ : ∀ μ' v u w', r = .pan v → VRel S μ' v u → Ext μ μ' → HRel S B μ' h' w' → Below B w w' → Q (.panic [{ v := u, recovered := false }]) a w') :
    o.wp P a w K Q := by
  have hav := cOpds_rel F hargs
  -- whom the model calls, and with what
  have key : ∃ vargs : List Value, VRels S μ vs vargs ∧ (IsFn P (S.fn f) → (execOp a.eval o).run P w = .ok (.enter (S.fn f) vargs.toArray) w) := by
    unfold execOp
    simp only [ho]
    cases hcc : c.callee with
    | builtin b => simp [hcc, cCallee] at hcal
    | value y =>
      rw [hcc] at hcal
      have viaVal : ∀ cs' : Array Value, a.eval y = .func (.func (S.fn f)) #[] cs' → ∀ avs, avs = c.args.map a.eval → (IsFn P (S.fn f) → ((do let d ← resolve a.eval c o.type; invoke d.target d.args) : Sem Next).run P w = .ok (.enter (S.fn f) (avs ++ cs')) w) := by
        rintro cs' hy avs rfl hfn
        simp only [resolve, hcc, hy, Deferred.ofValue, Sem.run_bind, Sem.run_pure, Result.andThen_ok, invoke, Array.empty_append, callFunc_run hfn]
      have hfun : (∃ g, y = .func g ∧ S.fn (I.fn g) = g ∧ cal = .fn (I.fn g)) ∨ (∃ y', cOpd S I y = some y' ∧ cal = .val y') := by
        cases y <;> simp only [cCallee, Option.map_eq_some_iff] at hcal
        case func g =>
          split at hcal
          · rename_i e; exact .inl ⟨g, rfl, e, (Option.some.inj hcal).symm⟩
          · cases hcal
        all_goals (obtain ⟨y', hy, rfl⟩ := hcal; exact .inr ⟨y', hy, rfl⟩)
      rcases hfun with ⟨g, rfl, hg, rfl⟩ | ⟨y', hy, rfl⟩
      · simp only [Callee.find, Option.some.injEq, Prod.mk.injEq] at hf
        obtain ⟨rfl, rfl⟩ := hf
        refine ⟨c.args.toList.map a.eval, hav, fun hfn => ?_⟩
        have := viaVal #[] (by simp [Act.eval, hg]) _ rfl hfn
        rw [this]
        congr 2
        apply Array.ext'
        simp
      · simp only [Callee.find] at hf
        have hr := cOpd_rel F hy
        cases hv : y'.ev fr <;> simp only [hv, reduceCtorEq, Option.some.injEq, Prod.mk.injEq] at hf
        obtain ⟨rfl, rfl⟩ := hf
        rw [hv] at hr
        simp only [VRel] at hr
        obtain ⟨cs', hy', hcs⟩ := hr
        refine ⟨c.args.toList.map a.eval ++ cs'.toList, hav.append hcs, fun hfn => ?_⟩
        have := viaVal cs' hy' _ rfl hfn
        rw [this]
        congr 2
        apply Array.ext'
        simp
    | invoke y name =>
      rw [hcc] at hcal
      simp only [cCallee, Option.map_eq_some_iff] at hcal
      obtain ⟨y', hy, rfl⟩ := hcal
      simp only [Callee.find] at hf
      have hr := cOpd_rel F hy
      cases hv : y'.ev fr <;> simp only [hv, reduceCtorEq] at hf
      rename_i t v
      rw [hv] at hr
      simp only [VRel] at hr
      obtain ⟨v', hy', hrel⟩ := hr
      cases hm : E.method t (I.meth name) with
      | none => simp [hm] at hf
      | some g =>
        obtain ⟨f', pt⟩ := g
        rw [hm] at hf
        have hsub : ∃ u, subPart pt v = some u ∧ f = f' ∧ vs = u :: args.map (·.ev fr) := by
          cases pt with
          | none =>
            simp only [Option.some.injEq, Prod.mk.injEq] at hf
            exact ⟨v, rfl, hf.1.symm, hf.2.symm⟩
          | some q =>
            obtain ⟨agg, off, size⟩ := q
            simp only [Option.map_eq_some_iff, Prod.mk.injEq] at hf
            obtain ⟨u, hu, h1, h2⟩ := hf
            exact ⟨u, hu, h1.symm, h2.symm⟩
        obtain ⟨u, hu, rfl, rfl⟩ := hsub
        obtain ⟨uv, hrun, huv⟩ := M t name f pt hm μ w v u v' hrel hu
        refine ⟨uv :: c.args.toList.map a.eval, by simp only [VRels]; exact ⟨uv, _, rfl, huv, hav⟩, fun hfn => ?_⟩
        simp only [resolve, hcc, Sem.run_bind, Sem.run_pure, Result.andThen_ok, invoke, hy', inv_first, inv_rest, callMethod, run_program, hrun, callFunc_run hfn]
        congr 2
        apply Array.ext'
        simp
  obtain ⟨vargs, hvr, hrun⟩ := key
  obtain ⟨hfn, hcalls⟩ := C base f vs h r h' vargs μ w hb hc F.ext hvr H
  unfold Oper.wp
  rw [hrun hfn, Oper.upon_enter]
  refine hcalls.mono fun e w' he => ?_
  obtain ⟨μ', E', H', Bw, hres⟩ := he
  cases r with
  | ret v =>
    cases e <;> simp only [ResRel] at hres
    exact hK μ' v _ w' rfl hres E' H' Bw
  | pan v =>
    cases e <;> simp only [ResRel] at hres
    obtain ⟨u, rfl, hu⟩ := hres
    exact hQ μ' v u w' rfl hu E' H' Bw
/-- One operation of a region. -/
theorem rop_sound {E : Env} {call : CallF} (C : CallOk P S B call) (M : MethodOk P S I E) {ops : Array Oper} {Hn : Hint} {i base kept Nt : Nat} {ro : ROp} {fr' : Frame} {ex : Ex} {Q : Exit → Act → World → Prop} {K : Act → World → Prop}
    (hb : base ≤ h.size) (hc : cROp P S I Nt ops Hn i = some ro) (hN : Nt ≤ N) (hs : stepOp call E base kept ro fr h = some (ex, fr', h')) (F : FRel S μ N fr a.tmps) (H : HRel S B μ h w)
    (hK : ex = .norm → ∀ μ' a' w', Ext μ μ' → FRel S μ' N fr' a'.tmps → HRel S B μ' h' w' → Below B w w' → a'.defers = a.defers → K a' w')
    (hQ : ∀ μ' v u a' w', ex = .pan v → VRel S μ' v u → Ext μ μ' → HRel S B μ' h' w' → Below B w w' → a'.defers = a.defers → Q (.panic [{ v := u, recovered := false }]) a' w') :
    wpOp P ops Q i K a w := by
  unfold cROp at hc
  cases ho : ops[i]? with
  | none => simp [ho] at hc
  | some o =>
    rw [ho] at hc
    simp only [Option.bind_some] at hc
    split at hc
    case isFalse => cases hc
    rename_i hd
    simp only [Option.bind_eq_some_iff, Option.map_eq_some_iff] at hc
    obtain ⟨g, hg, rfl⟩ := hc
    have hdst : ∀ k, o.dst = some k → k < N := by
      intro k e
      rw [e] at hd
      simp [dstOk] at hd
      exact Nat.lt_of_lt_of_le hd hN
    unfold wpOp
    rw [ho]
    simp only
    have putDefers : ∀ (d : Option Nat) (v : Value), (a.put d v).defers = a.defers := by intro d v; cases d <;> rfl
    -- when the operation is wanted
    have run : stepK call E base kept ⟨o.dst, g, (cROpK P S I Hn i o).getD (.op .fail)⟩ fr h = some (ex, fr', h') → o.wp P a w K Q := by
      intro hs
      cases hk : cROpK P S I Hn i o with
      | none =>
        rw [hk] at hs
        simp [stepK, Op.eval] at hs
      | some k =>
      rw [hk] at hs
      simp only [Option.getD_some] at hs
      unfold stepK at hs
      cases hkk : k with
      | op p =>
        simp only [hkk] at hs
        cases hev : p.eval base kept fr h with
        | none => simp [hev] at hs
        | some q =>
          obtain ⟨v, h2⟩ := q
          simp only [hev, Option.some.injEq, Prod.mk.injEq] at hs
          obtain ⟨rfl, rfl, rfl⟩ := hs
          have hcop : cOp P S I (Hn.slots.lookup i) o = some p := by
            unfold cROpK at hk
            rw [hkk] at hk
            cases hop : o.op <;> rw [hop] at hk <;> simp only [Option.map_eq_some_iff, ROpK.op.injEq, exists_eq_right] at hk <;> first
              | exact hk
              | skip
            split at hk
            · simpa using hk
            · simp only [Option.bind_eq_some_iff, Option.map_eq_some_iff, reduceCtorEq, and_false, exists_false] at hk
          obtain ⟨μ', w', hr, E', H', Bw⟩ := op_good hcop hev F H
          unfold Oper.wp
          rcases hr with ⟨u, hr, hu⟩ | ⟨hr, rfl⟩
          · rw [hr, Oper.upon_value]
            exact hK rfl μ' _ w' E' ((F.mono E').put o.dst hdst hu) H' Bw (putDefers _ _)
          · rw [hr, Oper.upon_skip]
            exact hK rfl μ' _ w' E' ((F.mono E').put o.dst hdst (by simp [VRel])) H' Bw (putDefers _ _)
      | call prot cal args =>
        simp only [hkk] at hs
        cases hfd : cal.find E fr (args.map (·.ev fr)) with
        | none => simp [hfd] at hs
        | some q =>
          obtain ⟨f, vs⟩ := q
          simp only [hfd] at hs
          cases hcl : call (if prot then h.size else base) f vs h with
          | none => simp [hcl] at hs
          | some q =>
            obtain ⟨r, h2⟩ := q
            rw [hcl] at hs
            unfold cROpK at hk
            rw [hkk] at hk
            cases hop : o.op <;> rw [hop] at hk <;> simp only [Option.map_eq_some_iff, reduceCtorEq, and_false, exists_false] at hk
            rename_i c
            split at hk
            · simp at hk
            · simp only [Option.bind_eq_some_iff, Option.map_eq_some_iff, ROpK.call.injEq] at hk
              obtain ⟨cal', hcal, args', hargs, -, rfl, rfl⟩ := hk
              cases r with
              | ret v =>
                simp only [Option.some.injEq, Prod.mk.injEq] at hs
                obtain ⟨rfl, rfl, rfl⟩ := hs
                refine call_sound C M hop (by split <;> omega) hcal hargs hfd hcl F H (fun μ' v' u w' e hu E' H' Bw => ?_) (fun μ' v' u w' e => by cases e)
                obtain rfl := Res.ret.inj e
                exact hK rfl μ' _ w' E' ((F.mono E').put o.dst hdst hu) H' Bw (putDefers _ _)
              | pan v =>
                simp only [Option.some.injEq, Prod.mk.injEq] at hs
                obtain ⟨rfl, rfl, rfl⟩ := hs
                refine call_sound C M hop (by split <;> omega) hcal hargs hfd hcl F H (fun μ' v' u w' e => by cases e) (fun μ' v' u w' e hu E' H' Bw => ?_)
                obtain rfl := Res.pan.inj e
                exact hQ μ' _ u a w' rfl hu E' H' Bw rfl
    unfold stepOp at hs
    cases hog : o.guard with
    | none =>
      rw [hog] at hg
      simp [cGuard] at hg
      subst hg
      simp only [Region.wanted, hog, if_true]
      exact .inl (run hs)
    | some q =>
      obtain ⟨j, want⟩ := q
      rw [hog] at hg
      simp only [cGuard, Option.map_eq_some_iff] at hg
      obtain ⟨t, ht, rfl⟩ := hg
      simp only at hs
      have hr := F.get t
      have tmp : ∀ z, a.tmps.getD t Go.undef = z → z ≠ Go.undef → a.tmps[t]? = some z := fun z hb hz => by
        rw [Array.getD_eq_getD_getElem?] at hb
        cases hq : a.tmps[t]? with
        | none => rw [hq] at hb; exact absurd hb.symm (by simpa using hz)
        | some y => rw [hq] at hb; simp at hb; rw [hb]
      have no : yielded ops a.tmps j ≠ some want → ¬ (Region.wanted o (yielded ops a.tmps) = true) := fun h => by
        simp only [Region.wanted, hog, beq_iff_eq]
        exact h
      cases hgt : gate (fr.get t) want with
      | none => simp [hgt] at hs
      | some g =>
        simp only [hgt] at hs
        cases hv : fr.get t <;> rw [hv] at hgt <;> simp only [gate, reduceCtorEq] at hgt
        case bool b =>
          rw [hv] at hr
          have hyield : yielded ops a.tmps j = some b := by
            unfold yielded
            rw [ht]
            have : a.tmps[t]? = some (.bool b) := tmp _ hr.of_bool (by simp [Go.undef])
            simp [this]
          simp only [Option.some.injEq] at hgt
          subst hgt
          by_cases e : b = want
          · have e' : (b == want) = true := by simp [e]
            rw [e'] at hs
            rw [if_pos (by simp [Region.wanted, hog, hyield, e])]
            exact .inl (run hs)
          · have e' : (b == want) = false := by simp [e]
            rw [e'] at hs
            rw [if_neg (no (by rw [hyield]; simpa using e))]
            simp only [Option.some.injEq, Prod.mk.injEq] at hs
            obtain ⟨rfl, rfl, rfl⟩ := hs
            exact hK rfl μ _ w (Ext.refl _) (F.put o.dst hdst (by simp [skipped, VRel, VRels, Go.undef])) H (Below.refl _ _) (putDefers _ _)
        case tup l =>
          cases l with
          | cons x l => simp [gate] at hgt
          | nil =>
          rw [hv] at hr
          simp only [VRel, VRels] at hr
          obtain ⟨cs, e1, e2⟩ := hr
          have e3 : cs = #[] := by
            cases cs; simpa using e2
          subst e3
          have hyield : yielded ops a.tmps j ≠ some want := by
            unfold yielded
            rw [ht]
            intro h
            simp only [Option.bind_some] at h
            rw [Array.getD_eq_getD_getElem?] at e1
            cases hq : a.tmps[t]? with
            | none => simp [hq] at h
            | some y => rw [hq] at e1 h; simp at e1; subst e1; simp at h
          simp only [Option.some.injEq] at hgt
          subst hgt
          rw [if_neg (no hyield)]
          simp only [Option.some.injEq, Prod.mk.injEq] at hs
          obtain ⟨rfl, rfl, rfl⟩ := hs
          exact hK rfl μ _ w (Ext.refl _) (F.put o.dst hdst (by simp [skipped, VRel, VRels, Go.undef])) H (Below.refl _ _) (putDefers _ _)
end Gc
end
section
/- A run of the small language Gc tells what the model's run comes to, in every order and at every capacity that the model may draw. -/
set_option linter.unusedVariables false
namespace Gc
open Go Go.RowKit
variable {P : Program} {S : Sig} {I : Inv} {B N : Nat} {μ : Place} {h h' : Heap} {w : World} {fr : Frame} {a : Act} {x : Val}
/-- How Gc's end of a piece of code stands to the model's. -/
def ExR (S : Sig) (μ : Place) (N : Nat) : Ex → Frame → Exit → Array Value → Prop
  | .norm, fr, .normal, t => FRel S μ N fr t
  | .brk i, fr, .exit j, t => i = j ∧ FRel S μ N fr t
  | .ret, fr, .ret, t => FRel S μ N fr t
  | .pan v, _, .panic ch, _ => ∃ u, ch = [{ v := u, recovered := false }] ∧ VRel S μ v u
  | _, _, _, _ => False
/-- Whatever stands to Gc's end serves. -/
def Sat (S : Sig) (B N : Nat) (Q : Exit → Act → World → Prop) (ex : Ex) (fr' : Frame) (h' : Heap) (μ : Place) (w : World) (d : List Deferred) : Prop :=
  ∀ μ' e a' w', Ext μ μ' → HRel S B μ' h' w' → Below B w w' → a'.defers = d → ExR S μ' N ex fr' e a'.tmps → Q e a' w'
theorem Sat.later {Q : Exit → Act → World → Prop} {ex : Ex} {μ' : Place} {w' : World} {d : List Deferred} (s : Sat S B N Q ex fr h μ w d) (e : Ext μ μ') (b : Below B w w') : Sat S B N Q ex fr h μ' w' d :=
  fun μ2 x a2 w2 e2 H2 b2 d2 r2 => s μ2 x a2 w2 (e.trans e2) H2 (b.trans b2) d2 r2
theorem stepOp_norm {call : CallF} {E : Env} {base kept : Nat} {o : ROp} {fr fr' : Frame} {h h' : Heap} (e : stepOp call E base kept o fr h = some (.norm, fr', h')) : ∃ v, valOp call E base kept o fr h = some (.ret v, h') ∧ fr' = fr.dst o.dst v := by
  rw [stepOp_eq, Option.map_eq_some_iff] at e
  obtain ⟨⟨r, h1⟩, hv, e⟩ := e
  cases r with
  | ret v =>
    simp only [Res.into, Prod.mk.injEq] at e
    obtain ⟨_, rfl, rfl⟩ := e
    exact ⟨v, hv, rfl⟩
  | pan v => simp [Res.into] at e
/-- Operations one behind the other. -/
theorem ops_sound {E : Env} {call : CallF} (C : CallOk P S B call) (K : CallKeeps call) (M : MethodOk P S I E) {ops : Array Oper} {Hn : Hint} {base kept Nt : Nat} {Q : Exit → Act → World → Prop} (hN : Nt ≤ N) :
    ∀ {l : List Nat} {rops : List ROp} {fr fr' : Frame} {h h' : Heap} {ex : Ex} {μ : Place} {a : Act} {w : World}, base ≤ h.size → cROps P S I Nt ops Hn l = some rops → runOps call E base kept rops fr h = some (ex, fr', h') → FRel S μ N fr a.tmps → HRel S B μ h w →
      Sat S B N Q ex fr' h' μ w a.defers → wpOps P ops Q l a w
  | [], rops, fr, fr', h, h', ex, μ, a, w, hb, hc, hr, F, H, s => by
    simp [cROps] at hc
    subst hc
    simp only [runOps, Option.some.injEq, Prod.mk.injEq] at hr
    obtain ⟨rfl, rfl, rfl⟩ := hr
    exact s μ .normal a w (Ext.refl _) H (Below.refl _ _) rfl F
  | i :: l, rops, fr, fr', h, h', ex, μ, a, w, hb, hc, hr, F, H, s => by
    simp only [cROps, Option.bind_eq_some_iff, Option.map_eq_some_iff] at hc
    obtain ⟨r, hr1, rs, hrs, rfl⟩ := hc
    rw [wpOps_cons]
    simp only [runOps] at hr
    cases hst : stepOp call E base kept r fr h with
    | none => simp [hst] at hr
    | some q =>
      obtain ⟨x1, fr1, h1⟩ := q
      rw [hst] at hr
      refine rop_sound C M hb hr1 hN hst F H (fun e μ' a' w' E' F' H' Bw hd => ?_) (fun μ' v u a' w' e hu E' H' Bw hd => ?_)
      · subst e
        simp only at hr
        obtain ⟨v, hv, _⟩ := stepOp_norm hst
        exact ops_sound C K M hN (Nat.le_trans hb (grows_valOp K H.wf hb hv).size) hrs hr F' H' (hd ▸ s.later E' Bw)
      · subst e
        simp only [Option.some.injEq, Prod.mk.injEq] at hr
        obtain ⟨rfl, rfl, rfl⟩ := hr
        exact s μ' (.panic [{ v := u, recovered := false }]) a' w' E' H' Bw hd ⟨u, rfl, hu⟩
/-! ### Regions whose order is drawn -/
theorem cROps_mem {ops : Array Oper} {Hn : Hint} {Nt : Nat} : ∀ {l : List Nat} {rops : List ROp}, cROps P S I Nt ops Hn l = some rops → rops.length = l.length ∧ ∀ p ∈ l.zip rops, cROp P S I Nt ops Hn p.1 = some p.2
  | [], rops, hc => by simp [cROps] at hc; subst hc; simp
  | i :: l, rops, hc => by
    simp only [cROps, Option.bind_eq_some_iff, Option.map_eq_some_iff] at hc
    obtain ⟨r, hr1, rs, hrs, rfl⟩ := hc
    obtain ⟨h1, h2⟩ := cROps_mem hrs
    refine ⟨by simp [h1], fun p hp => ?_⟩
    simp only [List.zip_cons_cons, List.mem_cons] at hp
    rcases hp with rfl | hp
    · exact hr1
    · exact h2 p hp
/-- A set of operations that holds, of each, all that it waits for. -/
def Closed (ops : Array Oper) (L : Nat → Prop) : Prop := ∀ j, L j → ∀ d ∈ deps ops j, L d
def TabOk (ops : Array Oper) (tab : List (Nat × Nat)) : Prop := ∀ i y, (maskOf tab i).testBit y = true → ∀ L, Closed ops L → (∀ d ∈ deps ops i, L d) → L y
theorem foldl_mask (tab : List (Nat × Nat)) (y : Nat) : ∀ (l : List Nat) (m : Nat), (l.foldl (fun m d => m ||| (2 ^ d ||| maskOf tab d)) m).testBit y = true → m.testBit y = true ∨ ∃ d ∈ l, y = d ∨ (maskOf tab d).testBit y = true
  | [], m, h => .inl h
  | d :: l, m, h => by
    simp only [List.foldl_cons] at h
    rcases foldl_mask tab y l _ h with h | ⟨e, he, hh⟩
    · simp only [Nat.testBit_or, Nat.testBit_two_pow, Bool.or_eq_true, decide_eq_true_eq] at h
      rcases h with h | h | h
      · exact .inl h
      · exact .inr ⟨d, by simp, .inl h.symm⟩
      · exact .inr ⟨d, by simp, .inr h⟩
    · exact .inr ⟨e, by simp [he], hh⟩
theorem addMask_ok {ops : Array Oper} {tab : List (Nat × Nat)} (h : TabOk ops tab) (i : Nat) : TabOk ops (addMask ops tab i) := by
  intro j y hy L hL hd
  unfold addMask maskOf at hy
  rw [List.lookup_cons] at hy
  by_cases e : j == i
  · rw [e] at hy
    simp only [Option.getD_some] at hy
    have e : j = i := by simpa using e
    subst e
    rcases foldl_mask tab y _ _ hy with h0 | ⟨d, hd1, rfl | hd2⟩
    · simp at h0
    · exact hd _ hd1
    · exact h d y hd2 L hL fun d' hd' => hL d (hd d hd1) d' hd'
  · have e' : (j == i) = false := by simpa using e
    rw [e'] at hy
    exact h j y hy L hL hd
theorem maskTab_ok (ops : Array Oper) (l : List Nat) : TabOk ops (maskTab ops l) := by
  unfold maskTab
  have : ∀ (l : List Nat) (tab : List (Nat × Nat)), TabOk ops tab → TabOk ops (l.foldl (addMask ops) tab) := by
    intro l
    induction l with
    | nil => exact fun tab h => h
    | cons i l ih => exact fun tab h => ih _ (addMask_ok h i)
  exact this l [] fun i y hy => by simp [maskOf] at hy
theorem stepOp_of {call : CallF} {E : Env} {base kept : Nat} {o : ROp} {fr : Frame} {h h' : Heap} {v : Val} (e : valOp call E base kept o fr h = some (.ret v, h')) : stepOp call E base kept o fr h = some (.norm, fr.dst o.dst v, h') := by
  rw [stepOp_eq, e]; rfl
theorem runOps_cons {call : CallF} {E : Env} {base kept : Nat} {o : ROp} {os : List ROp} {fr fr' : Frame} {h h' : Heap} (e : runOps call E base kept (o :: os) fr h = some (.norm, fr', h')) :
    ∃ fr1 h1, stepOp call E base kept o fr h = some (.norm, fr1, h1) ∧ runOps call E base kept os fr1 h1 = some (.norm, fr', h') := by
  simp only [runOps] at e
  cases hs : stepOp call E base kept o fr h with
  | none => simp [hs] at e
  | some q =>
    obtain ⟨x1, fr1, h1⟩ := q
    rw [hs] at e
    cases x1 <;> simp only [Option.some.injEq, Prod.mk.injEq, reduceCtorEq, false_and] at e
    exact ⟨fr1, h1, rfl, e⟩
theorem runOps_of {call : CallF} {E : Env} {base kept : Nat} {o : ROp} {os : List ROp} {fr fr1 : Frame} {h h1 : Heap} {r : Option (Ex × Frame × Heap)} (e : stepOp call E base kept o fr h = some (.norm, fr1, h1)) (e2 : runOps call E base kept os fr1 h1 = r) : runOps call E base kept (o :: os) fr h = r := by
  simp only [runOps, e, e2]
/-- An operation that has nothing to do with those ahead of it comes first. -/
theorem move_front {call : CallF} (K : CallKeeps call) {E : Env} {base kept : Nat} {r : ROp} {post : List ROp} : ∀ {pre : List ROp} {fr fr' : Frame} {h h' : Heap}, h.Wf → base ≤ h.size → (∀ y ∈ pre, commB y r = true) →
    runOps call E base kept (pre ++ r :: post) fr h = some (.norm, fr', h') → ∃ fr1 h1, stepOp call E base kept r fr h = some (.norm, fr1, h1) ∧ runOps call E base kept (pre ++ post) fr1 h1 = some (.norm, fr', h')
  | [], fr, fr', h, h', w, hb, hc, e => runOps_cons e
  | y :: pre, fr, fr', h, h', w, hb, hc, e => by
    obtain ⟨fry, hy, sy, e⟩ := runOps_cons e
    obtain ⟨v, vy, rfl⟩ := stepOp_norm sy
    have gy := grows_valOp K w hb vy
    obtain ⟨fr1, h1, sr, e⟩ := move_front K gy.wf (Nat.le_trans hb gy.size) (fun z hz => hc z (by simp [hz])) e
    obtain ⟨u, vr, rfl⟩ := stepOp_norm sr
    have hcomm := hc y (by simp)
    have hap : apartB r y = true := by
      unfold commB at hcomm
      have : apartB y r = true ∨ apartB r y = true := by
        simp only [Bool.and_eq_true] at hcomm
        exact .inr hcomm.1
      rcases this with h | h
      · unfold apartB dstNe at h ⊢
        cases hd1 : r.dst <;> cases hd2 : y.dst <;> simp_all [bne_comm]
      · exact h
    simp only [apartB, Bool.and_eq_true] at hap
    obtain ⟨⟨a1, a2⟩, a3⟩ := hap
    rw [valOp_dst a2] at vr
    obtain ⟨h3, x1, x2⟩ := swap K w hcomm hb vy vr
    refine ⟨fr.dst r.dst u, h3, stepOp_of x1, ?_⟩
    rw [← valOp_dst (d := r.dst) (v := u) a1] at x2
    refine runOps_of (stepOp_of x2) ?_
    rw [dst_comm a3]
    exact e
theorem mem_deps {ops : Array Oper} {i : Nat} {o : Oper} (ho : ops[i]? = some o) {d : Nat} : d ∈ deps ops i ↔ ∃ e ∈ o.after.toList, Region.binds .any e = true ∧ e.on = d := by
  simp [deps, ho, List.mem_map, List.mem_filter, and_assoc]
theorem ready_iff {ops : Array Oper} {listed : Array Bool} {i : Nat} (hs : listed.size = ops.size) : i ∈ Region.ready .any ops listed ↔ i < ops.size ∧ listed.getD i false = false ∧ ∀ d ∈ deps ops i, listed.getD d false = true := by
  unfold Region.ready
  simp only [List.mem_filter, List.mem_range, Bool.and_eq_true, Bool.not_eq_true']
  constructor
  · rintro ⟨hi, h1, h2⟩
    have ho : ops[i]? = some ops[i] := Array.getElem?_eq_getElem hi
    refine ⟨hi, getD_both h1, fun d hd => ?_⟩
    rw [mem_deps ho] at hd
    obtain ⟨e, he, hb, rfl⟩ := hd
    rw [ho] at h2
    simp only [Option.map_some, Option.getD_some] at h2
    have := Array.all_eq_true_iff_forall_mem.1 h2 e (by simpa using he)
    simpa [hb] using this
  · rintro ⟨hi, h1, h2⟩
    have ho : ops[i]? = some ops[i] := Array.getElem?_eq_getElem hi
    refine ⟨hi, getD_in (by omega) h1, ?_⟩
    rw [ho]
    simp only [Option.map_some, Option.getD_some]
    refine Array.all_eq_true_iff_forall_mem.2 fun e he => ?_
    by_cases hb : Region.binds .any e = true
    · have := h2 e.on ((mem_deps ho).2 ⟨e, by simpa using he, hb, rfl⟩)
      rw [this]; simp
    · simp [hb]
/-- What is still to come of a region: the operations in Gc's order; what has been taken is all that each of them waited for. -/
structure Left (P : Program) (S : Sig) (I : Inv) (Nt : Nat) (ops : Array Oper) (Hn : Hint) (listed : Array Bool) (τ : List (Nat × ROp)) : Prop where
  size : listed.size = ops.size
  iff : ∀ j, j < ops.size → (listed.getD j false = false ↔ j ∈ τ.map (·.1))
  nodup : (τ.map (·.1)).Nodup
  lt : ∀ p ∈ τ, p.1 < ops.size
  closed : Closed ops fun j => listed.getD j false = true
  text : ∀ p ∈ τ, cROp P S I Nt ops Hn p.1 = some p.2
  pairs : τ.Pairwise fun p q => (∀ L, Closed ops L → (∀ d ∈ deps ops q.1, L d) → L p.1) ∨ commB p.2 q.2 = true
  order : ∀ pre p post, τ = pre ++ p :: post → ∀ d ∈ deps ops p.1, listed.getD d false = true ∨ d ∈ pre.map (·.1)
theorem getD_set {l : Array Bool} {i j : Nat} (hi : i < l.size) : (l.setIfInBounds i true).getD j false = if j = i then true else l.getD j false := by
  by_cases e : j = i
  · subst e
    rw [if_pos rfl, Array.getD_eq_getD_getElem?, Array.getElem?_setIfInBounds_self_of_lt hi]
    rfl
  · rw [if_neg e, Array.getD_eq_getD_getElem?, Array.getElem?_setIfInBounds_ne (Ne.symm e), ← Array.getD_eq_getD_getElem?]
theorem any_sound {E : Env} {call : CallF} (C : CallOk P S B call) (K : CallKeeps call) (M : MethodOk P S I E) {ops : Array Oper} {Hn : Hint} {base kept Nt : Nat} {Q : Exit → Act → World → Prop} (hN : Nt ≤ N) :
    ∀ (n : Nat) {τ : List (Nat × ROp)} {listed : Array Bool} {fr fr' : Frame} {h h' : Heap} {μ : Place} {a : Act} {w : World}, τ.length = n → Left P S I Nt ops Hn listed τ → base ≤ h.size →
      runOps call E base kept (τ.map (·.2)) fr h = some (.norm, fr', h') → FRel S μ N fr a.tmps → HRel S B μ h w → Sat S B N Q .norm fr' h' μ w a.defers → wpAny P .any ops Q n listed a w := by
  intro n
  induction n with
  | zero =>
    intro τ listed fr fr' h h' μ a w hn L hb hr F H s
    obtain rfl := List.eq_nil_of_length_eq_zero hn
    simp only [List.map_nil, runOps, Option.some.injEq, Prod.mk.injEq, true_and] at hr
    obtain ⟨rfl, rfl⟩ := hr
    refine ⟨?_, s μ .normal a w (Ext.refl _) H (Below.refl _ _) rfl F⟩
    apply List.eq_nil_iff_forall_not_mem.2
    intro i hi
    rw [ready_iff L.size] at hi
    have := (L.iff i hi.1).1 hi.2.1
    simp at this
  | succ n ih =>
    intro τ listed fr fr' h h' μ a w hn L hb hr F H s
    refine ⟨fun hnil => ?_, fun i hi => ?_⟩
    · exfalso
      cases τ with
      | nil => simp at hn
      | cons p τ =>
        have hp := L.lt p (by simp)
        have : p.1 ∈ Region.ready .any ops listed := by
          rw [ready_iff L.size]
          refine ⟨hp, (L.iff p.1 hp).2 (by simp), fun d hd => ?_⟩
          have := L.order [] p τ rfl d hd
          simpa using this
        rw [hnil] at this
        simp at this
    · rw [ready_iff L.size] at hi
      obtain ⟨hil, hi1, hi2⟩ := hi
      have hmem := (L.iff i hil).1 hi1
      rw [List.mem_map] at hmem
      obtain ⟨p, hp, rfl⟩ := hmem
      obtain ⟨pre, post, rfl⟩ := List.append_of_mem hp
      have hcomm : ∀ y ∈ pre.map (·.2), commB y p.2 = true := by
        intro y hy
        rw [List.mem_map] at hy
        obtain ⟨q, hq, rfl⟩ := hy
        have hpw := (List.pairwise_append.1 L.pairs).2.2 q hq p (by simp)
        rcases hpw with hpw | hpw
        · have hL := hpw _ L.closed hi2
          have hql : q.1 < ops.size := L.lt q (by simp [hq])
          have := (L.iff q.1 hql).2 (by simp; exact .inl ⟨q.2, hq⟩)
          rw [this] at hL
          cases hL
        · exact hpw
      rw [List.map_append, List.map_cons] at hr
      obtain ⟨fr1, h1, hst, hr⟩ := move_front K H.wf hb hcomm hr
      refine rop_sound C M hb (L.text p (by simp)) hN hst F H (fun _ μ' a' w' E' F' H' Bw hd => ?_) (fun μ' v u a' w' e => by cases e)
      obtain ⟨v, hv, _⟩ := stepOp_norm hst
      have g := grows_valOp K H.wf hb hv
      have hnd := L.nodup
      rw [List.map_append, List.map_cons] at hnd
      have hndp := List.nodup_append.1 hnd
      have hnotpre : p.1 ∉ pre.map (·.1) := fun hm => hndp.2.2 p.1 hm p.1 (by simp) rfl
      have hnotpost : p.1 ∉ post.map (·.1) := (List.nodup_cons.1 hndp.2.1).1
      have hpl : p.1 < listed.size := by rw [L.size]; exact hil
      refine ih (τ := pre ++ post) (by simp at hn ⊢; omega) ⟨by simp [L.size], fun j hj => ?_, ?_, fun q hq => L.lt q ?_, fun j hj d hd => ?_, fun q hq => L.text q ?_, ?_, ?_⟩ (Nat.le_trans hb g.size) (by rw [List.map_append]; exact hr) F' H' (hd ▸ s.later E' Bw)
      · rw [getD_set hpl]
        by_cases e : j = p.1
        · subst e
          rw [if_pos rfl]
          simp only [Bool.true_eq_false, List.map_append, List.mem_append, false_iff, not_or]
          exact ⟨hnotpre, hnotpost⟩
        · rw [if_neg e, L.iff j hj]
          simp only [List.map_append, List.map_cons, List.mem_append, List.mem_cons, e, false_or]
      · rw [List.map_append]
        refine List.nodup_append.2 ⟨hndp.1, (List.nodup_cons.1 hndp.2.1).2, fun b hb c hc => hndp.2.2 b hb c (by simp [hc])⟩
      · simp only [List.mem_append, List.mem_cons] at hq ⊢
        rcases hq with hq | hq
        · exact .inl hq
        · exact .inr (.inr hq)
      · simp only [getD_set hpl] at hj ⊢
        by_cases e : j = p.1
        · subst e
          have := hi2 d hd
          by_cases e2 : d = p.1
          · rw [if_pos e2]
          · rw [if_neg e2]; exact this
        · rw [if_neg e] at hj
          by_cases e2 : d = p.1
          · rw [if_pos e2]
          · rw [if_neg e2]; exact L.closed j hj d hd
      · simp only [List.mem_append, List.mem_cons] at hq ⊢
        rcases hq with hq | hq
        · exact .inl hq
        · exact .inr (.inr hq)
      · have hp1 := List.pairwise_append.1 L.pairs
        refine List.pairwise_append.2 ⟨hp1.1, (List.pairwise_cons.1 hp1.2.1).2, fun q hq q' hq' => hp1.2.2 q hq q' (by simp [hq'])⟩
      · intro pre' q post' e d hd
        simp only [getD_set hpl]
        by_cases e2 : d = p.1
        · rw [if_pos e2]; exact .inl rfl
        · rw [if_neg e2]
          -- where q stood before
          have : ∃ pre2 post2, pre ++ p :: post = pre2 ++ q :: post2 ∧ ∀ d, d ∈ pre2.map (·.1) → d ≠ p.1 → d ∈ pre'.map (·.1) := by
            rcases List.append_eq_append_iff.1 e with ⟨c, rfl, hc⟩ | ⟨c, rfl, hc⟩
            · -- pre' = pre ++ c, post = c ++ q :: post'
              refine ⟨pre ++ p :: c, post', by simp [hc], fun d hd hne => ?_⟩
              simp only [List.map_append, List.map_cons, List.mem_append, List.mem_cons] at hd ⊢
              rcases hd with hd | hd | hd
              · exact .inl hd
              · exact absurd hd hne
              · exact .inr hd
            · -- pre = pre' ++ c, q :: post' = c ++ post
              cases c with
              | nil =>
                simp only [List.nil_append] at hc
                refine ⟨pre' ++ [p], post', by simp [← hc], fun d hd hne => ?_⟩
                simp only [List.map_append, List.map_cons, List.map_nil, List.mem_append, List.mem_singleton] at hd
                rcases hd with hd | hd
                · exact hd
                · exact absurd hd hne
              | cons q' c =>
                simp only [List.cons_append, List.cons.injEq] at hc
                obtain ⟨rfl, hc⟩ := hc
                exact ⟨pre', c ++ p :: post, by simp, fun d hd _ => hd⟩
          obtain ⟨pre2, post2, e3, hsub⟩ := this
          rcases L.order pre2 q post2 e3 d hd with h | h
          · exact .inl h
          · exact .inr (hsub d h e2)
end Gc
end
