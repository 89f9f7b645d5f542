/- The abstract machine, a part: texts put together. Conditions: as at each theorem. -/
import Derived.WalkKit
import Derived.Laws.FloatArith
import Derived.Orders
set_option linter.unusedSimpArgs false
set_option linter.unusedVariables false
/- The abstract machine: definitions. Rows of values without capacities, NaNs without payloads; the code of a function resolved against the program's types. No condition. -/
namespace Go.Abs

/-- A variable (esz = 0) or a row of elements of esz cells. -/
structure AObj where
  cells : List Value
  esz : Nat
  rw : Bool

abbrev Heap := List AObj
abbrev Frame := List (Nat × Value)

/-- A slot whose value is forgotten. -/
def dead : Value := .chan (some 0)

def fget : Frame → Nat → Value
  | [], _ => dead
  | (u, x) :: F, t => bif Nat.beq u t then x else fget F t

def fset (F : Frame) (t : Nat) (v : Value) : Frame := (t, v) :: F

def memb : List Nat → Nat → Bool
  | [], _ => false
  | u :: l, t => bif Nat.beq u t then true else memb l t

def fkeep : List Nat → Frame → Frame
  | [], _ => []
  | t :: K, F => (t, fget F t) :: fkeep K F

def fput (F : Frame) (dst : Option Nat) (v : Value) : Frame :=
  match dst with
  | some d => fset F d v
  | none => F

def nanOf : FloatKind → Nat
  | .f32 => 0x7fc00000
  | .f64 => 0x7ff8000000000000

def isNaN (k : FloatKind) (b : Nat) : Bool := (k.decode b).isNaN

/-- A value that can lie in one cell and that is known. -/
def cellOk : Value → Bool
  | .agg _ | .tuple _ | .chan _ | .map _ => false
  | _ => true

/-- What every world has as it is. -/
def constOk : Value → Bool
  | .bool _ | .int _ _ | .float _ _ | .string _ | .pointer none | .slice none 0 0 | .nilFunc | .nilIface => true
  | _ => false

def eval (F : Frame) : Operand → Value
  | .tmp t => fget F t
  | .const (.agg cs) => if cs.toList.all constOk then .agg cs else dead
  | .const v => if constOk v then v else dead
  | .func f => .func (.func f) #[] #[]
  | .global _ => dead

/-- The kinds of '==' beyond numbers and strings. -/
inductive EqK where
  | bool | slice | iface | pointer | func | other
  deriving DecidableEq

inductive ConvK where
  | toInt (k : IntKind)
  | toFloat (k : FloatKind)
  | same
  | toBytes
  | toStr
  | mark
  deriving DecidableEq

inductive SOp where
  | mov (x : Operand)
  | pick (c a b : Operand)
  | alloc (zero : List Value)
  | box (x : Operand)
  | build (zero : List Value) (parts : List (Nat × Nat × Operand))
  | buildSlice (esz len : Nat) (zero : List Value) (parts : List (Nat × Nat × Operand))
  | load1 (x : Operand)
  | loadN (n : Nat) (x : Operand)
  | store (n : Nat) (a v : Operand)
  | nilCheck (x : Operand)
  | bin (op : BinOp) (ek : EqK) (x y : Operand)
  | un (op : UnOp) (x : Operand)
  | conv (c : ConvK) (x : Operand)
  | makeFunc (f : FuncId) (first captured : List Operand)
  | makeSlice (esz bytes : Nat) (zero : List Value) (l c : Operand)
  | sliceStr (x : Operand) (lo hi : Option Operand)
  | sliceSl (esz : Nat) (x : Operand) (lo hi : Option Operand)
  | fieldAddr (off : Nat) (x : Operand)
  | field1 (off : Nat) (x : Operand)
  | fieldN (off n : Nat) (x : Operand)
  | indexAddrS (esz : Nat) (x i : Operand)
  | indexAddrA (len esz : Nat) (x i : Operand)
  | indexStr (x i : Operand)
  | index1 (len : Nat) (x i : Operand)
  | indexN (len esz : Nat) (x i : Operand)
  | extract (x : Operand) (i : Nat)
  | len (str : Bool) (x : Operand)
  | cap (x : Operand)
  | append (esz bytes : Nat) (s x : Operand)
  | appendZ (esz bytes : Nat) (zero : List Value) (s x : Operand)
  | copy (esz : Nat) (d s : Operand)
  | minmax (mx : Bool) (xs : List Operand)
  | call (f : Operand) (args : List Operand)

/-- anc: the operations of the region that stand ahead in every order, as a mask. -/
structure SOper where
  dst : Option Nat
  guard : Option (Nat × Bool)
  op : SOp
  anc : Nat

inductive SCode where
  | skip
  | region (ops : List SOper) (draw : Bool)
  | seq (a b : SCode)
  | cond (c : Operand) (a b : SCode)
  | block (id : Nat) (body : SCode)
  | loop (body : SCode)
  | exit (id : Nat)
  | ret
  | kp (keep : List Nat) (body : SCode)

def SCode.strip : SCode → SCode
  | .seq a b => .seq a.strip b.strip
  | .cond c a b => .cond c a.strip b.strip
  | .block id b => .block id b.strip
  | .loop b => .loop b.strip
  | .kp _ b => b.strip
  | c => c

/-! ### What the operations do -/

def condOn {α : Type} (v : Value) (x y : Option α) : Option α :=
  match v with
  | .bool b => bif b then x else y
  | _ => none

def aPick (c a b : Value) : Option Value :=
  match c with
  | .bool t => some (bif t then a else b)
  | _ => none

def ptrOk (obj : AObj) : Option Nat → Bool
  | none => Nat.beq obj.esz 0
  | some n => Nat.beq obj.cells.length n && !(Nat.beq obj.esz 0)

def aLoad1 (σ : Heap) (p : Value) : Option Value :=
  match p with
  | .pointer (some a) =>
    match σ[a.block]? with
    | some obj => if ptrOk obj a.spot then obj.cells[a.off]? else none
    | none => none
  | _ => none

def aLoadN (σ : Heap) (n : Nat) (p : Value) : Option Value :=
  match p with
  | .pointer (some a) =>
    match σ[a.block]? with
    | some obj => if ptrOk obj a.spot && decide (a.off + n ≤ obj.cells.length) then some (.agg ((obj.cells.drop a.off).take n).toArray) else none
    | none => none
  | _ => none

def splice (l : List Value) (off : Nat) (new : List Value) : List Value := l.take off ++ new ++ l.drop (off + new.length)

def aStore (σ : Heap) (n : Nat) (p v : Value) : Option Heap :=
  match p with
  | .pointer (some a) =>
    match σ[a.block]? with
    | some obj =>
      if ptrOk obj a.spot && obj.rw && decide (a.off + n ≤ obj.cells.length) && Nat.beq v.cells.toList.length n && v.cells.toList.all cellOk then
        some (σ.set a.block { obj with cells := splice obj.cells a.off v.cells.toList })
      else none
    | none => none
  | _ => none

def newVar (σ : Heap) (cells : List Value) : Value × Heap := (.pointer (some ⟨σ.length, 0, none⟩), σ ++ [⟨cells, 0, true⟩])
def newRow (σ : Heap) (esz : Nat) (cells : List Value) (len : Nat) : Value × Heap := (.slice (some ⟨σ.length, 0, none⟩) len len, σ ++ [⟨cells, esz, true⟩])

def aAlloc (σ : Heap) (zero : List Value) : Option (Value × Heap) := if zero.all constOk then some (newVar σ zero) else none

def aBox (σ : Heap) (v : Value) : Option (Value × Heap) :=
  if v.cells.toList.all cellOk then some (newVar σ v.cells.toList) else none

/-- Lay parts into cells. -/
def fillS (cells : List Value) : List (Nat × Nat × Value) → Option (List Value)
  | [] => some cells
  | (off, size, v) :: rest =>
    if Nat.beq v.cells.toList.length size && decide (off + size ≤ cells.length) && v.cells.toList.all cellOk then fillS (splice cells off v.cells.toList) rest else none

def aBuild (zero : List Value) (parts : List (Nat × Nat × Value)) : Option Value :=
  if zero.all constOk then (fillS zero parts).map fun cs => .agg cs.toArray else none

def aBuildSlice (σ : Heap) (esz len : Nat) (zero : List Value) (parts : List (Nat × Nat × Value)) : Option (Value × Heap) :=
  if zero.all constOk && Nat.beq zero.length (len * esz) && !(Nat.beq esz 0) then (fillS zero parts).map fun cs => newRow σ esz cs len else none

def aNilCheck (x : Value) : Option Value :=
  match x with
  | .pointer (some a) => some (.pointer (some a))
  | .func (.func f) a b => some (.func (.func f) a b)
  | _ => none

def fbin (op : BinOp) (k : FloatKind) (x y : Nat) : Nat := (floatBits op k x y).getD (nanOf k)

def fcmp (op : BinOp) (k : FloatKind) (x y : Nat) : Option Bool :=
  let c := k.format.order x y
  match op with
  | .eql => some (c == some .eq)
  | .neq => some (c != some .eq)
  | .lss => some (c == some .lt)
  | .leq => some (c == some .lt || c == some .eq)
  | .gtr => some (c == some .gt)
  | .geq => some (c == some .gt || c == some .eq)
  | _ => none

def iArith (op : BinOp) (k : IntKind) (x y : Int) : Option Value :=
  match op with
  | .add => some (.int k (k.wrap (x + y)))
  | .sub => some (.int k (k.wrap (x - y)))
  | .mul => some (.int k (k.wrap (x * y)))
  | .quo => if y = 0 then none else some (.int k (k.wrap (x.tdiv y)))
  | .rem => if y = 0 then none else some (.int k (x.tmod y))
  | .and => some (.int k (k.wrap (BitVec.ofInt k.bits x &&& BitVec.ofInt k.bits y).toNat))
  | .or => some (.int k (k.wrap (BitVec.ofInt k.bits x ||| BitVec.ofInt k.bits y).toNat))
  | .xor => some (.int k (k.wrap (BitVec.ofInt k.bits x ^^^ BitVec.ofInt k.bits y).toNat))
  | .andNot => some (.int k (k.wrap (BitVec.ofInt k.bits x &&& ~~~BitVec.ofInt k.bits y).toNat))
  | .eql => some (.bool (x == y))
  | .neq => some (.bool (x != y))
  | .lss => some (.bool (decide (x < y)))
  | .leq => some (.bool (decide (x ≤ y)))
  | .gtr => some (.bool (decide (x > y)))
  | .geq => some (.bool (decide (x ≥ y)))
  | _ => none

def fArith (op : BinOp) (k : FloatKind) (x y : Nat) : Option Value :=
  match op with
  | .add | .sub | .mul | .quo => some (.float k (fbin op k x y))
  | _ => (fcmp op k x y).map Value.bool

def maxI : Nat := 9223372036854775807

def sArith (op : BinOp) (x y : ByteArray) : Option Value :=
  match op with
  | .add => if x.size + y.size ≤ maxI then some (.string (x ++ y)) else none
  | .eql => some (.bool (x.toList == y.toList))
  | .neq => some (.bool (!(x.toList == y.toList)))
  | .lss => some (.bool (Op.bytesLess x.toList y.toList))
  | .leq => some (.bool (Op.bytesLess x.toList y.toList || x.toList == y.toList))
  | .gtr => some (.bool (!(Op.bytesLess x.toList y.toList || x.toList == y.toList)))
  | .geq => some (.bool (!(Op.bytesLess x.toList y.toList)))
  | _ => none

def aEql (ek : EqK) (x y : Value) : Option Bool :=
  match ek, x, y with
  | .bool, .bool a, .bool b => some (a == b)
  | .slice, .slice none _ _, .slice b _ _ => some b.isNone
  | .slice, .slice _ _ _, .slice none _ _ => some false
  | .iface, .nilIface, .nilIface => some true
  | .iface, .nilIface, .iface _ _ => some false
  | .iface, .iface _ _, .nilIface => some false
  | .pointer, .pointer none, .pointer b => some b.isNone
  | .pointer, .pointer (some _), .pointer none => some false
  | _, _, _ => none

def aBin (op : BinOp) (ek : EqK) (x y : Value) : Option Value :=
  match op, x, y with
  | .shl, .int k a, .int _ b => if b < 0 then none else some (.int k (k.wrap (a * 2 ^ (min b.toNat k.bits))))
  | .shr, .int k a, .int _ b => if b < 0 then none else some (.int k (a.fdiv (2 ^ (min b.toNat k.bits))))
  | op, .int k a, .int k' b => if k = k' then iArith op k a b else none
  | op, .float k a, .float k' b => if k = k' then fArith op k a b else none
  | op, .string a, .string b => sArith op a b
  | .eql, x, y => (aEql ek x y).map Value.bool
  | .neq, x, y => (aEql ek x y).map fun b => Value.bool (!b)
  | _, _, _ => none

def aUn (op : UnOp) (x : Value) : Option Value :=
  match op, x with
  | .not, .bool b => some (.bool (!b))
  | .neg, .int k n => some (.int k (k.wrap (0 - n)))
  | .neg, .float k b => some (.float k (Op.negFloat k b))
  | .xor, .int k n => some (.int k (k.wrap (BitVec.ofInt k.bits (if k.signed then -1 else k.max) ^^^ BitVec.ofInt k.bits n).toNat))
  | _, _ => none

def f2f (s : FloatKind) (b : Nat) (k : FloatKind) : Option Nat :=
  if isNaN s b then some (if s = k then b else nanOf k) else floatToFloatBits s b k

/-- Of the bytes of a row that was made of them: their text. -/
def bytesOfCells : List Value → Option (List UInt8)
  | [] => some []
  | .int .u8 n :: rest => (bytesOfCells rest).map fun l => UInt8.ofNat n.toNat :: l
  | _ => none

/-- A slice that still tells its row whole, and what it has of it. -/
def rowAt (σ : Heap) (esz : Nat) (a : Addr) (cap : Nat) : Option AObj :=
  match σ[a.block]? with
  | some obj => if Nat.beq obj.esz esz && Nat.beq obj.cells.length (a.off + cap * esz) && !(Nat.beq esz 0) then some obj else none
  | none => none

def sliceCells (σ : Heap) (esz : Nat) (v : Value) (n : Nat) : Option (List Value) :=
  match v with
  | .slice none _ _ => if n = 0 then some [] else none
  | .slice (some a) len cap =>
    match rowAt σ esz a cap with
    | some obj => if n ≤ len ∧ n ≤ cap then some ((obj.cells.drop a.off).take (n * esz)) else none
    | none => none
  | _ => none

def aLen (str : Bool) (x : Value) : Option Value :=
  match str, x with
  | true, .string s => some (.int .i64 s.size)
  | false, .slice _ n _ => some (.int .i64 n)
  | _, _ => none

/-- Of a nil slice alone it is known. -/
def aCap (x : Value) : Option Value :=
  match x with
  | .slice none _ c => some (.int .i64 c)
  | _ => none

def aConv (σ : Heap) (c : ConvK) (x : Value) : Option (Value × Heap) :=
  match c, x with
  | .toInt k, .int _ n => some (.int k (k.wrap n), σ)
  | .toFloat k, .int _ n => some (.float k (k.nearest n), σ)
  | .toInt k, .float s b => (floatToIntVal s b k).map fun n => (.int k n, σ)
  | .toFloat k, .float s b => (f2f s b k).map fun r => (.float k r, σ)
  | .same, .string s => some (.string s, σ)
  | .toBytes, .string s => if s.size ≤ 2 ^ 46 then some (newRow σ 1 (s.data.toList.map fun b => .int .u8 (b.toNat : Int)) s.size) else none
  | .mark, .slice (some a) len cap =>
    match rowAt σ 1 a cap with
    | some obj => if obj.rw = true ∧ a.off = 0 then some (.slice (some a) len cap, σ) else none
    | none => none
  | .toStr, .slice a len cap => ((sliceCells σ 1 (.slice a len cap) len).bind bytesOfCells).map fun l => (.string ⟨l.toArray⟩, σ)
  | _, _ => none

def aMakeSlice (σ : Heap) (esz bytes : Nat) (zero : List Value) (l c : Value) : Option (Value × Heap) :=
  match l, c with
  | .int _ n, .int _ m =>
    if 0 ≤ n ∧ n = m ∧ n * bytes ≤ 2 ^ 46 ∧ n ≤ maxI ∧ 1 ≤ esz ∧ zero.length = esz ∧ zero.all constOk then
      some (newRow σ esz (List.replicate n.toNat zero).flatten n.toNat)
    else none
  | _, _ => none

def idx (v : Option Value) (d : Nat) : Option Int :=
  match v with
  | none => some d
  | some (.int _ i) => some i
  | some _ => none

def aSliceStr (x : Value) (lo hi : Option Value) : Option Value :=
  match x with
  | .string s =>
    match idx lo 0, idx hi s.size with
    | some l, some h => if 0 ≤ l ∧ l ≤ h ∧ h ≤ s.size then some (.string (s.extract l.toNat h.toNat)) else none
    | _, _ => none
  | _ => none

def aSliceSl (σ : Heap) (esz : Nat) (x : Value) (lo hi : Option Value) : Option Value :=
  match x with
  | .slice none len cap =>
    match idx lo 0, idx hi len with
    | some l, some h => if 0 ≤ l ∧ l ≤ h ∧ h ≤ cap then some (.slice none (h - l).toNat (cap - l.toNat)) else none
    | _, _ => none
  | .slice (some a) len cap =>
    match rowAt σ esz a cap, idx lo 0, idx hi len with
    | some _, some l, some h =>
      if 0 ≤ l ∧ l ≤ h ∧ h ≤ cap then
        some (.slice (some ⟨a.block, a.off + l.toNat * esz, none⟩) (h - l).toNat (cap - l.toNat))
      else none
    | _, _, _ => none
  | _ => none

def aFieldAddr (off : Nat) (x : Value) : Option Value :=
  match x with
  | .pointer (some a) => some (.pointer (some ⟨a.block, a.off + off, a.spot⟩))
  | _ => none

def aField1 (off : Nat) (x : Value) : Option Value :=
  match x with
  | .agg cs => cs.toList[off]?
  | _ => none

def aFieldN (off n : Nat) (x : Value) : Option Value :=
  match x with
  | .agg cs => if off + n ≤ cs.toList.length then some (.agg ((cs.toList.drop off).take n).toArray) else none
  | _ => none

def aIndexAddrS (σ : Heap) (esz : Nat) (x i : Value) : Option Value :=
  match x, i with
  | .slice (some a) len cap, .int _ j =>
    match rowAt σ esz a cap with
    | some _ => if 0 ≤ j ∧ j < len ∧ len ≤ cap then some (.pointer (some ⟨a.block, a.off + j.toNat * esz, some (a.off + cap * esz)⟩)) else none
    | none => none
  | _, _ => none

def aIndexAddrA (len esz : Nat) (x i : Value) : Option Value :=
  match x, i with
  | .pointer (some a), .int _ j => if 0 ≤ j ∧ j < len then some (.pointer (some ⟨a.block, a.off + j.toNat * esz, a.spot⟩)) else none
  | _, _ => none

def aIndexStr (x i : Value) : Option Value :=
  match x, i with
  | .string s, .int _ j => if 0 ≤ j then (s.data.toList[j.toNat]?).map fun b => .int .u8 (b.toNat : Int) else none
  | _, _ => none

def aIndex1 (len : Nat) (x i : Value) : Option Value :=
  match x, i with
  | .agg cs, .int _ j => if 0 ≤ j ∧ j < len then cs.toList[j.toNat]? else none
  | _, _ => none

def aIndexN (len esz : Nat) (x i : Value) : Option Value :=
  match x, i with
  | .agg cs, .int _ j => if 0 ≤ j ∧ j < len ∧ len * esz ≤ cs.toList.length then some (.agg ((cs.toList.drop (j.toNat * esz)).take esz).toArray) else none
  | _, _ => none

def aExtract (x : Value) (i : Nat) : Option Value :=
  match x with
  | .tuple vs => vs.toList[i]?
  | _ => none

/-- What is appended: cells and how many elements. -/
def appCells (σ : Heap) (esz : Nat) (x : Value) : Option (List Value × Nat) :=
  match x with
  | .slice a len cap => (sliceCells σ esz (.slice a len cap) len).map fun l => (l, len)
  | .string s => if esz = 1 then some (s.data.toList.map fun b => Value.int .u8 (b.toNat : Int), s.size) else none
  | _ => none

def aAppend (σ : Heap) (esz bytes : Nat) (s x : Value) : Option (Value × Heap) :=
  match s, appCells σ esz x with
  | .slice none n c, some (new, k) =>
    if n = 0 ∧ c = 0 ∧ 1 ≤ esz ∧ k * bytes ≤ 2 ^ 44 ∧ k ≤ 2 ^ 44 ∧ new.all cellOk then
      if k = 0 then some (.slice none 0 0, σ) else some (newRow σ esz new k)
    else none
  | .slice (some a) len cap, some (new, k) =>
    match rowAt σ esz a cap with
    | some obj =>
      if obj.rw = true ∧ a.off = 0 ∧ len = cap ∧ (len + k) * bytes ≤ 2 ^ 44 ∧ len + k ≤ 2 ^ 44 ∧ new.all cellOk then
        some (.slice (some ⟨a.block, 0, none⟩) (len + k) (len + k), σ.set a.block { obj with cells := obj.cells ++ new })
      else if obj.rw = true ∧ len < cap ∧ len + k ≤ cap ∧ new.all cellOk then
        some (.slice (some ⟨a.block, a.off, none⟩) (len + k) cap, σ.set a.block { obj with cells := splice obj.cells (a.off + len * esz) new })
      else none
    | none => none
  | _, _ => none

/-- Zeros behind a nil slice. -/
def aAppendZ (σ : Heap) (esz bytes : Nat) (zero : List Value) (s x : Value) : Option (Value × Heap) :=
  match s, x with
  | .slice none n c, .int _ k =>
    if n = 0 ∧ c = 0 ∧ 0 < k ∧ k * bytes ≤ 2 ^ 44 ∧ k ≤ 2 ^ 44 ∧ 1 ≤ esz ∧ zero.all constOk then some (newRow σ esz (List.replicate k.toNat zero).flatten k.toNat) else none
  | _, _ => none

def aCopy (σ : Heap) (esz : Nat) (d s : Value) : Option (Value × Heap) :=
  match d with
  | .slice (some a) len cap =>
    match s with
    | .slice b n c =>
      match sliceCells σ esz (.slice b n c) (min n len) with
      | some new =>
        match rowAt σ esz a cap with
        | some obj =>
          if obj.rw = true ∧ len ≤ cap ∧ new.all cellOk then
            some (.int .i64 (min n len : Nat), σ.set a.block { obj with cells := splice obj.cells a.off new })
          else none
        | none => none
      | none => none
    | _ => none
  | _ => none

def aMinMaxGo (mx : Bool) (k : IntKind) (a : Int) : List Value → Option Value
  | [] => some (.int k a)
  | .int _ b :: rest => aMinMaxGo mx k (if mx then (if b > a then b else a) else (if b < a then b else a)) rest
  | _ => none

def aMinMax (mx : Bool) : List Value → Option Value
  | .int k a :: rest => aMinMaxGo mx k a rest
  | _ => none

/-! ### Contracts and the run -/

structure Contract where
  fn : List Value → Heap → Option (Value × Heap)
  quiet : Bool

abbrev Ctab := FuncId → Option Contract

def aCall (C : Ctab) (σ : Heap) (f : Value) (args : List Value) : Option (Value × Heap) :=
  match f with
  | .func (.func g) first captured =>
    match C g with
    | some c => c.fn (first.toList ++ args ++ captured.toList) σ
    | none => none
  | _ => none

def evOp (C : Ctab) (F : Frame) (σ : Heap) : SOp → Option (Value × Heap)
  | .mov x => some (eval F x, σ)
  | .pick c a b => (aPick (eval F c) (eval F a) (eval F b)).map (·, σ)
  | .alloc zero => aAlloc σ zero
  | .box x => aBox σ (eval F x)
  | .build zero parts => (aBuild zero (parts.map fun p => (p.1, p.2.1, eval F p.2.2))).map (·, σ)
  | .buildSlice esz len zero parts => aBuildSlice σ esz len zero (parts.map fun p => (p.1, p.2.1, eval F p.2.2))
  | .load1 x => (aLoad1 σ (eval F x)).map (·, σ)
  | .loadN n x => (aLoadN σ n (eval F x)).map (·, σ)
  | .store n a v => (aStore σ n (eval F a) (eval F v)).map (undef, ·)
  | .nilCheck x => (aNilCheck (eval F x)).map (·, σ)
  | .bin op ek x y => (aBin op ek (eval F x) (eval F y)).map (·, σ)
  | .un op x => (aUn op (eval F x)).map (·, σ)
  | .conv c x => aConv σ c (eval F x)
  | .makeFunc f first captured => some (.func (.func f) (first.map (eval F)).toArray (captured.map (eval F)).toArray, σ)
  | .makeSlice esz bytes zero l c => aMakeSlice σ esz bytes zero (eval F l) (eval F c)
  | .sliceStr x lo hi => (aSliceStr (eval F x) (lo.map (eval F)) (hi.map (eval F))).map (·, σ)
  | .sliceSl esz x lo hi => (aSliceSl σ esz (eval F x) (lo.map (eval F)) (hi.map (eval F))).map (·, σ)
  | .fieldAddr off x => (aFieldAddr off (eval F x)).map (·, σ)
  | .field1 off x => (aField1 off (eval F x)).map (·, σ)
  | .fieldN off n x => (aFieldN off n (eval F x)).map (·, σ)
  | .indexAddrS esz x i => (aIndexAddrS σ esz (eval F x) (eval F i)).map (·, σ)
  | .indexAddrA len esz x i => (aIndexAddrA len esz (eval F x) (eval F i)).map (·, σ)
  | .indexStr x i => (aIndexStr (eval F x) (eval F i)).map (·, σ)
  | .index1 len x i => (aIndex1 len (eval F x) (eval F i)).map (·, σ)
  | .indexN len esz x i => (aIndexN len esz (eval F x) (eval F i)).map (·, σ)
  | .extract x i => (aExtract (eval F x) i).map (·, σ)
  | .len b x => (aLen b (eval F x)).map (·, σ)
  | .cap x => (aCap (eval F x)).map (·, σ)
  | .append esz bytes s x => aAppend σ esz bytes (eval F s) (eval F x)
  | .appendZ esz bytes zero s x => aAppendZ σ esz bytes zero (eval F s) (eval F x)
  | .copy esz d s => aCopy σ esz (eval F d) (eval F s)
  | .minmax mx xs => (aMinMax mx (xs.map (eval F))).map (·, σ)
  | .call f args => aCall C σ (eval F f) (args.map (eval F))

/-- Whether an operation with a guard is to be done. -/
def guardOf (F : Frame) : Option (Nat × Bool) → Option Bool
  | none => some true
  | some (t, want) =>
    match fget F t with
    | .bool b => some (b == want)
    | .tuple _ => some false
    | _ => none

def evOps (C : Ctab) : List SOper → Frame → Heap → Option (Frame × Heap)
  | [], F, σ => some (F, σ)
  | o :: rest, F, σ =>
    match guardOf F o.guard with
    | some g =>
      bif g then (evOp C F σ o.op).bind fun r => evOps C rest (fput F o.dst r.1) r.2
      else evOps C rest (fput F o.dst undef) σ
    | none => none

inductive Out where
  | normal | exit (id : Nat) | ret

abbrev Res := Option (Out × Frame × Heap)

/-! ### A region whose order is drawn -/

def SOp.operands : SOp → List Operand
  | .mov x | .box x | .load1 x | .loadN _ x | .nilCheck x | .un _ x | .conv _ x | .fieldAddr _ x | .field1 _ x | .fieldN _ _ x | .extract x _ | .len _ x | .cap x => [x]
  | .pick c a b => [c, a, b]
  | .alloc _ => []
  | .build _ ps | .buildSlice _ _ _ ps => ps.map (·.2.2)
  | .store _ a b | .bin _ _ a b | .makeSlice _ _ _ a b | .indexAddrS _ a b | .indexAddrA _ _ a b | .indexStr a b | .index1 _ a b | .indexN _ _ a b | .append _ _ a b | .appendZ _ _ _ a b | .copy _ a b => [a, b]
  | .makeFunc _ a b => a ++ b
  | .sliceStr x l h | .sliceSl _ x l h => [x] ++ l.toList ++ h.toList
  | .minmax _ xs => xs
  | .call f xs => f :: xs

def tmpsOf : List Operand → List Nat
  | [] => []
  | .tmp t :: l => t :: tmpsOf l
  | _ :: l => tmpsOf l

/-- The slots that an operation looks at. -/
def SOper.looks (o : SOper) : List Nat :=
  match o.guard with
  | some (t, _) => t :: tmpsOf o.op.operands
  | none => tmpsOf o.op.operands

def SOp.readsMem : SOp → Bool
  | .load1 _ | .loadN _ _ | .conv _ _ | .indexAddrS _ _ _ | .sliceSl _ _ _ _ => true
  | _ => false

def SOp.heavy : SOp → Bool
  | .alloc _ | .box _ | .buildSlice _ _ _ _ | .makeSlice _ _ _ _ _ |   .store _ _ _ | .conv .toBytes _ | .conv .mark _ | .append _ _ _ _ | .appendZ _ _ _ _ _ | .copy _ _ _ | .call _ _ => true
  | _ => false

open Classical in
/-- Whether nothing in a table writes. -/
noncomputable def allQ (C : Ctab) : Bool := decide (∀ g c, C g = some c → c.quiet = true)

noncomputable def SOp.writes (C : Ctab) : SOp → Bool
  | .store _ _ _ | .append _ _ _ _ | .appendZ _ _ _ _ _ | .copy _ _ _ => true
  | .call (.func g) _ => match C g with | some c => !c.quiet | none => true
  | .call _ _ => !allQ C
  | _ => false

def hasDst (o : SOper) (l : List Nat) : Bool :=
  match o.dst with
  | some d => memb l d
  | none => false

def sameDst (a b : SOper) : Bool :=
  match a.dst, b.dst with
  | some d, some e => Nat.beq d e
  | _, _ => false

/-- Two operations that must not change places. -/
noncomputable def clash (C : Ctab) (a b : SOper) : Bool :=
  (a.op.heavy && b.op.heavy) || (a.op.writes C && b.op.readsMem) || (a.op.readsMem && b.op.writes C) ||
  hasDst a b.looks || hasDst b a.looks || sameDst a b

/-- Against those ahead (their places count down from n). -/
noncomputable def okAgainst (C : Ctab) (o : SOper) : Nat → List SOper → Bool
  | _, [] => true
  | n, x :: rest => (!clash C x o || o.anc.testBit n) && okAgainst C o (n + 1) rest

noncomputable def drawOkGo (C : Ctab) : List SOper → List SOper → Bool
  | _, [] => true
  | done, o :: rest => okAgainst C o 0 done && drawOkGo C (done ++ [o]) rest

noncomputable def drawOk (C : Ctab) (ops : List SOper) : Bool := drawOkGo C [] ops

/-! The check where nothing writes: what depends on what. -/
def clash0 (a b : SOper) : Bool := hasDst a b.looks || hasDst b a.looks || sameDst a b
def okAgainst0 (o : SOper) : Nat → List SOper → Bool
  | _, [] => true
  | n, x :: rest => (!clash0 x o || o.anc.testBit n) && okAgainst0 o (n + 1) rest
def drawOkGo0 : List SOper → List SOper → Bool
  | _, [] => true
  | done, o :: rest => okAgainst0 o 0 done && drawOkGo0 (done ++ [o]) rest
def drawOk0 (ops : List SOper) : Bool := drawOkGo0 [] ops
noncomputable def noWrites (C : Ctab) (ops : List SOper) : Bool := ops.all fun o => !o.op.writes C

/-! The check where stores come last, behind all that is heavy or reads. -/
def isStore : SOp → Bool
  | .store _ _ _ => true
  | _ => false
def clashS (a b : SOper) : Bool := clash0 a b || (isStore b.op && (a.op.heavy || a.op.readsMem))
def okAgainstS (o : SOper) : Nat → List SOper → Bool
  | _, [] => true
  | n, x :: rest => (!clashS x o || o.anc.testBit n) && okAgainstS o (n + 1) rest
def drawOkGoS : List SOper → List SOper → Bool
  | _, [] => true
  | done, o :: rest => okAgainstS o 0 done && drawOkGoS (done ++ [o]) rest
def tailOp (o : SOper) : Bool := (isStore o.op && o.dst.isNone && o.guard.isNone) || (!o.op.heavy && !o.op.readsMem)
def tailOk : List SOper → Bool
  | [] => true
  | o :: rest => if isStore o.op then tailOp o && rest.all tailOp else tailOk rest
def drawOkS (ops : List SOper) : Bool := drawOkGoS [] ops && tailOk ops
noncomputable def noWritesS (C : Ctab) (ops : List SOper) : Bool := ops.all fun o => isStore o.op || !o.op.writes C

/-! The check where variables are read and rows are written. -/
def isVarLoad : SOp → Bool
  | .load1 _ | .loadN _ _ => true
  | _ => false
def isRowW : SOp → Bool
  | .store _ _ _ | .append _ _ _ _ | .copy _ _ _ => true
  | _ => false
noncomputable def clashV (C : Ctab) (a b : SOper) : Bool :=
  (a.op.heavy && b.op.heavy) || (a.op.writes C && b.op.readsMem && !(isRowW a.op && isVarLoad b.op)) || (a.op.readsMem && b.op.writes C && !(isVarLoad a.op && isRowW b.op)) ||
  hasDst a b.looks || hasDst b a.looks || sameDst a b
noncomputable def okAgainstV (C : Ctab) (o : SOper) : Nat → List SOper → Bool
  | _, [] => true
  | n, x :: rest => (!clashV C x o || o.anc.testBit n) && okAgainstV C o (n + 1) rest
noncomputable def drawOkGoV (C : Ctab) : List SOper → List SOper → Bool
  | _, [] => true
  | done, o :: rest => okAgainstV C o 0 done && drawOkGoV C (done ++ [o]) rest
noncomputable def drawOkV (C : Ctab) (ops : List SOper) : Bool := drawOkGoV C [] ops
/-- What is loaded is a variable's, what is stored is a row's. -/
def spotOk (F : Frame) : SOp → Bool
  | .load1 x | .loadN _ x => match eval F x with | .pointer (some a) => a.spot.isNone | _ => true
  | .store _ x _ => match eval F x with | .pointer (some a) => a.spot.isSome | _ => true
  | _ => true
def varRun (C : Ctab) : List SOper → Frame → Heap → Bool
  | [], _, _ => true
  | o :: rest, F, σ =>
    match guardOf F o.guard with
    | some g => bif g then (match evOp C F σ o.op with | some r => spotOk F o.op && varRun C rest (fput F o.dst r.1) r.2 | none => true) else varRun C rest (fput F o.dst undef) σ
    | none => true

def iter (body : Frame → Heap → Res) : Nat → Frame → Heap → Res
  | 0, _, _ => none
  | n + 1, F, σ =>
    match body F σ with
    | some (.normal, F', σ') => iter body n F' σ'
    | r => r

open Classical in
noncomputable def while_ (body : Frame → Heap → Res) (F : Frame) (σ : Heap) : Res :=
  if h : ∃ n r, iter body n F σ = some r then some (Classical.choose (Classical.choose_spec h)) else none

theorem iter_succ {body : Frame → Heap → Res} : ∀ {n : Nat} {F : Frame} {σ : Heap} {r}, iter body n F σ = some r → iter body (n + 1) F σ = some r
  | 0, _, _, _, h => by cases h
  | n + 1, F, σ, r, h => by
    rw [iter] at h ⊢
    split at h
    · exact iter_succ h
    · exact h

theorem iter_le {body : Frame → Heap → Res} {n m : Nat} {F : Frame} {σ : Heap} {r} (hnm : n ≤ m) (h : iter body n F σ = some r) : iter body m F σ = some r := by
  induction hnm with
  | refl => exact h
  | step _ ih => exact iter_succ ih

theorem while_of_iter {body : Frame → Heap → Res} {n : Nat} {F : Frame} {σ : Heap} {r} (h : iter body n F σ = some r) : while_ body F σ = some r := by
  have hex : ∃ n r, iter body n F σ = some r := ⟨n, r, h⟩
  unfold while_
  rw [dif_pos hex]
  have h2 := Classical.choose_spec (Classical.choose_spec hex)
  have a := iter_le (Nat.le_max_left n (Classical.choose hex)) h
  have b := iter_le (Nat.le_max_right n (Classical.choose hex)) h2
  rw [a] at b
  exact b.symm

theorem iter_of_while {body : Frame → Heap → Res} {F : Frame} {σ : Heap} {r} (h : while_ body F σ = some r) : ∃ n, iter body n F σ = some r := by
  unfold while_ at h
  split at h
  · rename_i hex
    exact ⟨_, (Classical.choose_spec (Classical.choose_spec hex)).trans h⟩
  · cases h

/-- One round more. -/
theorem while_eq (body : Frame → Heap → Res) (F : Frame) (σ : Heap) :
    while_ body F σ = match body F σ with | some (.normal, F', σ') => while_ body F' σ' | r => r := by
  cases hb : body F σ with
  | none =>
    simp only []
    cases hw : while_ body F σ with
    | none => rfl
    | some r =>
      obtain ⟨n, hn⟩ := iter_of_while hw
      cases n with
      | zero => cases hn
      | succ n => rw [iter, hb] at hn; cases hn
  | some r =>
    obtain ⟨o, F', σ'⟩ := r
    cases o with
    | normal =>
      simp only []
      cases hw : while_ body F' σ' with
      | none =>
        cases hw2 : while_ body F σ with
        | none => rfl
        | some r =>
          obtain ⟨n, hn⟩ := iter_of_while hw2
          cases n with
          | zero => cases hn
          | succ n =>
            rw [iter, hb] at hn
            have := while_of_iter (body := body) hn
            rw [hw] at this; cases this
      | some r =>
        obtain ⟨n, hn⟩ := iter_of_while hw
        exact while_of_iter (n := n + 1) (by rw [iter, hb]; exact hn)
    | exit id => exact while_of_iter (n := 1) (by rw [iter, hb])
    | ret => exact while_of_iter (n := 1) (by rw [iter, hb])

/-- Two operations that must not change places: heavy ones, and what depends. -/
def clashT (a b : SOper) : Bool := (a.op.heavy && b.op.heavy) || clash0 a b
def okAgainstT (o : SOper) : Nat → List SOper → Bool
  | _, [] => true
  | n, x :: rest => (!clashT x o || o.anc.testBit n) && okAgainstT o (n + 1) rest
def drawOkGoT : List SOper → List SOper → Bool
  | _, [] => true
  | done, o :: rest => okAgainstT o 0 done && drawOkGoT (done ++ [o]) rest
def drawOkT (ops : List SOper) : Bool := drawOkGoT [] ops


/-- One operation: its value, and what it leaves. -/
def stepS (C : Ctab) (s : SOper) (F : Frame) (σ : Heap) : Option (Value × Frame × Heap) :=
  match guardOf F s.guard with
  | some g => bif g then (evOp C F σ s.op).map fun r => (r.1, fput F s.dst r.1, r.2) else some (undef, fput F s.dst undef, σ)
  | none => none

/-- Reads have the same value at every heap at which they may be done. -/
def Stable (C : Ctab) (l : List SOper) (Fs : Nat → Frame) (σs : Nat → Heap) (us : Nat → Value) : Prop :=
  ∀ (i : Nat) (s : SOper), l[i]? = some s → s.op.readsMem = true → s.op.heavy = false → guardOf (Fs i) s.guard = some true → ∀ p, p ≤ l.length → (∀ (j : Nat) (x : SOper), j < p → l[j]? = some x → x.op.heavy = true → x.anc.testBit i = false) →
    (∀ (j : Nat) (x : SOper), p ≤ j → l[j]? = some x → x.op.heavy = true → s.anc.testBit j = false) → (∀ x ∈ s.op.operands, (∀ a, eval (Fs i) x = .pointer (some a) → ∃ obj, (σs p)[a.block]? = some obj) ∧ (∀ a n m, eval (Fs i) x = .slice (some a) n m → ∃ obj, (σs p)[a.block]? = some obj)) → (evOp C (Fs i) (σs p) s.op).map (·.1) = some (us i)
def StabRun (C : Ctab) (l : List SOper) (F : Frame) (σ : Heap) : Prop :=
  ∀ (Fs : Nat → Frame) (σs : Nat → Heap) (us : Nat → Value), Fs 0 = F → σs 0 = σ → (∀ (i : Nat) (s : SOper), l[i]? = some s → stepS C s (Fs i) (σs i) = some (us i, Fs (i + 1), σs (i + 1))) → Stable C l Fs σs us
open Classical in
noncomputable def stabRun (C : Ctab) (l : List SOper) (F : Frame) (σ : Heap) : Bool := decide (StabRun C l F σ)

/-- Against those ahead; the one at place c may come early. -/
def okAgainstF (c i : Nat) (o : SOper) : Nat → List SOper → Bool
  | _, [] => true
  | n, x :: rest => (!(clash0 x o || (x.op.heavy && o.op.heavy && !Nat.beq i c)) || o.anc.testBit n) && okAgainstF c i o (n + 1) rest
def drawOkGoF (c : Nat) : List SOper → List SOper → Bool
  | _, [] => true
  | done, o :: rest => okAgainstF c done.length o 0 done && drawOkGoF c (done ++ [o]) rest
def ancAll (anc : Nat) : Nat → List SOper → Bool
  | _, [] => true
  | n, x :: rest => (!x.op.heavy || anc.testBit n) && ancAll anc (n + 1) rest
/-- Heavy operations are ordered but for one at place c, which may come before those ahead of it; what is behind it is behind these too. -/
def drawOkF (c : Nat) (l : List SOper) : Bool :=
  drawOkGoF c [] l && (match l[c]? with | some s => s.op.heavy && s.guard.isNone | none => false) && l.all fun s => !s.anc.testBit c || ancAll s.anc 0 (l.take c)
/-- It makes one new row of constants. -/
def MkRun (C : Ctab) (l : List SOper) (c : Nat) (F : Frame) (σ : Heap) : Prop :=
  ∀ (Fs : Nat → Frame) (σs : Nat → Heap) (us : Nat → Value), Fs 0 = F → σs 0 = σ → (∀ (i : Nat) (s : SOper), l[i]? = some s → stepS C s (Fs i) (σs i) = some (us i, Fs (i + 1), σs (i + 1))) →
    ∃ (obj : AObj) (n : Nat), obj.esz ≠ 0 ∧ obj.cells.length = n * obj.esz ∧ (∀ v ∈ obj.cells, constOk v = true) ∧ ∀ s, l[c]? = some s → ∀ σ', evOp C (Fs c) σ' s.op = some (.slice (some ⟨σ'.length, 0, none⟩) n n, σ' ++ [obj])
def FloatRun (C : Ctab) (l : List SOper) (c : Nat) (F : Frame) (σ : Heap) : Prop := StabRun C l F σ ∧ MkRun C l c F σ
open Classical in
noncomputable def floatRun (C : Ctab) (l : List SOper) (F : Frame) (σ : Heap) : Bool := decide (∃ c, drawOkF c l = true ∧ FloatRun C l c F σ)

noncomputable def evCode (C : Ctab) : SCode → Frame → Heap → Res
  | .skip, F, σ => some (.normal, F, σ)
  | .region ops draw, F, σ => if (!draw || drawOk C ops || (noWrites C ops && drawOk0 ops) || (drawOkV C ops && varRun C ops F σ) || (noWritesS C ops && drawOkS ops) || (drawOkT ops && stabRun C ops F σ) || floatRun C ops F σ) = true then (evOps C ops F σ).map fun r => (.normal, r.1, r.2) else none
  | .seq a b, F, σ => match evCode C a F σ with | some (.normal, F', σ') => evCode C b F' σ' | r => r
  | .cond c a b, F, σ => condOn (eval F c) (evCode C a F σ) (evCode C b F σ)
  | .block id a, F, σ => match evCode C a F σ with | some (.exit id', F', σ') => if id' = id then some (.normal, F', σ') else some (.exit id', F', σ') | r => r
  | .loop a, F, σ => while_ (evCode C a) F σ
  | .exit id, F, σ => some (.exit id, F, σ)
  | .ret, F, σ => some (.ret, F, σ)
  | .kp K a, F, σ => evCode C a (fkeep K F) σ

/-- The results of a function: a slot, or the cells of a variable. -/
inductive SRes where
  | tmp (t : Nat)
  | cell1 (t : Nat)
  | cellN (t n : Nat)

def resVal (F : Frame) (σ : Heap) : SRes → Option Value
  | .tmp t => some (fget F t)
  | .cell1 t => aLoad1 σ (fget F t)
  | .cellN t n => aLoadN σ n (fget F t)

def resVals (F : Frame) (σ : Heap) : List SRes → Option (List Value)
  | [] => some []
  | r :: rest => (resVal F σ r).bind fun v => (resVals F σ rest).map fun vs => v :: vs

def resOf (F : Frame) (σ : Heap) (rs : List SRes) : Option Value :=
  match rs with
  | [r] => resVal F σ r
  | rs => (resVals F σ rs).map fun vs => .tuple vs.toArray

structure SFunc where
  ntmps : Nat
  results : List SRes
  body : SCode

def argFrame : Nat → List Value → Frame
  | _, [] => []
  | n, v :: vs => (n, v) :: argFrame (n + 1) vs

/-- The whole of a call, the rubbish still there. -/
noncomputable def evFn (C : Ctab) (f : SFunc) (args : List Value) (σ : Heap) : Option (Value × Heap) :=
  match evCode C f.body (argFrame 0 args) σ with
  | some (.normal, F, σ') => (resOf F σ' f.results).map (·, σ')
  | some (.ret, F, σ') => (resOf F σ' f.results).map (·, σ')
  | _ => none

end Go.Abs

/- The abstract machine: how a function's code is resolved against the program's types. No condition. -/
namespace Go.Abs

def zeroOf (P : Program) (t : TypeId) : Option (List Value) :=
  match P.info? t with
  | some i => i.zero.map fun v => v.cells.toList
  | none => none

def sizeOfT (P : Program) (t : TypeId) : Option Nat := (P.info? t).map (·.size)
def bytesOfT (P : Program) (t : TypeId) : Option Nat := (P.info? t).map (·.bytes)

/-- none: no such type; some b: whether it is a struct or an array. -/
def aggT (P : Program) (t : TypeId) : Option Bool :=
  match P.underlying t with
  | some (.struct _) | some (.array _ _) => some true
  | some _ => some false
  | none => none

def eqkOf (P : Program) (t : TypeId) : EqK :=
  match P.underlying t with
  | some .bool => .bool
  | some (.slice _) => .slice
  | some (.interface _) => .iface
  | some (.pointer _) => .pointer
  | some (.func _ _ _) => .func
  | _ => .other

def isConst : Operand → Bool
  | .const _ => true
  | _ => false

def eqk2 (P : Program) (t : TypeId) (x y : Operand) : EqK :=
  match eqkOf P t with
  | .iface => if isConst x || isConst y then .iface else .other
  | k => k

def convOf (P : Program) (s d : TypeId) : Option ConvK :=
  match P.underlying s, P.underlying d with
  | some (.int _), some (.int k) => some (.toInt k)
  | some (.float _), some (.int k) => some (.toInt k)
  | some (.int _), some (.float k) => some (.toFloat k)
  | some (.float _), some (.float k) => some (.toFloat k)
  | some .string, some .string => some .same
  | some .string, some (.slice e) => match P.underlying e with | some (.int .u8) => some .toBytes | _ => none
  | some (.slice _), some (.slice e) => if s = d then (match P.underlying e with | some (.int .u8) => some .mark | _ => none) else none
  | some (.slice e), some .string => match P.underlying e with | some (.int .u8) => some .toStr | _ => none
  | _, _ => none

def zerosOf (z : List Value) (n : Nat) : List Value := (List.range n).map fun i => z.getD (i % z.length) dead

/-- The places of a composite's parts. -/
def placeOf (P : Program) (t : TypeId) (i : Nat) : Option (Nat × Nat) :=
  match P.underlying t with
  | some (.struct fs) => match fs[i]? with | some f => (sizeOfT P f.type).map fun s => (f.offset, s) | none => none
  | some (.array _ e) => (sizeOfT P e).map fun s => (i * s, s)
  | _ => none

def partsOf (place : Nat → Option (Nat × Nat)) : List (Nat × Operand) → Option (List (Nat × Nat × Operand))
  | [] => some []
  | (i, x) :: rest => match place i, partsOf place rest with | some (o, s), some l => some ((o, s, x) :: l) | _, _ => none

def sliceElem (P : Program) (t : TypeId) : Option TypeId :=
  match P.underlying t with
  | some (.slice e) => some e
  | _ => none

def structSized (P : Program) (fs : Array Field) : Bool := fs.toList.all fun f => (sizeOfT P f.type).isSome

def rBuiltin (P : Program) (b : Builtin) (args : List Operand) (ts : List TypeId) : Option SOp :=
  match b, args, ts with
  | .len, [x], t :: _ => match P.underlying t with | some .string => some (.len true x) | some (.slice _) => some (.len false x) | _ => none
  | .cap, [x], t :: _ => match P.underlying t with | some (.slice _) => some (.cap x) | _ => none
  | .append, [s, x], t :: u :: _ =>
    match P.underlying t, P.underlying u with
    | some (.slice e), some ud =>
      (match ud with
       | .int _ => (match sizeOfT P e, bytesOfT P e, zeroOf P e with | some z, some b, some zs => if zs.length = z ∧ b ≤ 2 ^ 20 then some (.appendZ z b zs s x) else none | _, _, _ => none)
       | _ => match sizeOfT P e, bytesOfT P e, zeroOf P e with | some z, some b, some zs => if zs.length = z ∧ b ≤ 2 ^ 20 then some (.append z b s x) else none | _, _, _ => none)
    | _, _ => none
  | .copy, [d, s], t :: _ => match P.underlying t with | some (.slice e) => (sizeOfT P e).map fun z => .copy z d s | _ => none
  | .min, xs, _ => some (.minmax false xs)
  | .max, xs, _ => some (.minmax true xs)
  | _, _, _ => none

def rOp (P : Program) (o : Op) : Option SOp :=
  match o with
  | .move x | .assign x => some (.mov x)
  | .pick c a b => some (.pick c a b)
  | .alloc t => (zeroOf P t).map .alloc
  | .box _ x => some (.box x)
  | .build t ps =>
    match P.underlying t with
    | some (.struct fs) => if structSized P fs then (match zeroOf P t, partsOf (placeOf P t) ps.toList with | some z, some l => some (.build z l) | _, _ => none) else none
    | some (.array _ e) => match sizeOfT P e, zeroOf P t, partsOf (placeOf P t) ps.toList with | some _, some z, some l => some (.build z l) | _, _, _ => none
    | _ => none
  | .buildSlice t len ps =>
    match sliceElem P t with
    | some e =>
      match sizeOfT P e, zeroOf P e with
      | some s, some z =>
        if len * s ≤ 2 ^ 24 then (partsOf (fun i => some (i * s, s)) ps.toList).map fun l => .buildSlice s len (if len * s = 0 then [] else zerosOf z (len * s)) l else none
      | _, _ => none
    | none => none
  | .load t x => match aggT P t, sizeOfT P t with | some true, some n => some (.loadN n x) | some false, _ => some (.load1 x) | _, _ => none
  | .store t a v => (sizeOfT P t).map fun n => .store n a v
  | .nilCheck x => some (.nilCheck x)
  | .binOp op t x y _ => some (.bin op (eqk2 P t x y) x y)
  | .unOp op _ x => some (.un op x)
  | .convert s d x => (convOf P s d).map fun c => .conv c x
  | .makeFunc (.func f) a b => some (.makeFunc f a.toList b.toList)
  | .makeSlice t l c =>
    match sliceElem P t with
    | some e => match sizeOfT P e, bytesOfT P e, zeroOf P e with | some s, some b, some z => some (.makeSlice s b z l c) | _, _, _ => none
    | none => none
  | .slice t x lo hi none =>
    match P.underlying t with
    | some .string => some (.sliceStr x lo hi)
    | some (.slice e) => (sizeOfT P e).map fun s => .sliceSl s x lo hi
    | _ => none
  | .fieldAddr t x f =>
    match P.underlying t with
    | some (.struct fs) => match fs[f]? with | some fd => (match sizeOfT P fd.type with | some (_ + 1) => some (.fieldAddr fd.offset x) | _ => none) | none => none
    | _ => none
  | .field t x f =>
    match P.underlying t with
    | some (.struct fs) =>
      match fs[f]? with
      | some fd => (match aggT P fd.type, sizeOfT P fd.type with | some true, some n => some (.fieldN fd.offset n x) | some false, _ => some (.field1 fd.offset x) | _, _ => none)
      | none => none
    | _ => none
  | .indexAddr t x i =>
    match P.underlying t with
    | some (.slice e) => (sizeOfT P e).map fun s => .indexAddrS s x i
    | some (.array n e) => (sizeOfT P e).map fun s => .indexAddrA n s x i
    | _ => none
  | .index t x i =>
    match P.underlying t with
    | some .string => some (.indexStr x i)
    | some (.array n e) => (match aggT P e, sizeOfT P e with | some true, some s => some (.indexN n s x i) | some false, some 1 => some (.index1 n x i) | _, _ => none)
    | _ => none
  | .extract x i => some (.extract x i)
  | .makeInterface _ _ => some (.extract (.const (.bool false)) 0)
  | .panic _ => some (.extract (.const (.bool false)) 0)
  | .call { callee := .builtin b, args, argTypes } => rBuiltin P b args.toList argTypes.toList
  | .call { callee := .value f, args, .. } => some (.call f args.toList)
  | _ => none

def ancOf (anc : List Nat) (es : List Edge) : Nat :=
  es.foldl (fun s e => if Region.binds .any e then s ||| 2 ^ e.on ||| anc.getD e.on 0 else s) 0

def rOps (P : Program) (all : Array Oper) : List Nat → List Oper → Option (List SOper)
  | _, [] => some []
  | anc, o :: rest =>
    let a := ancOf anc o.after.toList
    match rOp P o.op with
    | none => none
    | some s =>
      match o.guard with
      | none => (rOps P all (anc ++ [a]) rest).map fun l => ⟨o.dst, none, s, a⟩ :: l
      | some (j, want) =>
        match (all[j]?).bind (·.dst) with
        | some d => (rOps P all (anc ++ [a]) rest).map fun l => ⟨o.dst, some (d, want), s, a⟩ :: l
        | none => none

/-- Every edge that binds points back. -/
def backEdges : Nat → List Oper → Bool
  | _, [] => true
  | n, o :: rest => (o.after.toList.all fun e => !Region.binds .any e || decide (e.on < n)) && backEdges (n + 1) rest

def dstsOk (n : Nat) (ops : List Oper) : Bool := ops.all fun o => match o.dst with | some d => decide (d < n) | none => true

def rcode (P : Program) (n : Nat) : Code → Option SCode
  | .skip => some .skip
  | .region _ ops draw => if dstsOk n ops.toList && (!draw || backEdges 0 ops.toList) then (rOps P ops [] ops.toList).map fun l => .region l draw else none
  | .seq a b => match rcode P n a, rcode P n b with | some x, some y => some (.seq x y) | _, _ => none
  | .cond c a b => match rcode P n a, rcode P n b with | some x, some y => some (.cond c x y) | _, _ => none
  | .block id a => (rcode P n a).map (.block id)
  | .loop a => (rcode P n a).map .loop
  | .exit id => some (.exit id)
  | .ret => some .ret
  | _ => none

def rRes (P : Program) : List ResultVar → Option (List SRes)
  | [] => some []
  | .tmp t :: rest => (rRes P rest).map fun l => .tmp t :: l
  | .cell t ty :: rest =>
    match aggT P ty, sizeOfT P ty with
    | some true, some n => (rRes P rest).map fun l => .cellN t n :: l
    | some false, _ => (rRes P rest).map fun l => .cell1 t :: l
    | _, _ => none

def resolveFn (P : Program) (f : Func) : Option SFunc :=
  match f.body with
  | some c => match rcode P f.ntmps c, rRes P f.results.toList with | some b, some rs => some ⟨f.ntmps, rs, b⟩ | _, _ => none
  | none => none

def SFunc.strip (f : SFunc) : SFunc := { f with body := f.body.strip }

end Go.Abs

/- The abstract machine: how its values and heaps stand for the model's. No condition. -/
namespace Go.Abs

/-- Where an object lies: block, first cell, and (of one that may be written) how many cells the block has. -/
structure Spot where
  blk : Nat
  base : Nat
  K : Nat

abbrev Inj := Nat → Option Spot

def FRel (k : FloatKind) (a b : Nat) : Prop := a = b ∨ (isNaN k a = true ∧ isNaN k b = true)

def SlOk (β : Inj) (obj : AObj) (a : Addr) (cap : Nat) (c : Addr) (cap' : Nat) : Prop :=
  obj.esz ≠ 0 → obj.cells.length = a.off + cap * obj.esz → (cap ≠ 0 ∨ a.off = 0) →
    ∃ s, β a.block = some s ∧ c = ⟨s.blk, s.base + a.off, none⟩ ∧ (obj.rw = true → s.base + a.off + cap' * obj.esz ≤ s.K)

inductive VRel (β : Inj) (σ : Heap) : Value → Value → Prop where
  | dead (c : Value) : VRel β σ dead c
  | bool (b : Bool) : VRel β σ (.bool b) (.bool b)
  | int (k : IntKind) (n : Int) : VRel β σ (.int k n) (.int k n)
  | float {k : FloatKind} {a b : Nat} (h : FRel k a b) : VRel β σ (.float k a) (.float k b)
  | string (s : ByteArray) : VRel β σ (.string s) (.string s)
  | ptrNil : VRel β σ (.pointer none) (.pointer none)
  | ptr (a : Addr) (obj : AObj) (hσ : σ[a.block]? = some obj) (c : Addr) (hk : ∀ n, a.spot = some n → n ≤ obj.cells.length)
      (h : ptrOk obj a.spot = true → ∃ s, β a.block = some s ∧ c = ⟨s.blk, s.base + a.off, none⟩) : VRel β σ (.pointer (some a)) (.pointer (some c))
  | slNil (n m : Nat) : VRel β σ (.slice none n m) (.slice none n m)
  | sl (a : Addr) (obj : AObj) (hσ : σ[a.block]? = some obj) (len cap : Nat) (c : Addr) (cap' : Nat)
      (hsz : obj.esz ≠ 0 → a.off + cap * obj.esz ≤ obj.cells.length) (hcap : cap ≤ cap') (h : SlOk β obj a cap c cap') : VRel β σ (.slice (some a) len cap) (.slice (some c) len cap')
  | func (f : Fn) (x y x' y' : Array Value) (hx : x.size = x'.size) (hy : y.size = y'.size)
      (h1 : ∀ (i : Nat) (v v' : Value), x[i]? = some v → x'[i]? = some v' → VRel β σ v v')
      (h2 : ∀ (i : Nat) (v v' : Value), y[i]? = some v → y'[i]? = some v' → VRel β σ v v') : VRel β σ (.func f x y) (.func f x' y')
  | nilFunc : VRel β σ .nilFunc .nilFunc
  | nilIface : VRel β σ .nilIface .nilIface
  | iface (t : TypeId) (v v' : Value) (h : VRel β σ v v') : VRel β σ (.iface t v) (.iface t v')
  | agg (x x' : Array Value) (hx : x.size = x'.size) (h1 : ∀ (i : Nat) (v v' : Value), x[i]? = some v → x'[i]? = some v' → VRel β σ v v') : VRel β σ (.agg x) (.agg x')
  | tuple (x x' : Array Value) (hx : x.size = x'.size) (h1 : ∀ (i : Nat) (v v' : Value), x[i]? = some v → x'[i]? = some v' → VRel β σ v v') : VRel β σ (.tuple x) (.tuple x')

/-- What heaps may become, that what stood for something stands for it still. -/
structure Later (β : Inj) (σ : Heap) (β' : Inj) (σ' : Heap) : Prop where
  at_ : ∀ (o : Nat) (obj : AObj), σ[o]? = some obj → ∃ obj', σ'[o]? = some obj' ∧ obj'.esz = obj.esz ∧ obj'.rw = obj.rw ∧ obj.cells.length ≤ obj'.cells.length ∧
    (obj'.cells.length = obj.cells.length → β' o = β o) ∧ (obj.esz = 0 → obj'.cells.length = obj.cells.length)

theorem Later.refl (β : Inj) (σ : Heap) : Later β σ β σ := ⟨fun _ obj h => ⟨obj, h, rfl, rfl, Nat.le_refl _, fun _ => rfl, fun _ => rfl⟩⟩

theorem VRel.later {β β' : Inj} {σ σ' : Heap} (L : Later β σ β' σ') {v c : Value} (h : VRel β σ v c) : VRel β' σ' v c := by
  induction h with
  | dead c => exact .dead c
  | bool b => exact .bool b
  | int k n => exact .int k n
  | float h => exact .float h
  | string s => exact .string s
  | ptrNil => exact .ptrNil
  | ptr a obj hσ c hk h =>
    obtain ⟨obj', h1, he, _, hle, hb, h0⟩ := L.at_ _ _ hσ
    refine .ptr a obj' h1 c (fun n hn => Nat.le_trans (hk n hn) hle) fun hp => ?_
    have hlen : obj'.cells.length = obj.cells.length := by
      cases hs : a.spot with
      | none => rw [hs] at hp; simp only [ptrOk, Nat.beq_eq] at hp; exact h0 (by omega)
      | some n => rw [hs] at hp; simp [ptrOk] at hp; have := hk n hs; omega
    rw [hb hlen]
    refine h ?_
    cases hs : a.spot with
    | none => rw [hs] at hp; simpa [ptrOk, he] using hp
    | some n => rw [hs] at hp; simpa [ptrOk, he, hlen] using hp
  | slNil n m => exact .slNil n m
  | sl a obj hσ len cap c cap' hsz hcap h =>
    obtain ⟨obj', h1, he, hr, hle, hb, h0⟩ := L.at_ _ _ hσ
    refine .sl a obj' h1 len cap c cap' (fun h => ?_) hcap fun hne hl hc => ?_
    · rw [he] at h ⊢; exact Nat.le_trans (hsz h) hle
    · rw [he] at hne hl
      have := hsz hne
      have hlen : obj'.cells.length = obj.cells.length := by omega
      rw [hb hlen, hr, he]
      exact h hne (by omega) hc
  | func f x y x' y' hx hy _ _ i1 i2 => exact .func f x y x' y' hx hy i1 i2
  | nilFunc => exact .nilFunc
  | nilIface => exact .nilIface
  | iface t v v' _ ih => exact .iface t v v' ih
  | agg x x' hx _ ih => exact .agg x x' hx ih
  | tuple x x' hx _ ih => exact .tuple x x' hx ih

theorem Later.trans {β₁ β₂ β₃ : Inj} {σ₁ σ₂ σ₃ : Heap} (a : Later β₁ σ₁ β₂ σ₂) (b : Later β₂ σ₂ β₃ σ₃) : Later β₁ σ₁ β₃ σ₃ := by
  refine ⟨fun o obj h => ?_⟩
  obtain ⟨o2, h2, e2, r2, l2, b2, z2⟩ := a.at_ o obj h
  obtain ⟨o3, h3, e3, r3, l3, b3, z3⟩ := b.at_ o o2 h2
  refine ⟨o3, h3, by omega, by rw [r3, r2], by omega, fun hl => ?_, fun hz => ?_⟩
  · rw [b3 (by omega), b2 (by omega)]
  · rw [z3 (by omega), z2 hz]

/-- Lists of values, place by place. -/
def LRel (β : Inj) (σ : Heap) (xs cs : List Value) : Prop := xs.length = cs.length ∧ ∀ (i : Nat) (v c : Value), xs[i]? = some v → cs[i]? = some c → VRel β σ v c

structure InjOk (β : Inj) (σ : Heap) (w : World) : Prop where
  dom : ∀ o s, β o = some s → o < σ.length
  obj : ∀ (o : Nat) (obj : AObj) (s : Spot), σ[o]? = some obj → β o = some s →
    ∃ (c : Array Value) (e : TypeId) (fz : Nat × Nat), w.heap[s.blk]? = some (.cells c e fz) ∧
      (∀ (j : Nat) (v : Value), obj.cells[j]? = some v → ∃ u, c[s.base + j]? = some u ∧ VRel β σ v u) ∧
      (obj.rw = true → s.base = 0 ∧ c.size = s.K ∧ (fz.1 = fz.2 ∨ c.size ≤ fz.1))
  inj : ∀ (o o' : Nat) (obj : AObj) (s s' : Spot), σ[o]? = some obj → obj.rw = true → β o = some s → β o' = some s' → s.blk = s'.blk → o = o'

theorem frz {n : Nat} {fz : Nat × Nat} (h : fz.1 = fz.2 ∨ n ≤ fz.1) : ∀ i, i < n → (decide (fz.1 ≤ i) && decide (i < fz.2)) = false := by
  intro i hi
  rcases h with h | h
  · by_cases h1 : fz.1 ≤ i
    · have : ¬ i < fz.2 := by omega
      simp [this]
    · simp [h1]
  · have : ¬ fz.1 ≤ i := by omega
    simp [this]

/-- Written objects' blocks. -/
def IsRw (β : Inj) (σ : Heap) (b : Nat) : Prop := ∃ (o : Nat) (obj : AObj) (s : Spot), σ[o]? = some obj ∧ obj.rw = true ∧ β o = some s ∧ s.blk = b

/-- One world becomes another while one heap becomes another. -/
structure Trans (β : Inj) (σ : Heap) (w : World) (β' : Inj) (σ' : Heap) (w' : World) : Prop where
  ok : InjOk β' σ' w'
  later : Later β σ β' σ'
  len : σ.length ≤ σ'.length
  size : w.heap.size ≤ w'.heap.size
  keep : ∀ b, b < w.heap.size → ¬ IsRw β σ b → w'.heap[b]? = w.heap[b]?
  grow : ∀ b, b < w.heap.size → IsRw β' σ' b → IsRw β σ b
  fresh : ∀ o s, β' o = some s → β o = some s ∨ w.heap.size ≤ s.blk
  os : w'.os = w.os
  tape : w'.tape = w.tape
  output : w'.output = w.output

theorem Trans.trans {β₁ β₂ β₃ : Inj} {σ₁ σ₂ σ₃ : Heap} {w₁ w₂ w₃ : World} (a : Trans β₁ σ₁ w₁ β₂ σ₂ w₂) (b : Trans β₂ σ₂ w₂ β₃ σ₃ w₃) : Trans β₁ σ₁ w₁ β₃ σ₃ w₃ :=
  { ok := b.ok, later := a.later.trans b.later, len := Nat.le_trans a.len b.len, size := Nat.le_trans a.size b.size
    keep := fun k hk hn => (b.keep k (Nat.lt_of_lt_of_le hk a.size) (fun h => hn (a.grow k hk h))).trans (a.keep k hk hn)
    grow := fun k hk h => a.grow k hk (b.grow k (Nat.lt_of_lt_of_le hk a.size) h)
    fresh := fun o s hs => by
      rcases b.fresh o s hs with h | h
      · exact a.fresh o s h
      · exact .inr (Nat.le_trans a.size h)
    os := b.os.trans a.os, tape := b.tape.trans a.tape, output := b.output.trans a.output }

theorem Trans.refl {β : Inj} {σ : Heap} {w : World} (h : InjOk β σ w) : Trans β σ w β σ w :=
  { ok := h, later := Later.refl _ _, len := Nat.le_refl _, size := Nat.le_refl _, keep := fun _ _ _ => rfl, grow := fun _ _ h => h, fresh := fun _ _ h => .inl h, os := rfl, tape := rfl, output := rfl }

theorem InjOk.drawn {β : Inj} {σ : Heap} {w : World} (h : InjOk β σ w) (n : Nat) : InjOk β σ { w with drawn := n } := ⟨h.dom, h.obj, h.inj⟩

theorem Trans.drawn {β : Inj} {σ : Heap} {w : World} (h : InjOk β σ w) (n : Nat) : Trans β σ w β σ { w with drawn := n } :=
  { ok := h.drawn n, later := Later.refl _ _, len := Nat.le_refl _, size := Nat.le_refl _, keep := fun _ _ _ => rfl, grow := fun _ _ h => h, fresh := fun _ _ h => .inl h, os := rfl, tape := rfl, output := rfl }

theorem Trans.drew {β : Inj} {σ : Heap} {w : World} (h : InjOk β σ w) : Trans β σ w β σ w.drew := Trans.drawn h _

theorem block_lt {w : World} {b : Nat} {o : Obj} (h : w.heap[b]? = some o) : b < w.heap.size := by
  rcases Nat.lt_or_ge b w.heap.size with h' | h'
  · exact h'
  · simp [Array.getElem?_eq_none h'] at h

/-- A new object in a new block, whose cells behind those of the object are nobody's. -/
theorem fresh_if {β : Inj} {m n K o : Nat} {s : Spot} (h : (if o = m then some (⟨n, 0, K⟩ : Spot) else β o) = some s) : β o = some s ∨ n ≤ s.blk := by
  split at h
  · cases h; exact .inr (Nat.le_refl _)
  · exact .inl h

theorem Trans.alloc {β : Inj} {σ : Heap} {w : World} (h : InjOk β σ w) (cells : List Value) (esz : Nat) (cs : Array Value) (e : TypeId)
    (hc : ∀ (j : Nat) (v : Value), cells[j]? = some v → ∃ u, cs[j]? = some u ∧ VRel β σ v u) :
    Trans β σ w (fun o => if o = σ.length then some ⟨w.heap.size, 0, cs.size⟩ else β o) (σ ++ [⟨cells, esz, true⟩]) (w.alloc (.cells cs e)) := by
  have hlat : Later β σ (fun o => if o = σ.length then some ⟨w.heap.size, 0, cs.size⟩ else β o) (σ ++ [⟨cells, esz, true⟩]) := by
    refine ⟨fun o obj ho => ?_⟩
    have hlt : o < σ.length := by
      rcases Nat.lt_or_ge o σ.length with h' | h'
      · exact h'
      · simp [List.getElem?_eq_none h'] at ho
    refine ⟨obj, by rw [List.getElem?_append_left hlt]; exact ho, rfl, rfl, Nat.le_refl _, fun _ => ?_, fun _ => rfl⟩
    exact if_neg (by omega)
  have hold : ∀ b, b < w.heap.size → (w.alloc (.cells cs e)).heap[b]? = w.heap[b]? := fun b hb => by
    show (w.heap.push _)[b]? = _
    rw [Array.getElem?_push_lt hb]
    simp [hb]
  refine { ok := ⟨?_, ?_, ?_⟩, later := hlat, len := by simp, size := by simp, keep := fun b hb _ => hold b hb, grow := ?_, fresh := fun k t hk => (fresh_if hk), os := rfl, tape := rfl, output := rfl }
  · intro o s hs
    split at hs
    · rename_i he; simp [he]
    · have := h.dom o s hs; simp; omega
  · intro o obj s ho hs
    split at hs
    · rename_i he
      cases hs
      subst he
      simp at ho
      subst ho
      refine ⟨cs, e, (0, 0), by show (w.heap.push _)[w.heap.size]? = _; simp, fun j v hj => ?_, fun _ => ⟨rfl, rfl, .inl rfl⟩⟩
      obtain ⟨u, hu, hr⟩ := hc j v hj
      exact ⟨u, by simpa using hu, hr.later hlat⟩
    · rename_i hne
      have hlt := h.dom o s hs
      rw [List.getElem?_append_left hlt] at ho
      obtain ⟨c, e', fz, hb, hcells, hrw⟩ := h.obj o obj s ho hs
      refine ⟨c, e', fz, ?_, fun j v hj => ?_, hrw⟩
      · rw [hold _ (block_lt hb)]; exact hb
      · obtain ⟨u, hu, hr⟩ := hcells j v hj
        exact ⟨u, hu, hr.later hlat⟩
  · intro o o' obj s s' ho hrw hs hs' hb
    have aux : ∀ (o : Nat) (s : Spot), β o = some s → s.blk < w.heap.size := by
      intro o s hs
      have hlt := h.dom o s hs
      obtain ⟨c, e', fz, hb, _⟩ := h.obj o _ s (List.getElem?_eq_getElem hlt) hs
      exact block_lt hb
    split at hs <;> split at hs'
    · omega
    · cases hs; have := aux _ _ hs'; dsimp only at hb; omega
    · cases hs'; have := aux _ _ hs; dsimp only at hb; omega
    · have hlt := h.dom o s hs
      rw [List.getElem?_append_left hlt] at ho
      exact h.inj o o' obj s s' ho hrw hs hs' hb
  · rintro b hb ⟨o, obj, s, ho, hrw, hs, rfl⟩
    dsimp only at hs
    split at hs
    · cases hs; dsimp only at hb; omega
    · have hlt := h.dom o s hs
      rw [List.getElem?_append_left hlt] at ho
      exact ⟨o, obj, s, ho, hrw, hs, rfl⟩

theorem vrel_const {β : Inj} {σ : Heap} {v : Value} (h : constOk v = true) : VRel β σ v v := by
  cases v with
  | bool b => exact .bool b
  | int k n => exact .int k n
  | float k b => exact .float (.inl rfl)
  | string s => exact .string s
  | pointer a => cases a with | none => exact .ptrNil | some a => simp [constOk] at h
  | slice a n m => cases a with | none => exact .slNil n m | some a => simp [constOk] at h
  | nilFunc => exact .nilFunc
  | nilIface => exact .nilIface
  | _ => simp [constOk] at h

end Go.Abs

/- The abstract machine: what writing does to heap and world. No condition. -/
namespace Go.Abs

/-- The world in which a block is another one. -/
def World.put (w : World) (b : Nat) (o : Obj) : World := { w with heap := w.heap.setIfInBounds b o }

theorem heap_put_same {w : World} {b : Nat} (o : Obj) (h : b < w.heap.size) : (World.put w b o).heap[b]? = some o := by
  simp [World.put, h]

theorem heap_put_other {w : World} {b k : Nat} (o : Obj) (h : k ≠ b) : (World.put w b o).heap[k]? = w.heap[k]? := by
  show (w.heap.setIfInBounds b o)[k]? = _
  rw [Array.getElem?_setIfInBounds]
  rw [if_neg (fun e => h e.symm)]

theorem size_put {w : World} {b : Nat} (o : Obj) : (World.put w b o).heap.size = w.heap.size := by simp [World.put]

theorem put_put {w : World} {b : Nat} (o o' : Obj) : World.put (World.put w b o) b o' = World.put w b o' := by
  unfold World.put
  congr 1
  apply Array.ext_getElem?
  intro i
  simp only [Array.getElem?_setIfInBounds, Array.size_setIfInBounds]
  split <;> rfl

theorem put_self {w : World} {b : Nat} {o : Obj} (h : w.heap[b]? = some o) : World.put w b o = w := by
  unfold World.put
  have : w.heap.setIfInBounds b o = w.heap := by
    apply Array.ext_getElem?
    intro i
    rw [Array.getElem?_setIfInBounds]
    split
    · rename_i e; subst e
      rw [h]
      simp [block_lt h]
    · rfl
  rw [this]

/-- An object that may be written gets other cells, in its block. -/
theorem Trans.update {β : Inj} {σ : Heap} {w : World} (h : InjOk β σ w) {o : Nat} {obj : AObj} {s : Spot} (ho : σ[o]? = some obj) (hrw : obj.rw = true) (hs : β o = some s)
    {c : Array Value} {e : TypeId} {fz : Nat × Nat} (hb : w.heap[s.blk]? = some (.cells c e fz)) (cells' : List Value) (c' : Array Value) (fz' : Nat × Nat)
    (hsize : c'.size = c.size) (hfz : fz'.1 = fz'.2 ∨ c'.size ≤ fz'.1)
    (hlen : obj.cells.length ≤ cells'.length) (hz : obj.esz = 0 → cells'.length = obj.cells.length)
    (hrel : ∀ (j : Nat) (v : Value), cells'[j]? = some v → ∃ u, c'[j]? = some u ∧ VRel β σ v u) :
    Trans β σ w β (σ.set o { obj with cells := cells' }) (World.put w s.blk (.cells c' e fz')) := by
  have holt : o < σ.length := by
    rcases Nat.lt_or_ge o σ.length with h' | h'
    · exact h'
    · simp [List.getElem?_eq_none h'] at ho
  have hlat : Later β σ β (σ.set o { obj with cells := cells' }) := by
    refine ⟨fun k x hk => ?_⟩
    by_cases e : k = o
    · subst e
      rw [ho] at hk; cases hk
      exact ⟨{ obj with cells := cells' }, by simp [holt], rfl, rfl, hlen, fun _ => rfl, hz⟩
    · exact ⟨x, by rw [List.getElem?_set_ne (fun h => e h.symm)]; exact hk, rfl, rfl, Nat.le_refl _, fun _ => rfl, fun _ => rfl⟩
  have get : ∀ (k : Nat) (x : AObj), (σ.set o { obj with cells := cells' })[k]? = some x → (k = o ∧ x = { obj with cells := cells' }) ∨ (k ≠ o ∧ σ[k]? = some x) := by
    intro k x hk
    by_cases e : k = o
    · subst e; simp [holt] at hk; exact .inl ⟨rfl, hk.symm⟩
    · rw [List.getElem?_set_ne (fun h => e h.symm)] at hk; exact .inr ⟨e, hk⟩
  have hblt := block_lt hb
  obtain ⟨c0, e0, fz0, hb0, hcells0, hrw0⟩ := h.obj o obj s ho hs
  rw [hb] at hb0; cases hb0
  obtain ⟨hbase, hK, _⟩ := hrw0 hrw
  refine { ok := ⟨?_, ?_, ?_⟩, later := hlat, len := by simp, size := by rw [size_put]; exact Nat.le_refl _, keep := ?_, grow := ?_, fresh := fun _ _ h => .inl h, os := rfl, tape := rfl, output := rfl }
  · intro k t ht
    have := h.dom k t ht
    simpa using this
  · intro k x t hk ht
    rcases get k x hk with ⟨rfl, rfl⟩ | ⟨hne, hk'⟩
    · rw [hs] at ht; cases ht
      refine ⟨c', e, fz', heap_put_same _ hblt, fun j v hj => ?_, fun _ => ⟨hbase, by rw [hsize]; exact hK, hfz⟩⟩
      obtain ⟨u, hu, hr⟩ := hrel j v hj
      exact ⟨u, by rw [hbase]; simpa using hu, hr.later hlat⟩
    · have hnb : t.blk ≠ s.blk := fun e => hne (h.inj o k obj s t ho hrw hs ht e.symm).symm
      obtain ⟨c1, e1, fz1, hb1, hcells1, hrw1⟩ := h.obj k x t hk' ht
      refine ⟨c1, e1, fz1, by rw [heap_put_other _ hnb]; exact hb1, fun j v hj => ?_, hrw1⟩
      obtain ⟨u, hu, hr⟩ := hcells1 j v hj
      exact ⟨u, hu, hr.later hlat⟩
  · intro k k' x t t' hk hxr ht ht' hbb
    rcases get k x hk with ⟨rfl, rfl⟩ | ⟨hne, hk'⟩
    · exact h.inj k k' obj t t' ho hrw ht ht' hbb
    · exact h.inj k k' x t t' hk' hxr ht ht' hbb
  · intro b hbl hn
    exact heap_put_other _ (fun e => hn ⟨o, obj, s, ho, hrw, hs, e.symm⟩)
  · rintro b hbl ⟨k, x, t, hk, hxr, ht, rfl⟩
    rcases get k x hk with ⟨rfl, rfl⟩ | ⟨hne, hk'⟩
    · exact ⟨k, obj, t, ho, hrw, ht, rfl⟩
    · exact ⟨k, x, t, hk', hxr, ht, rfl⟩

/-- An object that may be written grows, and moves into a new block. -/
theorem Trans.move {β : Inj} {σ : Heap} {w : World} (h : InjOk β σ w) {o : Nat} {obj : AObj} {s : Spot} (ho : σ[o]? = some obj) (_hrw : obj.rw = true) (hs : β o = some s)
    (cells' : List Value) (c' : Array Value) (e : TypeId) (hlen : obj.cells.length < cells'.length) (hz : obj.esz ≠ 0)
    (hrel : ∀ (j : Nat) (v : Value), cells'[j]? = some v → ∃ u, c'[j]? = some u ∧ VRel β σ v u) :
    Trans β σ w (fun k => if k = o then some ⟨w.heap.size, 0, c'.size⟩ else β k) (σ.set o { obj with cells := cells' }) (w.alloc (.cells c' e)) := by
  have holt : o < σ.length := by
    rcases Nat.lt_or_ge o σ.length with h' | h'
    · exact h'
    · simp [List.getElem?_eq_none h'] at ho
  have hlat : Later β σ (fun k => if k = o then some ⟨w.heap.size, 0, c'.size⟩ else β k) (σ.set o { obj with cells := cells' }) := by
    refine ⟨fun k x hk => ?_⟩
    by_cases e : k = o
    · subst e
      rw [ho] at hk; cases hk
      exact ⟨{ obj with cells := cells' }, by simp [holt], rfl, rfl, Nat.le_of_lt hlen, fun hl => by dsimp only at hl; omega, fun h0 => absurd h0 hz⟩
    · exact ⟨x, by rw [List.getElem?_set_ne (fun h => e h.symm)]; exact hk, rfl, rfl, Nat.le_refl _, fun _ => if_neg e, fun _ => rfl⟩
  have get : ∀ (k : Nat) (x : AObj), (σ.set o { obj with cells := cells' })[k]? = some x → (k = o ∧ x = { obj with cells := cells' }) ∨ (k ≠ o ∧ σ[k]? = some x) := by
    intro k x hk
    by_cases e : k = o
    · subst e; simp [holt] at hk; exact .inl ⟨rfl, hk.symm⟩
    · rw [List.getElem?_set_ne (fun h => e h.symm)] at hk; exact .inr ⟨e, hk⟩
  have hold : ∀ b, b < w.heap.size → (w.alloc (.cells c' e)).heap[b]? = w.heap[b]? := fun b hb => by
    show (w.heap.push _)[b]? = _
    rw [Array.getElem?_push_lt hb]
    simp [hb]
  have aux : ∀ (o : Nat) (s : Spot), β o = some s → s.blk < w.heap.size := by
    intro o s hs
    have hlt := h.dom o s hs
    obtain ⟨c, e', fz, hb, _⟩ := h.obj o _ s (List.getElem?_eq_getElem hlt) hs
    exact block_lt hb
  refine { ok := ⟨?_, ?_, ?_⟩, later := hlat, len := by simp, size := by simp, keep := fun b hb _ => hold b hb, grow := ?_, fresh := fun k t hk => (fresh_if hk), os := rfl, tape := rfl, output := rfl }
  · intro k t ht
    split at ht
    · rename_i ek; simp [ek, holt]
    · simpa using h.dom k t ht
  · intro k x t hk ht
    rcases get k x hk with ⟨rfl, rfl⟩ | ⟨hne, hk'⟩
    · rw [if_pos rfl] at ht; cases ht
      refine ⟨c', e, (0, 0), by show (w.heap.push _)[w.heap.size]? = _; simp, fun j v hj => ?_, fun _ => ⟨rfl, rfl, .inl rfl⟩⟩
      obtain ⟨u, hu, hr⟩ := hrel j v hj
      exact ⟨u, by simpa using hu, hr.later hlat⟩
    · rw [if_neg hne] at ht
      obtain ⟨c1, e1, fz1, hb1, hcells1, hrw1⟩ := h.obj k x t hk' ht
      refine ⟨c1, e1, fz1, by rw [hold _ (block_lt hb1)]; exact hb1, fun j v hj => ?_, hrw1⟩
      obtain ⟨u, hu, hr⟩ := hcells1 j v hj
      exact ⟨u, hu, hr.later hlat⟩
  · intro k k' x t t' hk hxr ht ht' hbb
    split at ht <;> split at ht'
    · omega
    · cases ht; have := aux _ _ ht'; dsimp only at hbb; omega
    · cases ht'; have := aux _ _ ht; dsimp only at hbb; omega
    · rcases get k x hk with ⟨rfl, rfl⟩ | ⟨hne, hk'⟩
      · rename_i hn _; exact absurd rfl hn
      · exact h.inj k k' x t t' hk' hxr ht ht' hbb
  · rintro b hbl ⟨k, x, t, hk, hxr, ht, rfl⟩
    dsimp only at ht
    split at ht
    · cases ht; dsimp only at hbl; omega
    · rcases get k x hk with ⟨rfl, rfl⟩ | ⟨hne, hk'⟩
      · rename_i hn; exact absurd rfl hn
      · exact ⟨k, x, t, hk', hxr, ht, rfl⟩

theorem splice_cons {l : List Value} {off : Nat} {v : Value} {rest : List Value} (h : off < l.length) : splice l off (v :: rest) = splice (l.set off v) (off + 1) rest := by
  unfold splice
  have h1 : (l.set off v).take (off + 1) = l.take off ++ [v] := by
    rw [List.take_succ_eq_append_getElem (by simpa using h)]
    simp [List.take_set_of_le]
  have h2 : (l.set off v).drop (off + 1 + rest.length) = l.drop (off + (v :: rest).length) := by
    rw [List.drop_set_of_lt (by omega)]
    congr 1
    simp; omega
  rw [h1, h2]
  simp

theorem splice_nil (l : List Value) (off : Nat) : splice l off [] = l := by
  simp [splice]

theorem splice_length {l : List Value} {off : Nat} {new : List Value} (h : off + new.length ≤ l.length) : (splice l off new).length = l.length := by
  simp [splice]; omega

theorem setCell_put {w : World} {b : Nat} {c : Array Value} {e : TypeId} {fz : Nat × Nat} (hb : w.heap[b]? = some (.cells c e fz)) (off : Nat) (v : Value) :
    w.setCell ⟨b, off, none⟩ v = World.put w b (.cells (c.setIfInBounds off v) e fz) := by
  unfold World.setCell World.put
  congr 1
  apply Array.ext_getElem?
  intro i
  rw [Array.getElem?_modify, Array.getElem?_setIfInBounds]
  by_cases e' : b = i
  · subst e'
    rw [if_pos rfl, if_pos rfl, if_pos (block_lt hb), hb]
    rfl
  · rw [if_neg e', if_neg e']

/-- Storing cells into a block of which none is frozen. -/
theorem run_storeCells_put (P : Program) (b o : Nat) (e : TypeId) (fz : Nat × Nat) : ∀ (vs : List Value) (i : Nat) (c : Array Value) (w : World), w.heap[b]? = some (.cells c e fz) →
    o + i + vs.length ≤ c.size → (∀ k, k < c.size → (decide (fz.1 ≤ k) && decide (k < fz.2)) = false) → (∀ v ∈ vs, v.oneCell' = true) →
    (storeCells ⟨b, o, none⟩ vs i).run P w = .ok () (World.put w b (.cells (splice c.toList (o + i) vs).toArray e fz)) := by
  intro vs
  induction vs with
  | nil =>
    intro i c w hb _ _ _
    simp only [storeCells, Sem.run_pure, splice_nil]
    rw [put_self (by simpa using hb)]
  | cons v rest ih =>
    intro i c w hb hle hfz h1
    simp only [List.length_cons] at hle
    have hlt : o + i < c.size := by omega
    have hadd : (⟨b, o, none⟩ : Addr).add i = ⟨b, o + i, none⟩ := by
      unfold Addr.add; split
      · rename_i h0; subst h0; rfl
      · rfl
    have hcell : w.cell? ⟨b, o + i, none⟩ = some c[o + i] := by simp [World.cell?, hb, hlt]
    have hfr : w.frozen? ⟨b, o + i, none⟩ = false := by
      simp only [World.frozen?, hb]; exact hfz _ hlt
    have hv := h1 v (by simp)
    have hstore : (store ⟨b, o + i, none⟩ v).run P w = .ok () (w.setCell ⟨b, o + i, none⟩ v) := by
      cases v <;> first | (simp [Value.oneCell'] at hv; done) | simp [store, Sem.run, hcell, hfr]
    simp only [storeCells, Sem.run_bind, hadd, hstore, Result.andThen_ok]
    rw [setCell_put hb]
    have hb2 : (World.put w b (.cells (c.setIfInBounds (o + i) v) e fz)).heap[b]? = some (.cells (c.setIfInBounds (o + i) v) e fz) := heap_put_same _ (block_lt hb)
    rw [ih (i + 1) _ _ hb2 (by simp; omega) (by simpa using hfz) (fun u hu => h1 u (by simp [hu]))]
    rw [put_put, splice_cons (by simpa using hlt)]
    congr 5
    simp

end Go.Abs

/- The abstract machine: operations that only read stand for the model's. No condition. -/
namespace Go.Abs

def FOk (β : Inj) (σ : Heap) (F : Frame) (tmps : Array Value) : Prop := ∀ t, VRel β σ (fget F t) (tmps.getD t undef)

theorem FOk.later {β β' : Inj} {σ σ' : Heap} (L : Later β σ β' σ') {F : Frame} {tmps : Array Value} (h : FOk β σ F tmps) : FOk β' σ' F tmps := fun t => (h t).later L

theorem eval_sound {β : Inj} {σ : Heap} {F : Frame} {a : Act} (h : FOk β σ F a.tmps) (x : Operand) : VRel β σ (eval F x) (a.eval x) := by
  cases x with
  | tmp t => exact h t
  | func f => exact .func _ _ _ _ _ rfl rfl (fun i v v' h => by simp at h) (fun i v v' h => by simp at h)
  | global g => exact .dead _
  | const v =>
    unfold eval Act.eval
    cases v with
    | agg cs =>
      dsimp only
      split
      · rename_i hall
        refine .agg cs cs rfl fun i v v' h h' => ?_
        rw [h] at h'; cases h'
        refine vrel_const ?_
        rw [List.all_eq_true] at hall
        refine hall v ?_
        rw [Array.mem_toList_iff]
        exact Array.mem_of_getElem? h
      · exact .dead _
    | _ =>
      dsimp only
      split
      · exact vrel_const (by assumption)
      · exact .dead _

theorem vrel_oneCell {β : Inj} {σ : Heap} {v c : Value} (h : VRel β σ v c) (hv : cellOk v = true) : c.oneCell' = true := by
  cases h <;> first | rfl | (simp [cellOk, dead] at hv; done) | skip

/-- The cells of what stands for a value stand for its cells. -/
theorem vrel_cells {β : Inj} {σ : Heap} {v c : Value} (h : VRel β σ v c) (hv : v.cells.toList.all cellOk = true) :
    LRel β σ v.cells.toList c.cells.toList ∧ ∀ u ∈ c.cells.toList, u.oneCell' = true := by
  have aux : ∀ v c : Value, VRel β σ v c → cellOk v = true → v.cells.toList = [v] → c.cells.toList = [c] → LRel β σ v.cells.toList c.cells.toList ∧ ∀ u ∈ c.cells.toList, u.oneCell' = true := by
    intro v c h hv e1 e2
    rw [e1, e2]
    refine ⟨⟨rfl, fun i x y hx hy => ?_⟩, fun u hu => ?_⟩
    · cases i with
      | zero => simp at hx hy; subst hx; subst hy; exact h
      | succ i => simp at hx
    · simp at hu; subst hu; exact vrel_oneCell h hv
  cases h with
  | agg x x' hx h1 =>
    refine ⟨⟨by simpa [Value.cells] using hx, fun i v c hi hi' => h1 i v c (by simpa [Value.cells] using hi) (by simpa [Value.cells] using hi')⟩, fun u hu => ?_⟩
    simp only [Value.cells] at hu hv
    obtain ⟨i, hi, rfl⟩ := List.getElem_of_mem hu
    have hi2 : i < x'.size := by simpa using hi
    have hi1 : i < x.size := by omega
    have := h1 i x[i] x'[i] (by simp [hi1]) (by simp [hi2])
    have hok : cellOk x[i] = true := (List.all_eq_true.1 hv) _ (by simp)
    simpa using vrel_oneCell this hok
  | dead c => simp [Value.cells, dead, cellOk] at hv
  | tuple x x' hx h1 => simp [Value.cells, cellOk] at hv
  | bool b => exact aux _ _ (.bool b) (by simpa [Value.cells] using hv) rfl rfl
  | int k n => exact aux _ _ (.int k n) (by simpa [Value.cells] using hv) rfl rfl
  | float h => exact aux _ _ (.float h) (by simpa [Value.cells] using hv) rfl rfl
  | string s => exact aux _ _ (.string s) (by simpa [Value.cells] using hv) rfl rfl
  | ptrNil => exact aux _ _ .ptrNil (by simpa [Value.cells] using hv) rfl rfl
  | ptr a obj hσ c hk h => exact aux _ _ (.ptr a obj hσ c hk h) (by simpa [Value.cells] using hv) rfl rfl
  | slNil n m => exact aux _ _ (.slNil n m) (by simpa [Value.cells] using hv) rfl rfl
  | sl a obj hσ len cap c cap' hsz hcap h => exact aux _ _ (.sl a obj hσ len cap c cap' hsz hcap h) (by simpa [Value.cells] using hv) rfl rfl
  | func f x y x' y' hx hy h1 h2 => exact aux _ _ (.func f x y x' y' hx hy h1 h2) (by simpa [Value.cells] using hv) rfl rfl
  | nilFunc => exact aux _ _ .nilFunc (by simpa [Value.cells] using hv) rfl rfl
  | nilIface => exact aux _ _ .nilIface (by simpa [Value.cells] using hv) rfl rfl
  | iface t v v' h => exact aux _ _ (.iface t v v' h) (by simpa [Value.cells] using hv) rfl rfl

/-! ### Loads -/

theorem run_isAgg {P : Program} {t : TypeId} {b : Bool} (h : aggT P t = some b) (w : World) : (isAgg t).run P w = .ok b w := by
  unfold aggT at h
  unfold isAgg
  split at h <;> cases h <;> rename_i hu
  · simp [run_underlying hu]
  · simp [run_underlying hu]
  · rename_i d hn1 hn2
    simp only [Sem.run_bind, run_underlying hu, Result.andThen_ok]
    cases d <;> first | rfl | (exact absurd rfl (hn1 _)) | (exact absurd rfl (hn2 _ _))

theorem run_size {P : Program} {t : TypeId} {n : Nat} (h : sizeOfT P t = some n) (w : World) : (sizeOf t).run P w = .ok n w := by
  unfold sizeOfT at h
  cases hi : P.info? t with
  | none => rw [hi] at h; cases h
  | some i => rw [hi] at h; cases h; simp [sizeOf, typeInfo, hi]

theorem ptr_valid {β : Inj} {σ : Heap} {a : Addr} {c : Value} {obj : AObj} (h : VRel β σ (.pointer (some a)) c) (ho : σ[a.block]? = some obj) (hp : ptrOk obj a.spot = true) :
    ∃ s, β a.block = some s ∧ c = .pointer (some ⟨s.blk, s.base + a.off, none⟩) := by
  cases h with
  | ptr a obj' hσ c hk h =>
    rw [hσ] at ho; cases ho
    obtain ⟨s, hs, hc⟩ := h hp
    exact ⟨s, hs, by rw [hc]⟩

theorem load1_sound {P : Program} {β : Inj} {σ : Heap} {w : World} (hok : InjOk β σ w) {t : TypeId} (ht : aggT P t = some false) {p v c : Value} (h : aLoad1 σ p = some v) (hr : VRel β σ p c) :
    ∃ u, (Instr.loadAt t c).run P w = .ok u w ∧ VRel β σ v u := by
  unfold aLoad1 at h
  split at h
  · rename_i a
    split at h
    · rename_i obj ho
      split at h
      · rename_i hp
        obtain ⟨s, hs, rfl⟩ := ptr_valid hr ho hp
        obtain ⟨cc, e, fz, hb, hcells, _⟩ := hok.obj _ _ _ ho hs
        obtain ⟨u, hu, hv⟩ := hcells _ _ h
        refine ⟨u, ?_, hv⟩
        have hcell : w.cell? ⟨s.blk, s.base + a.off, none⟩ = some u := by simp [World.cell?, hb, hu]
        simp [Instr.loadAt, Instr.sureAddr, loadVar, run_isAgg ht, run_load, hcell]
      · cases h
    · cases h
  · cases h

theorem loadCells_of {P : Program} {β : Inj} {σ : Heap} {w : World} (hok : InjOk β σ w) {o : Nat} {obj : AObj} {s : Spot} (ho : σ[o]? = some obj) (hs : β o = some s) (off n : Nat) (hle : off + n ≤ obj.cells.length) :
    ∃ l : List Value, (loadCells ⟨s.blk, s.base + off, none⟩ n).run P w = .ok l.toArray w ∧ LRel β σ ((obj.cells.drop off).take n) l := by
  obtain ⟨cc, e, fz, hb, hcells, _⟩ := hok.obj _ _ _ ho hs
  have hlen : ((obj.cells.drop off).take n).length = n := by simp; omega
  refine ⟨(List.range n).map fun j => cc.getD (s.base + off + j) undef, ?_, ?_, ?_⟩
  · have := run_loadCells (P := P) (w := w) ⟨s.blk, s.base + off, none⟩ n (fun j => cc.getD (s.base + off + j) undef) (fun j hj => by
      have hadd : (⟨s.blk, s.base + off, none⟩ : Addr).add j = ⟨s.blk, s.base + off + j, none⟩ := by
        unfold Addr.add; split
        · rename_i h0; subst h0; rfl
        · rfl
      rw [hadd]
      obtain ⟨u, hu, _⟩ := hcells (off + j) obj.cells[off + j] (by simp [show off + j < obj.cells.length by omega])
      have hu' : cc[s.base + off + j]? = some u := by rw [← hu]; congr 1; omega
      simp [World.cell?, hb, hu', Array.getD_eq_getD_getElem?])
    rw [this]
  · simp [hlen]
  · intro i v c hi hc
    have hin : i < n := by
      rcases Nat.lt_or_ge i n with h' | h'
      · exact h'
      · rw [List.getElem?_eq_none (by rw [hlen]; exact h')] at hi; cases hi
    simp [hin] at hc
    subst hc
    rw [List.getElem?_take, if_pos hin, List.getElem?_drop] at hi
    obtain ⟨u, hu, hv⟩ := hcells (off + i) v hi
    have hu' : cc[s.base + off + i]? = some u := by rw [← hu]; congr 1; omega
    simpa [Array.getD_eq_getD_getElem?, hu'] using hv

theorem loadN_sound {P : Program} {β : Inj} {σ : Heap} {w : World} (hok : InjOk β σ w) {t : TypeId} {n : Nat} (ht : aggT P t = some true) (hn : sizeOfT P t = some n) {p v c : Value} (h : aLoadN σ n p = some v) (hr : VRel β σ p c) :
    ∃ u, (Instr.loadAt t c).run P w = .ok u w ∧ VRel β σ v u := by
  unfold aLoadN at h
  split at h
  · rename_i a
    split at h
    · rename_i obj ho
      split at h
      · rename_i hp
        cases h
        simp only [Bool.and_eq_true, decide_eq_true_eq] at hp
        obtain ⟨s, hs, rfl⟩ := ptr_valid hr ho hp.1
        obtain ⟨l, hl, hrel⟩ := loadCells_of (P := P) hok ho hs a.off n hp.2
        refine ⟨.agg l.toArray, ?_, ?_⟩
        · simp [Instr.loadAt, Instr.sureAddr, loadVar, run_isAgg ht, run_size hn, hl]
        · refine .agg _ _ (by simpa using hrel.1) fun i v v' hv hv' => hrel.2 i v v' (by simpa using hv) (by simpa using hv')
      · cases h
    · cases h
  · cases h

end Go.Abs

/- The abstract machine: operations that touch no memory stand for the model's. No condition. -/
namespace Go.Abs

/-! ### Numbers -/

theorem decode_nan {k : FloatKind} {b : Nat} (h : isNaN k b = true) : ∃ s t, k.decode b = .nan s t := by
  unfold isNaN at h
  cases hd : k.decode b with
  | nan s t => exact ⟨s, t, rfl⟩
  | _ => rw [hd] at h; simp [Ieee.Datum.isNaN] at h

theorem floatBits_nan_left {op : BinOp} {k : FloatKind} {x y : Nat} (h : isNaN k x = true) : floatBits op k x y = none := by
  obtain ⟨s, t, hd⟩ := decode_nan h
  have hd' : k.format.read x = .nan s t := hd
  unfold floatBits
  cases op <;> simp [Ieee.Format.add, Ieee.Format.sub, Ieee.Format.mul, Ieee.Format.div, hd', Ieee.Datum.sum, Ieee.Datum.product, Ieee.Datum.quotient]

theorem floatBits_nan_right {op : BinOp} {k : FloatKind} {x y : Nat} (h : isNaN k y = true) : floatBits op k x y = none := by
  obtain ⟨s, t, hd⟩ := decode_nan h
  have hd' : k.format.read y = .nan s t := hd
  unfold floatBits
  cases op <;> simp only [Ieee.Format.add, Ieee.Format.sub, Ieee.Format.mul, Ieee.Format.div, hd', Ieee.Datum.opposite] <;>
    cases k.format.read x <;> simp [Ieee.Datum.sum, Ieee.Datum.product, Ieee.Datum.quotient]

theorem order_nan {k : FloatKind} {x y : Nat} (h : isNaN k x = true ∨ isNaN k y = true) : k.format.order x y = none := by
  rcases h with h | h
  · obtain ⟨s, t, hd⟩ := decode_nan h
    have hd' : k.format.read x = .nan s t := hd
    simp [Ieee.Format.order, hd', Ieee.Datum.order]
  · obtain ⟨s, t, hd⟩ := decode_nan h
    have hd' : k.format.read y = .nan s t := hd
    simp only [Ieee.Format.order, hd']
    cases k.format.read x <;> simp [Ieee.Datum.order]

theorem order_rel {k : FloatKind} {a b a' b' : Nat} (h1 : FRel k a a') (h2 : FRel k b b') : k.format.order a b = k.format.order a' b' := by
  rcases h1 with rfl | ⟨h1, h1'⟩
  · rcases h2 with rfl | ⟨h2, h2'⟩
    · rfl
    · rw [order_nan (.inr h2), order_nan (.inr h2')]
  · rw [order_nan (.inl h1), order_nan (.inl h1')]

theorem floatBits_rel {op : BinOp} {k : FloatKind} {a b a' b' : Nat} (h1 : FRel k a a') (h2 : FRel k b b') : floatBits op k a b = floatBits op k a' b' := by
  rcases h1 with rfl | ⟨h1, h1'⟩
  · rcases h2 with rfl | ⟨h2, h2'⟩
    · rfl
    · rw [floatBits_nan_right h2, floatBits_nan_right h2']
  · rw [floatBits_nan_left h1, floatBits_nan_left h1']

theorem isNaN_nanOf (k : FloatKind) : isNaN k (nanOf k) = true := by cases k <;> decide +kernel

theorem cut_nan (k : FloatKind) (x y t : Nat) : isNaN k ((Question.nanBits k x y).cut t) = true := by
  have h23 : (t / 2) % (2 ^ 23 - 1) < 2 ^ 23 - 1 := Nat.mod_lt _ (by decide)
  have h52 : (t / 2) % (2 ^ 52 - 1) < 2 ^ 52 - 1 := Nat.mod_lt _ (by decide)
  have h2 : t % 2 < 2 := Nat.mod_lt _ (by decide)
  cases k
  · simp only [Question.cut]
    generalize (t / 2) % (2 ^ 23 - 1) = m at h23
    generalize t % 2 = s at h2
    have e : s * 2 ^ 31 + 0x7f800000 + 1 + m = s * 2147483648 + (2139095041 + m) := by omega
    unfold isNaN FloatKind.decode FloatKind.format Ieee.Format.read
    have hs : (s * 2 ^ 31 + 0x7f800000 + 1 + m) % Ieee.single.signWeight = 2139095041 + m := by
      have : Ieee.single.signWeight = 2147483648 := rfl
      rw [this]; omega
    simp only [hs]
    have b1 : Ieee.single.binade = 8388608 := rfl
    have b2 : Ieee.single.infRung = 2139095040 := rfl
    rw [b1, b2, if_neg (by omega), if_neg (by omega), if_neg (by omega)]
    rfl
  · simp only [Question.cut]
    generalize (t / 2) % (2 ^ 52 - 1) = m at h52
    generalize t % 2 = s at h2
    unfold isNaN FloatKind.decode FloatKind.format Ieee.Format.read
    have hs : (s * 2 ^ 63 + 0x7ff0000000000000 + 1 + m) % Ieee.double.signWeight = 9218868437227405313 + m := by
      have : Ieee.double.signWeight = 9223372036854775808 := rfl
      rw [this]; omega
    simp only [hs]
    have b1 : Ieee.double.binade = 4503599627370496 := rfl
    have b2 : Ieee.double.infRung = 9218868437227405312 := rfl
    rw [b1, b2, if_neg (by omega), if_neg (by omega), if_neg (by omega)]
    rfl

theorem cut_nanConv (k : FloatKind) (x t : Nat) : isNaN k ((Question.nanConv k x).cut t) = true := by
  have := cut_nan k x x t
  cases k <;> exact this

theorem neg_nan {k : FloatKind} {b : Nat} (hb : isNaN k b = true) : isNaN k (Op.negFloat k b) = true := by
  have key : ∀ n b : Nat, (b ^^^ 2 ^ n) % 2 ^ n = b % 2 ^ n := fun n b => by
    rw [Nat.xor_mod_two_pow, Nat.mod_self, Nat.xor_zero]
  unfold isNaN FloatKind.decode FloatKind.format Ieee.Format.read at *
  cases k
  · have e : (Op.negFloat .f32 b) % Ieee.single.signWeight = b % Ieee.single.signWeight := key 31 b
    dsimp only at *
    rw [e]
    split at hb
    · simp [Ieee.Datum.isNaN] at hb
    · rename_i h1
      rw [if_neg h1]
      split at hb
      · simp [Ieee.Datum.isNaN] at hb
      · rename_i h2
        rw [if_neg h2]
        split at hb
        · simp [Ieee.Datum.isNaN] at hb
        · rename_i h3
          rw [if_neg h3]; rfl
  · have e : (Op.negFloat .f64 b) % Ieee.double.signWeight = b % Ieee.double.signWeight := key 63 b
    dsimp only at *
    rw [e]
    split at hb
    · simp [Ieee.Datum.isNaN] at hb
    · rename_i h1
      rw [if_neg h1]
      split at hb
      · simp [Ieee.Datum.isNaN] at hb
      · rename_i h2
        rw [if_neg h2]
        split at hb
        · simp [Ieee.Datum.isNaN] at hb
        · rename_i h3
          rw [if_neg h3]; rfl

/-- A world as it was, or one answer further. -/
def Drew (w w' : World) : Prop := w' = w ∨ w' = w.drew

theorem Drew.trans_ {β : Inj} {σ : Heap} {w w' : World} (h : InjOk β σ w) (hd : Drew w w') : Trans β σ w β σ w' := by
  rcases hd with rfl | rfl
  · exact Trans.refl h
  · exact Trans.drew h

theorem fArith_sound {P : Program} {β : Inj} {σ : Heap} {w : World} {op : BinOp} {k : FloatKind} {a b a' b' : Nat} {v : Value} (h1 : FRel k a a') (h2 : FRel k b b') (h : fArith op k a b = some v) (t : TypeId) :
    ∃ c w', (binOp op t (.float k a') (.float k b')).run P w = .ok c w' ∧ VRel β σ v c ∧ Drew w w' := by
  have arith : ∀ op, (op = .add ∨ op = .sub ∨ op = .mul ∨ op = .quo) → ∃ c w', (binOp op t (.float k a') (.float k b')).run P w = .ok c w' ∧ VRel β σ (.float k (fbin op k a b)) c ∧ Drew w w' := by
    intro op hop
    have hfb := floatBits_rel (op := op) h1 h2
    cases hr : floatBits op k a' b' with
    | some r =>
      refine ⟨.float k r, w, run_float_arith w op t k a' b' r hr, ?_, .inl rfl⟩
      refine .float (.inl ?_)
      unfold fbin
      rw [hfb, hr]; rfl
    | none =>
      refine ⟨.float k ((Question.nanBits k a' b').cut (w.tape w.drawn (.nanBits k a' b'))), w.drew, ?_, ?_, .inr rfl⟩
      · unfold floatBits at hr
        rcases hop with rfl | rfl | rfl | rfl <;> simp only at hr <;> simp [binOp, Op.floatArith, hr, Question.forced]
      · refine .float (.inr ⟨?_, cut_nan _ _ _ _⟩)
        unfold fbin
        rw [hfb, hr]
        exact isNaN_nanOf k
  have ho := order_rel h1 h2
  cases op <;> simp only [fArith, fcmp] at h <;>
    first
      | (cases h; exact arith _ (by simp))
      | (cases h; refine ⟨_, w, ?_, .bool _, .inl rfl⟩; simp [binOp, Op.floatCmp, ho]; done)
      | (cases h; done)

theorem iArith_sound {P : Program} {w : World} {op : BinOp} {k : IntKind} {a b : Int} {v : Value} (h : iArith op k a b = some v) (t : TypeId) :
    (binOp op t (.int k a) (.int k b)).run P w = .ok v w := by
  cases op <;> simp only [iArith] at h <;>
    first
      | (cases h; simp [binOp, Op.intArith, Op.intBits, Op.intCmp]; done)
      | (split at h
         · cases h
         · rename_i hb; cases h; simp [binOp, Op.intDiv, hb])
      | (cases h; done)

theorem sArith_sound {P : Program} {w : World} {op : BinOp} {a b : ByteArray} {v : Value} (h : sArith op a b = some v) (t : TypeId) :
    (binOp op t (.string a) (.string b)).run P w = .ok v w := by
  have hm : IntKind.i64.max = 9223372036854775807 := rfl
  have hadd : ∀ (hle : a.size + b.size ≤ maxI), (binOp .add t (.string a) (.string b)).run P w = .ok (.string (a ++ b)) w := by
    intro hle
    unfold maxI at hle
    simp [binOp, Op.stringOp, hm]
    omega
  cases op <;> simp only [sArith] at h <;>
    first
      | (cases h; simp [binOp, Op.stringOp]; done)
      | (by_cases hle : a.size + b.size ≤ maxI
         · rw [if_pos hle] at h; cases h; exact hadd hle
         · rw [if_neg hle] at h; cases h)
      | (cases h; done)

theorem equal_of {P : Program} {w : World} {t : TypeId} {cx cy : Value} {b : Bool} (h : ∀ d, (Op.equalIn (d + 1) t cx cy).run P w = .ok b w) : (Op.equal t cx cy).run P w = .ok b w := h 9999

def NoGuard (cx cy : Value) : Prop := (∀ a b, ¬ (cx = .agg a ∧ cy = .agg b)) ∧ (∀ k n j m, ¬ (cx = .int k n ∧ cy = .int j m)) ∧ (∀ k n j m, ¬ (cx = .float k n ∧ cy = .float j m)) ∧
  (∀ k a b j c d, ¬ (cx = .complex k a b ∧ cy = .complex j c d)) ∧ (∀ a b, ¬ (cx = .string a ∧ cy = .string b))

theorem eqk2_eq {P : Program} {t : TypeId} {X Y : Operand} {ek : EqK} (he : eqk2 P t X Y = ek) (hne : ek ≠ .other) : eqkOf P t = ek := by
  unfold eqk2 at he
  split at he
  · rename_i hi
    split at he
    · rw [hi, he]
    · exact absurd he.symm hne
  · exact he

theorem eqk_bool {P : Program} {t : TypeId} (h : eqkOf P t = .bool) : P.underlying t = some .bool := by unfold eqkOf at h; split at h <;> first | assumption | cases h
theorem eqk_slice {P : Program} {t : TypeId} (h : eqkOf P t = .slice) : ∃ e, P.underlying t = some (.slice e) := by unfold eqkOf at h; split at h <;> first | exact ⟨_, by assumption⟩ | cases h
theorem eqk_iface {P : Program} {t : TypeId} (h : eqkOf P t = .iface) : ∃ e, P.underlying t = some (.interface e) := by unfold eqkOf at h; split at h <;> first | exact ⟨_, by assumption⟩ | cases h
theorem eqk_pointer {P : Program} {t : TypeId} (h : eqkOf P t = .pointer) : ∃ e, P.underlying t = some (.pointer e) := by unfold eqkOf at h; split at h <;> first | exact ⟨_, by assumption⟩ | cases h

theorem aEql_sound {P : Program} {β : Inj} {σ : Heap} {w : World} {t : TypeId} {x y cx cy : Value} {b : Bool} {X Y : Operand} (h : aEql (eqk2 P t X Y) x y = some b) (h1 : VRel β σ x cx) (h2 : VRel β σ y cy) :
    (Op.equal t cx cy).run P w = .ok b w ∧ ((isConst X || isConst Y) = true ∨ ¬ (cx = .nilIface ∧ cy = .nilIface)) ∧ NoGuard cx cy := by
  unfold aEql at h
  generalize hek : eqk2 P t X Y = ek at h
  split at h
  · cases h
    cases h1; cases h2
    have hd := eqk_bool (eqk2_eq hek (by simp))
    exact ⟨equal_of fun d => by simp [Op.equalIn, run_underlying hd], .inr (by simp), by simp [NoGuard]⟩
  · cases h
    obtain ⟨e, hd⟩ := eqk_slice (eqk2_eq hek (by simp))
    cases h1
    cases h2 <;> exact ⟨equal_of fun d => by simp [Op.equalIn, run_underlying hd], .inr (by simp), by simp [NoGuard]⟩
  · cases h
    obtain ⟨e, hd⟩ := eqk_slice (eqk2_eq hek (by simp))
    rename_i hnn
    cases h2
    cases h1 with
    | slNil n m => exact (hnn rfl).elim
    | sl a obj hσ len cap c cap' hsz hcap h => exact ⟨equal_of fun d => by simp [Op.equalIn, run_underlying hd], .inr (by simp), by simp [NoGuard]⟩
  · cases h
    obtain ⟨e, hd⟩ := eqk_iface (eqk2_eq hek (by simp))
    cases h1; cases h2
    refine ⟨equal_of fun d => by simp [Op.equalIn, run_underlying hd], .inl ?_, by simp [NoGuard]⟩
    unfold eqk2 at hek
    split at hek
    · split at hek
      · assumption
      · cases hek
    · rename_i hne; exact absurd hek hne
  · cases h
    obtain ⟨e, hd⟩ := eqk_iface (eqk2_eq hek (by simp))
    cases h1; cases h2
    exact ⟨equal_of fun d => by simp [Op.equalIn, run_underlying hd], .inr (by simp), by simp [NoGuard]⟩
  · cases h
    obtain ⟨e, hd⟩ := eqk_iface (eqk2_eq hek (by simp))
    cases h1; cases h2
    exact ⟨equal_of fun d => by simp [Op.equalIn, run_underlying hd], .inr (by simp), by simp [NoGuard]⟩
  · cases h
    obtain ⟨e, hd⟩ := eqk_pointer (eqk2_eq hek (by simp))
    cases h1
    cases h2 <;> exact ⟨equal_of fun d => by simp [Op.equalIn, run_underlying hd], .inr (by simp), by simp [NoGuard]⟩
  · cases h
    obtain ⟨e, hd⟩ := eqk_pointer (eqk2_eq hek (by simp))
    cases h1; cases h2
    exact ⟨equal_of fun d => by simp [Op.equalIn, run_underlying hd], .inr (by simp), by simp [NoGuard]⟩
  · cases h

end Go.Abs

/- The abstract machine: each operation that touches no memory, as the model runs it. No condition. -/
namespace Go.Abs

def Does (P : Program) (r : Result Next) (R : Value → World → Prop) : Prop :=
  (∃ c w', r = .ok (.value c) w' ∧ R c w') ∨ (∃ w', r = .ok .skip w' ∧ R undef w') ∨
  (∃ f args w', r = .ok (.enter f args) w' ∧ Calls P f args w' (fun e w'' => ∃ c, e = .returned c ∧ R c w''))

theorem Does.wp {P : Program} {o : Oper} {a : Act} {w : World} {R : Value → World → Prop} {next : Act → World → Prop} {Q : Exit → Act → World → Prop}
    (h : Does P ((execOp a.eval o).run P w) R) (hn : ∀ c w', R c w' → next (a.put o.dst c) w') : o.wp P a w next Q := by
  unfold Oper.wp
  rcases h with ⟨c, w', h, hr⟩ | ⟨w', h, hr⟩ | ⟨f, args, w', h, hr⟩
  · rw [h]; exact hn _ _ hr
  · rw [h]; exact hn _ _ hr
  · rw [h]
    refine hr.mono fun e w'' he => ?_
    obtain ⟨c, rfl, hr⟩ := he
    exact hn _ _ hr

/-- What an operation of the abstract machine asks of the model's. -/
def Good (β : Inj) (σ : Heap) (w : World) (v : Value) (σ' : Heap) : Value → World → Prop := fun c w' => ∃ β', Trans β σ w β' σ' w' ∧ VRel β' σ' v c

theorem Does.pure_ {P : Program} {β : Inj} {σ : Heap} {w w' : World} {v c : Value} {r : Result Next} (hok : InjOk β σ w) (h : r = .ok (.value c) w') (hv : VRel β σ v c) (hd : Drew w w') : Does P r (Good β σ w v σ) :=
  .inl ⟨c, w', h, β, hd.trans_ hok, hv⟩

section
variable {P : Program} {β : Inj} {σ : Heap} {w : World} {o : Oper} {F : Frame} {a : Act} {v : Value}

theorem does_mov (hok : InjOk β σ w) (hF : FOk β σ F a.tmps) {x : Operand} (ho : o.op = .move x ∨ o.op = .assign x) : Does P ((execOp a.eval o).run P w) (Good β σ w (eval F x) σ) := by
  refine .pure_ (c := a.eval x) (w' := w) hok ?_ (eval_sound hF x) (.inl rfl)
  rcases ho with ho | ho <;> simp [execOp, ho]

theorem does_pick (hok : InjOk β σ w) (hF : FOk β σ F a.tmps) {c x y : Operand} (ho : o.op = .pick c x y) (h : aPick (eval F c) (eval F x) (eval F y) = some v) : Does P ((execOp a.eval o).run P w) (Good β σ w v σ) := by
  have hc := eval_sound hF c
  unfold aPick at h
  split at h
  · rename_i t he
    rw [he] at hc
    cases h
    have hce : a.eval c = .bool t := by
      generalize a.eval c = u at hc
      cases hc; rfl
    refine .pure_ (c := if t then a.eval x else a.eval y) (w' := w) hok ?_ ?_ (.inl rfl)
    · simp [execOp, ho, hce, asBool]
    · cases t
      · exact eval_sound hF y
      · exact eval_sound hF x
  · cases h

theorem does_nilCheck (hok : InjOk β σ w) (hF : FOk β σ F a.tmps) {x : Operand} (ho : o.op = .nilCheck x) (h : aNilCheck (eval F x) = some v) : Does P ((execOp a.eval o).run P w) (Good β σ w v σ) := by
  have hx := eval_sound hF x
  unfold aNilCheck at h
  split at h
  · rename_i p he
    cases h
    rw [he] at hx
    generalize hcx : a.eval x = cx at hx
    cases hx with
    | ptr a' obj hσ c hk hh =>
      exact .pure_ (c := .pointer (some c)) (w' := w) hok (by simp [execOp, ho, hcx]) (.ptr _ obj hσ c hk hh) (.inl rfl)
  · rename_i f p q he
    cases h
    rw [he] at hx
    generalize hcx : a.eval x = cx at hx
    cases hx with
    | func f x y x' y' hx hy h1 h2 =>
      exact .pure_ (c := .func (.func _) x' y') (w' := w) hok (by simp [execOp, ho, hcx]) (.func _ _ _ _ _ hx hy h1 h2) (.inl rfl)
  · cases h

theorem run_eqGuard_none (op : BinOp) (t : TypeId) (X Y : Operand) (cx cy : Value) (h : ((isConst X || isConst Y) = true ∨ ¬ (cx = .nilIface ∧ cy = .nilIface)) ∧ (∀ a b, ¬ (cx = .agg a ∧ cy = .agg b))) :
    (eqGuard op t X Y cx cy).run P w = .ok () w := by
  obtain ⟨h1, h2⟩ := h
  unfold eqGuard
  cases op <;> first | rfl | skip
  all_goals
    simp only [Bool.not_true, Bool.false_eq_true, if_false]
    split
    · rcases h1 with h1 | h1
      · rw [if_pos (by cases X <;> cases Y <;> first | rfl | exact Bool.noConfusion h1)]
        rfl
      · simp at h1
    · simp at h2
    · rfl

theorem aBin_num {op : BinOp} {ek : EqK} {x y : Value} (h : aBin op ek x y = some v) :
    (∃ k a j b, x = .int k a ∧ y = .int j b ∧ ((op = .shl ∧ 0 ≤ b ∧ v = .int k (k.wrap (a * 2 ^ (min b.toNat k.bits)))) ∨ (op = .shr ∧ 0 ≤ b ∧ v = .int k (a.fdiv (2 ^ (min b.toNat k.bits)))) ∨ (j = k ∧ iArith op k a b = some v))) ∨
    (∃ k a b, x = .float k a ∧ y = .float k b ∧ fArith op k a b = some v) ∨ (∃ a b, x = .string a ∧ y = .string b ∧ sArith op a b = some v) ∨
    (op = .eql ∧ ∃ b, aEql ek x y = some b ∧ v = .bool b) ∨ (op = .neq ∧ ∃ b, aEql ek x y = some b ∧ v = .bool (!b)) := by
  unfold aBin at h
  split at h
  · split at h
    · cases h
    · cases h; exact .inl ⟨_, _, _, _, rfl, rfl, .inl ⟨rfl, by omega, rfl⟩⟩
  · split at h
    · cases h
    · cases h; exact .inl ⟨_, _, _, _, rfl, rfl, .inr (.inl ⟨rfl, by omega, rfl⟩)⟩
  · split at h
    · rename_i e; subst e; exact .inl ⟨_, _, _, _, rfl, rfl, .inr (.inr ⟨rfl, h⟩)⟩
    · cases h
  · split at h
    · rename_i e; subst e; exact .inr (.inl ⟨_, _, _, rfl, rfl, h⟩)
    · cases h
  · exact .inr (.inr (.inl ⟨_, _, rfl, rfl, h⟩))
  · cases hb : aEql ek x y with
    | none => rw [hb] at h; cases h
    | some b => rw [hb] at h; cases h; exact .inr (.inr (.inr (.inl ⟨rfl, b, rfl, rfl⟩)))
  · cases hb : aEql ek x y with
    | none => rw [hb] at h; cases h
    | some b => rw [hb] at h; cases h; exact .inr (.inr (.inr (.inr ⟨rfl, b, rfl, rfl⟩)))
  · cases h

theorem bin_sound {op : BinOp} {t : TypeId} {X Y : Operand} {x y cx cy : Value} (h : aBin op (eqk2 P t X Y) x y = some v) (h1 : VRel β σ x cx) (h2 : VRel β σ y cy) :
    ∃ c w', (do eqGuard op t X Y cx cy; binOp op t cx cy : Sem Value).run P w = .ok c w' ∧ VRel β σ v c ∧ Drew w w' := by
  rcases aBin_num h with ⟨k, a, j, b, rfl, rfl, hk⟩ | ⟨k, a, b, rfl, rfl, hk⟩ | ⟨a, b, rfl, rfl, hk⟩ | ⟨rfl, b, hb, rfl⟩ | ⟨rfl, b, hb, rfl⟩
  · cases h1; cases h2
    have hg := run_eqGuard_none (P := P) (w := w) op t X Y (.int k a) (.int j b) ⟨.inr (by simp), by simp⟩
    rcases hk with ⟨rfl, hb, rfl⟩ | ⟨rfl, hb, rfl⟩ | ⟨rfl, hk⟩
    · exact ⟨_, w, by simp [hg, binOp, Op.shift, show ¬ b < 0 by omega], .int _ _, .inl rfl⟩
    · exact ⟨_, w, by simp [hg, binOp, Op.shift, show ¬ b < 0 by omega], .int _ _, .inl rfl⟩
    · refine ⟨v, w, by simp [hg, iArith_sound hk t], ?_, .inl rfl⟩
      cases op <;> simp only [iArith] at hk <;> first | (cases hk; first | exact .int _ _ | exact .bool _) | (split at hk <;> first | (cases hk; done) | (cases hk; exact .int _ _)) | cases hk
  · cases h1 with
    | float f1 =>
      cases h2 with
      | float f2 =>
        obtain ⟨c, w', hr, hv, hd⟩ := fArith_sound (P := P) (β := β) (σ := σ) (w := w) f1 f2 hk t
        rename_i b1 b2
        have hg := run_eqGuard_none (P := P) (w := w) op t X Y (.float k b1) (.float k b2) ⟨.inr (by simp), by simp⟩
        exact ⟨c, w', by simp only [Sem.run_bind, hg, Result.andThen_ok]; exact hr, hv, hd⟩
  · cases h1; cases h2
    have hg := run_eqGuard_none (P := P) (w := w) op t X Y (.string a) (.string b) ⟨.inr (by simp), by simp⟩
    refine ⟨v, w, by simp only [Sem.run_bind, hg, Result.andThen_ok]; exact sArith_sound hk t, ?_, .inl rfl⟩
    cases op <;> simp only [sArith] at hk <;> first | (cases hk; exact .bool _) | (split at hk <;> first | (cases hk; done) | (cases hk; exact .string _)) | cases hk
  · obtain ⟨he, hc, hn⟩ := aEql_sound (w := w) hb h1 h2
    have hg := run_eqGuard_none (P := P) (w := w) .eql t X Y cx cy ⟨hc, hn.1⟩
    refine ⟨.bool b, w, ?_, .bool _, .inl rfl⟩
    simp only [Sem.run_bind, hg, Result.andThen_ok]
    unfold binOp
    split <;> first | (simp [he]; done) | skip
    all_goals (rename_i q; first | exact absurd ⟨rfl, rfl⟩ (hn.2.1 _ _ _ _) | exact absurd ⟨rfl, rfl⟩ (hn.2.2.1 _ _ _ _) | exact absurd ⟨rfl, rfl⟩ (hn.2.2.2.1 _ _ _ _ _ _) | exact absurd ⟨rfl, rfl⟩ (hn.2.2.2.2 _ _) | cases q | simp_all)
  · obtain ⟨he, hc, hn⟩ := aEql_sound (w := w) hb h1 h2
    have hg := run_eqGuard_none (P := P) (w := w) .neq t X Y cx cy ⟨hc, hn.1⟩
    refine ⟨.bool (!b), w, ?_, .bool _, .inl rfl⟩
    simp only [Sem.run_bind, hg, Result.andThen_ok]
    unfold binOp
    split <;> first | (simp [he]; done) | skip
    all_goals (rename_i q; first | exact absurd ⟨rfl, rfl⟩ (hn.2.1 _ _ _ _) | exact absurd ⟨rfl, rfl⟩ (hn.2.2.1 _ _ _ _) | exact absurd ⟨rfl, rfl⟩ (hn.2.2.2.1 _ _ _ _ _ _) | exact absurd ⟨rfl, rfl⟩ (hn.2.2.2.2 _ _) | cases q | simp_all)

theorem does_bin (hok : InjOk β σ w) (hF : FOk β σ F a.tmps) {op : BinOp} {t u : TypeId} {x y : Operand} (ho : o.op = .binOp op t x y u) (h : aBin op (eqk2 P t x y) (eval F x) (eval F y) = some v) :
    Does P ((execOp a.eval o).run P w) (Good β σ w v σ) := by
  obtain ⟨c, w', hr, hv, hd⟩ := bin_sound (w := w) h (eval_sound hF x) (eval_sound hF y)
  refine .pure_ (c := c) (w' := w') hok ?_ hv hd
  simp only [execOp, ho, Sem.run_bind, hr, Result.andThen_ok, Sem.run_pure]

end
end Go.Abs

