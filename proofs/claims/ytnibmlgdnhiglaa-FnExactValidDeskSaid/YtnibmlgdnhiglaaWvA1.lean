/- The abstract machine: definitions. Rows of values without capacities, NaNs without payloads; the code of a function resolved against the program's types. No condition. -/
import Derived.WalkKit
import Derived.Laws.FloatArith
import Derived.Orders
namespace Go.Abs

/-- A variable (esz = 0) or a row of elements of esz cells. -/
structure AObj where
  cells : List Value
  esz : Nat
  rw : Bool

abbrev Heap := List AObj
abbrev Frame := List (Nat × Value)

/-- A slot whose value is forgotten. -/
def dead : Value := .chan (some 0)

def fget : Frame → Nat → Value
  | [], _ => dead
  | (u, x) :: F, t => bif Nat.beq u t then x else fget F t

def fset (F : Frame) (t : Nat) (v : Value) : Frame := (t, v) :: F

def memb : List Nat → Nat → Bool
  | [], _ => false
  | u :: l, t => bif Nat.beq u t then true else memb l t

def fkeep : List Nat → Frame → Frame
  | [], _ => []
  | t :: K, F => (t, fget F t) :: fkeep K F

def fput (F : Frame) (dst : Option Nat) (v : Value) : Frame :=
  match dst with
  | some d => fset F d v
  | none => F

def nanOf : FloatKind → Nat
  | .f32 => 0x7fc00000
  | .f64 => 0x7ff8000000000000

def isNaN (k : FloatKind) (b : Nat) : Bool := (k.decode b).isNaN

/-- A value that can lie in one cell and that is known. -/
def cellOk : Value → Bool
  | .agg _ | .tuple _ | .chan _ | .map _ => false
  | _ => true

/-- What every world has as it is. -/
def constOk : Value → Bool
  | .bool _ | .int _ _ | .float _ _ | .string _ | .pointer none | .slice none 0 0 | .nilFunc | .nilIface => true
  | _ => false

def eval (F : Frame) : Operand → Value
  | .tmp t => fget F t
  | .const (.agg cs) => if cs.toList.all constOk then .agg cs else dead
  | .const v => if constOk v then v else dead
  | .func f => .func (.func f) #[] #[]
  | .global _ => dead

/-- The kinds of '==' beyond numbers and strings. -/
inductive EqK where
  | bool | slice | iface | pointer | func | other
  deriving DecidableEq

inductive ConvK where
  | toInt (k : IntKind)
  | toFloat (k : FloatKind)
  | same
  | toBytes
  | toStr
  | mark
  deriving DecidableEq

inductive SOp where
  | mov (x : Operand)
  | pick (c a b : Operand)
  | alloc (zero : List Value)
  | box (x : Operand)
  | build (zero : List Value) (parts : List (Nat × Nat × Operand))
  | buildSlice (esz len : Nat) (zero : List Value) (parts : List (Nat × Nat × Operand))
  | load1 (x : Operand)
  | loadN (n : Nat) (x : Operand)
  | store (n : Nat) (a v : Operand)
  | nilCheck (x : Operand)
  | bin (op : BinOp) (ek : EqK) (x y : Operand)
  | un (op : UnOp) (x : Operand)
  | conv (c : ConvK) (x : Operand)
  | makeFunc (f : FuncId) (first captured : List Operand)
  | makeSlice (esz bytes : Nat) (zero : List Value) (l c : Operand)
  | sliceStr (x : Operand) (lo hi : Option Operand)
  | sliceSl (esz : Nat) (x : Operand) (lo hi : Option Operand)
  | fieldAddr (off : Nat) (x : Operand)
  | field1 (off : Nat) (x : Operand)
  | fieldN (off n : Nat) (x : Operand)
  | indexAddrS (esz : Nat) (x i : Operand)
  | indexAddrA (len esz : Nat) (x i : Operand)
  | indexStr (x i : Operand)
  | index1 (len : Nat) (x i : Operand)
  | indexN (len esz : Nat) (x i : Operand)
  | extract (x : Operand) (i : Nat)
  | len (str : Bool) (x : Operand)
  | append (esz bytes : Nat) (s x : Operand)
  | copy (esz : Nat) (d s : Operand)
  | minmax (mx : Bool) (xs : List Operand)
  | call (f : Operand) (args : List Operand)

/-- anc: the operations of the region that stand ahead in every order, as a mask. -/
structure SOper where
  dst : Option Nat
  guard : Option (Nat × Bool)
  op : SOp
  anc : Nat

inductive SCode where
  | skip
  | region (ops : List SOper) (draw : Bool)
  | seq (a b : SCode)
  | cond (c : Operand) (a b : SCode)
  | block (id : Nat) (body : SCode)
  | loop (body : SCode)
  | exit (id : Nat)
  | ret
  | kp (keep : List Nat) (body : SCode)

def SCode.strip : SCode → SCode
  | .seq a b => .seq a.strip b.strip
  | .cond c a b => .cond c a.strip b.strip
  | .block id b => .block id b.strip
  | .loop b => .loop b.strip
  | .kp _ b => b.strip
  | c => c

/-! ### What the operations do -/

def condOn {α : Type} (v : Value) (x y : Option α) : Option α :=
  match v with
  | .bool b => bif b then x else y
  | _ => none

def aPick (c a b : Value) : Option Value :=
  match c with
  | .bool t => some (bif t then a else b)
  | _ => none

def ptrOk (obj : AObj) : Option Nat → Bool
  | none => Nat.beq obj.esz 0
  | some n => Nat.beq obj.cells.length n && !(Nat.beq obj.esz 0)

def aLoad1 (σ : Heap) (p : Value) : Option Value :=
  match p with
  | .pointer (some a) =>
    match σ[a.block]? with
    | some obj => if ptrOk obj a.spot then obj.cells[a.off]? else none
    | none => none
  | _ => none

def aLoadN (σ : Heap) (n : Nat) (p : Value) : Option Value :=
  match p with
  | .pointer (some a) =>
    match σ[a.block]? with
    | some obj => if ptrOk obj a.spot && decide (a.off + n ≤ obj.cells.length) then some (.agg ((obj.cells.drop a.off).take n).toArray) else none
    | none => none
  | _ => none

def splice (l : List Value) (off : Nat) (new : List Value) : List Value := l.take off ++ new ++ l.drop (off + new.length)

def aStore (σ : Heap) (n : Nat) (p v : Value) : Option Heap :=
  match p with
  | .pointer (some a) =>
    match σ[a.block]? with
    | some obj =>
      if ptrOk obj a.spot && obj.rw && decide (a.off + n ≤ obj.cells.length) && Nat.beq v.cells.toList.length n && v.cells.toList.all cellOk then
        some (σ.set a.block { obj with cells := splice obj.cells a.off v.cells.toList })
      else none
    | none => none
  | _ => none

def newVar (σ : Heap) (cells : List Value) : Value × Heap := (.pointer (some ⟨σ.length, 0, none⟩), σ ++ [⟨cells, 0, true⟩])
def newRow (σ : Heap) (esz : Nat) (cells : List Value) (len : Nat) : Value × Heap := (.slice (some ⟨σ.length, 0, none⟩) len len, σ ++ [⟨cells, esz, true⟩])

def aAlloc (σ : Heap) (zero : List Value) : Option (Value × Heap) := if zero.all constOk then some (newVar σ zero) else none

def aBox (σ : Heap) (v : Value) : Option (Value × Heap) :=
  if v.cells.toList.all cellOk then some (newVar σ v.cells.toList) else none

/-- Lay parts into cells. -/
def fillS (cells : List Value) : List (Nat × Nat × Value) → Option (List Value)
  | [] => some cells
  | (off, size, v) :: rest =>
    if Nat.beq v.cells.toList.length size && decide (off + size ≤ cells.length) && v.cells.toList.all cellOk then fillS (splice cells off v.cells.toList) rest else none

def aBuild (zero : List Value) (parts : List (Nat × Nat × Value)) : Option Value :=
  if zero.all constOk then (fillS zero parts).map fun cs => .agg cs.toArray else none

def aBuildSlice (σ : Heap) (esz len : Nat) (zero : List Value) (parts : List (Nat × Nat × Value)) : Option (Value × Heap) :=
  if zero.all constOk && Nat.beq zero.length (len * esz) && !(Nat.beq esz 0) then (fillS zero parts).map fun cs => newRow σ esz cs len else none

def aNilCheck (x : Value) : Option Value :=
  match x with
  | .pointer (some a) => some (.pointer (some a))
  | .func (.func f) a b => some (.func (.func f) a b)
  | _ => none

def fbin (op : BinOp) (k : FloatKind) (x y : Nat) : Nat := (floatBits op k x y).getD (nanOf k)

def fcmp (op : BinOp) (k : FloatKind) (x y : Nat) : Option Bool :=
  let c := k.format.order x y
  match op with
  | .eql => some (c == some .eq)
  | .neq => some (c != some .eq)
  | .lss => some (c == some .lt)
  | .leq => some (c == some .lt || c == some .eq)
  | .gtr => some (c == some .gt)
  | .geq => some (c == some .gt || c == some .eq)
  | _ => none

def iArith (op : BinOp) (k : IntKind) (x y : Int) : Option Value :=
  match op with
  | .add => some (.int k (k.wrap (x + y)))
  | .sub => some (.int k (k.wrap (x - y)))
  | .mul => some (.int k (k.wrap (x * y)))
  | .quo => if y = 0 then none else some (.int k (k.wrap (x.tdiv y)))
  | .rem => if y = 0 then none else some (.int k (x.tmod y))
  | .and => some (.int k (k.wrap (BitVec.ofInt k.bits x &&& BitVec.ofInt k.bits y).toNat))
  | .or => some (.int k (k.wrap (BitVec.ofInt k.bits x ||| BitVec.ofInt k.bits y).toNat))
  | .xor => some (.int k (k.wrap (BitVec.ofInt k.bits x ^^^ BitVec.ofInt k.bits y).toNat))
  | .andNot => some (.int k (k.wrap (BitVec.ofInt k.bits x &&& ~~~BitVec.ofInt k.bits y).toNat))
  | .eql => some (.bool (x == y))
  | .neq => some (.bool (x != y))
  | .lss => some (.bool (decide (x < y)))
  | .leq => some (.bool (decide (x ≤ y)))
  | .gtr => some (.bool (decide (x > y)))
  | .geq => some (.bool (decide (x ≥ y)))
  | _ => none

def fArith (op : BinOp) (k : FloatKind) (x y : Nat) : Option Value :=
  match op with
  | .add | .sub | .mul | .quo => some (.float k (fbin op k x y))
  | _ => (fcmp op k x y).map Value.bool

def maxI : Nat := 9223372036854775807

def sArith (op : BinOp) (x y : ByteArray) : Option Value :=
  match op with
  | .add => if x.size + y.size ≤ maxI then some (.string (x ++ y)) else none
  | .eql => some (.bool (x.toList == y.toList))
  | .neq => some (.bool (!(x.toList == y.toList)))
  | .lss => some (.bool (Op.bytesLess x.toList y.toList))
  | .leq => some (.bool (Op.bytesLess x.toList y.toList || x.toList == y.toList))
  | .gtr => some (.bool (!(Op.bytesLess x.toList y.toList || x.toList == y.toList)))
  | .geq => some (.bool (!(Op.bytesLess x.toList y.toList)))
  | _ => none

def aEql (ek : EqK) (x y : Value) : Option Bool :=
  match ek, x, y with
  | .bool, .bool a, .bool b => some (a == b)
  | .slice, .slice none _ _, .slice b _ _ => some b.isNone
  | .slice, .slice _ _ _, .slice none _ _ => some false
  | .iface, .nilIface, .nilIface => some true
  | .iface, .nilIface, .iface _ _ => some false
  | .iface, .iface _ _, .nilIface => some false
  | .pointer, .pointer none, .pointer b => some b.isNone
  | .pointer, .pointer (some _), .pointer none => some false
  | _, _, _ => none

def aBin (op : BinOp) (ek : EqK) (x y : Value) : Option Value :=
  match op, x, y with
  | .shl, .int k a, .int _ b => if b < 0 then none else some (.int k (k.wrap (a * 2 ^ (min b.toNat k.bits))))
  | .shr, .int k a, .int _ b => if b < 0 then none else some (.int k (a.fdiv (2 ^ (min b.toNat k.bits))))
  | op, .int k a, .int k' b => if k = k' then iArith op k a b else none
  | op, .float k a, .float k' b => if k = k' then fArith op k a b else none
  | op, .string a, .string b => sArith op a b
  | .eql, x, y => (aEql ek x y).map Value.bool
  | .neq, x, y => (aEql ek x y).map fun b => Value.bool (!b)
  | _, _, _ => none

def aUn (op : UnOp) (x : Value) : Option Value :=
  match op, x with
  | .not, .bool b => some (.bool (!b))
  | .neg, .int k n => some (.int k (k.wrap (0 - n)))
  | .neg, .float k b => some (.float k (Op.negFloat k b))
  | .xor, .int k n => some (.int k (k.wrap (BitVec.ofInt k.bits (if k.signed then -1 else k.max) ^^^ BitVec.ofInt k.bits n).toNat))
  | _, _ => none

def f2f (s : FloatKind) (b : Nat) (k : FloatKind) : Option Nat :=
  if isNaN s b then some (if s = k then b else nanOf k) else floatToFloatBits s b k

/-- Of the bytes of a row that was made of them: their text. -/
def bytesOfCells : List Value → Option (List UInt8)
  | [] => some []
  | .int .u8 n :: rest => (bytesOfCells rest).map fun l => UInt8.ofNat n.toNat :: l
  | _ => none

/-- A slice that still tells its row whole, and what it has of it. -/
def rowAt (σ : Heap) (esz : Nat) (a : Addr) (cap : Nat) : Option AObj :=
  match σ[a.block]? with
  | some obj => if Nat.beq obj.esz esz && Nat.beq obj.cells.length (a.off + cap * esz) && !(Nat.beq esz 0) then some obj else none
  | none => none

def sliceCells (σ : Heap) (esz : Nat) (v : Value) (n : Nat) : Option (List Value) :=
  match v with
  | .slice none _ _ => if n = 0 then some [] else none
  | .slice (some a) len cap =>
    match rowAt σ esz a cap with
    | some obj => if n ≤ len ∧ n ≤ cap then some ((obj.cells.drop a.off).take (n * esz)) else none
    | none => none
  | _ => none

def aLen (str : Bool) (x : Value) : Option Value :=
  match str, x with
  | true, .string s => some (.int .i64 s.size)
  | false, .slice _ n _ => some (.int .i64 n)
  | _, _ => none

def aConv (σ : Heap) (c : ConvK) (x : Value) : Option (Value × Heap) :=
  match c, x with
  | .toInt k, .int _ n => some (.int k (k.wrap n), σ)
  | .toFloat k, .int _ n => some (.float k (k.nearest n), σ)
  | .toInt k, .float s b => (floatToIntVal s b k).map fun n => (.int k n, σ)
  | .toFloat k, .float s b => (f2f s b k).map fun r => (.float k r, σ)
  | .same, .string s => some (.string s, σ)
  | .toBytes, .string s => if s.size ≤ 2 ^ 46 then some (newRow σ 1 (s.data.toList.map fun b => .int .u8 (b.toNat : Int)) s.size) else none
  | .mark, .slice (some a) len cap =>
    match rowAt σ 1 a cap with
    | some obj => if obj.rw = true ∧ a.off = 0 then some (.slice (some a) len cap, σ) else none
    | none => none
  | .toStr, .slice a len cap => ((sliceCells σ 1 (.slice a len cap) len).bind bytesOfCells).map fun l => (.string ⟨l.toArray⟩, σ)
  | _, _ => none

def aMakeSlice (σ : Heap) (esz bytes : Nat) (zero : List Value) (l c : Value) : Option (Value × Heap) :=
  match l, c with
  | .int _ n, .int _ m =>
    if 0 ≤ n ∧ n = m ∧ n * bytes ≤ 2 ^ 46 ∧ n ≤ maxI ∧ 1 ≤ esz ∧ zero.length = esz ∧ zero.all constOk then
      some (newRow σ esz (List.replicate n.toNat zero).flatten n.toNat)
    else none
  | _, _ => none

def idx (v : Option Value) (d : Nat) : Option Int :=
  match v with
  | none => some d
  | some (.int _ i) => some i
  | some _ => none

def aSliceStr (x : Value) (lo hi : Option Value) : Option Value :=
  match x with
  | .string s =>
    match idx lo 0, idx hi s.size with
    | some l, some h => if 0 ≤ l ∧ l ≤ h ∧ h ≤ s.size then some (.string (s.extract l.toNat h.toNat)) else none
    | _, _ => none
  | _ => none

def aSliceSl (σ : Heap) (esz : Nat) (x : Value) (lo hi : Option Value) : Option Value :=
  match x with
  | .slice none len cap =>
    match idx lo 0, idx hi len with
    | some l, some h => if 0 ≤ l ∧ l ≤ h ∧ h ≤ cap then some (.slice none (h - l).toNat (cap - l.toNat)) else none
    | _, _ => none
  | .slice (some a) len cap =>
    match rowAt σ esz a cap, idx lo 0, idx hi len with
    | some _, some l, some h =>
      if 0 ≤ l ∧ l ≤ h ∧ h ≤ cap then
        some (.slice (some ⟨a.block, a.off + l.toNat * esz, none⟩) (h - l).toNat (cap - l.toNat))
      else none
    | _, _, _ => none
  | _ => none

def aFieldAddr (off : Nat) (x : Value) : Option Value :=
  match x with
  | .pointer (some a) => some (.pointer (some ⟨a.block, a.off + off, a.spot⟩))
  | _ => none

def aField1 (off : Nat) (x : Value) : Option Value :=
  match x with
  | .agg cs => cs.toList[off]?
  | _ => none

def aFieldN (off n : Nat) (x : Value) : Option Value :=
  match x with
  | .agg cs => if off + n ≤ cs.toList.length then some (.agg ((cs.toList.drop off).take n).toArray) else none
  | _ => none

def aIndexAddrS (σ : Heap) (esz : Nat) (x i : Value) : Option Value :=
  match x, i with
  | .slice (some a) len cap, .int _ j =>
    match rowAt σ esz a cap with
    | some _ => if 0 ≤ j ∧ j < len ∧ len ≤ cap then some (.pointer (some ⟨a.block, a.off + j.toNat * esz, some (a.off + cap * esz)⟩)) else none
    | none => none
  | _, _ => none

def aIndexAddrA (len esz : Nat) (x i : Value) : Option Value :=
  match x, i with
  | .pointer (some a), .int _ j => if 0 ≤ j ∧ j < len then some (.pointer (some ⟨a.block, a.off + j.toNat * esz, a.spot⟩)) else none
  | _, _ => none

def aIndexStr (x i : Value) : Option Value :=
  match x, i with
  | .string s, .int _ j => if 0 ≤ j then (s.data.toList[j.toNat]?).map fun b => .int .u8 (b.toNat : Int) else none
  | _, _ => none

def aIndex1 (len : Nat) (x i : Value) : Option Value :=
  match x, i with
  | .agg cs, .int _ j => if 0 ≤ j ∧ j < len then cs.toList[j.toNat]? else none
  | _, _ => none

def aIndexN (len esz : Nat) (x i : Value) : Option Value :=
  match x, i with
  | .agg cs, .int _ j => if 0 ≤ j ∧ j < len ∧ len * esz ≤ cs.toList.length then some (.agg ((cs.toList.drop (j.toNat * esz)).take esz).toArray) else none
  | _, _ => none

def aExtract (x : Value) (i : Nat) : Option Value :=
  match x with
  | .tuple vs => vs.toList[i]?
  | _ => none

/-- What is appended: cells and how many elements. -/
def appCells (σ : Heap) (esz : Nat) (x : Value) : Option (List Value × Nat) :=
  match x with
  | .slice a len cap => (sliceCells σ esz (.slice a len cap) len).map fun l => (l, len)
  | .string s => if esz = 1 then some (s.data.toList.map fun b => Value.int .u8 (b.toNat : Int), s.size) else none
  | _ => none

def aAppend (σ : Heap) (esz bytes : Nat) (s x : Value) : Option (Value × Heap) :=
  match s, appCells σ esz x with
  | .slice none n c, some (new, k) =>
    if n = 0 ∧ c = 0 ∧ 1 ≤ esz ∧ k * bytes ≤ 2 ^ 44 ∧ k ≤ 2 ^ 44 ∧ new.all cellOk then
      if k = 0 then some (.slice none 0 0, σ) else some (newRow σ esz new k)
    else none
  | .slice (some a) len cap, some (new, k) =>
    match rowAt σ esz a cap with
    | some obj =>
      if obj.rw = true ∧ a.off = 0 ∧ len = cap ∧ (len + k) * bytes ≤ 2 ^ 44 ∧ len + k ≤ 2 ^ 44 ∧ new.all cellOk then
        some (.slice (some ⟨a.block, 0, none⟩) (len + k) (len + k), σ.set a.block { obj with cells := obj.cells ++ new })
      else none
    | none => none
  | _, _ => none

def aCopy (σ : Heap) (esz : Nat) (d s : Value) : Option (Value × Heap) :=
  match d with
  | .slice (some a) len cap =>
    match s with
    | .slice b n c =>
      match sliceCells σ esz (.slice b n c) (min n len) with
      | some new =>
        match rowAt σ esz a cap with
        | some obj =>
          if obj.rw = true ∧ len ≤ cap ∧ new.all cellOk then
            some (.int .i64 (min n len : Nat), σ.set a.block { obj with cells := splice obj.cells a.off new })
          else none
        | none => none
      | none => none
    | _ => none
  | _ => none

def aMinMaxGo (mx : Bool) (k : IntKind) (a : Int) : List Value → Option Value
  | [] => some (.int k a)
  | .int _ b :: rest => aMinMaxGo mx k (if mx then (if b > a then b else a) else (if b < a then b else a)) rest
  | _ => none

def aMinMax (mx : Bool) : List Value → Option Value
  | .int k a :: rest => aMinMaxGo mx k a rest
  | _ => none

/-! ### Contracts and the run -/

structure Contract where
  fn : List Value → Heap → Option (Value × Heap)
  quiet : Bool

abbrev Ctab := FuncId → Option Contract

def aCall (C : Ctab) (σ : Heap) (f : Value) (args : List Value) : Option (Value × Heap) :=
  match f with
  | .func (.func g) first captured =>
    match C g with
    | some c => c.fn (first.toList ++ args ++ captured.toList) σ
    | none => none
  | _ => none

def evOp (C : Ctab) (F : Frame) (σ : Heap) : SOp → Option (Value × Heap)
  | .mov x => some (eval F x, σ)
  | .pick c a b => (aPick (eval F c) (eval F a) (eval F b)).map (·, σ)
  | .alloc zero => aAlloc σ zero
  | .box x => aBox σ (eval F x)
  | .build zero parts => (aBuild zero (parts.map fun p => (p.1, p.2.1, eval F p.2.2))).map (·, σ)
  | .buildSlice esz len zero parts => aBuildSlice σ esz len zero (parts.map fun p => (p.1, p.2.1, eval F p.2.2))
  | .load1 x => (aLoad1 σ (eval F x)).map (·, σ)
  | .loadN n x => (aLoadN σ n (eval F x)).map (·, σ)
  | .store n a v => (aStore σ n (eval F a) (eval F v)).map (undef, ·)
  | .nilCheck x => (aNilCheck (eval F x)).map (·, σ)
  | .bin op ek x y => (aBin op ek (eval F x) (eval F y)).map (·, σ)
  | .un op x => (aUn op (eval F x)).map (·, σ)
  | .conv c x => aConv σ c (eval F x)
  | .makeFunc f first captured => some (.func (.func f) (first.map (eval F)).toArray (captured.map (eval F)).toArray, σ)
  | .makeSlice esz bytes zero l c => aMakeSlice σ esz bytes zero (eval F l) (eval F c)
  | .sliceStr x lo hi => (aSliceStr (eval F x) (lo.map (eval F)) (hi.map (eval F))).map (·, σ)
  | .sliceSl esz x lo hi => (aSliceSl σ esz (eval F x) (lo.map (eval F)) (hi.map (eval F))).map (·, σ)
  | .fieldAddr off x => (aFieldAddr off (eval F x)).map (·, σ)
  | .field1 off x => (aField1 off (eval F x)).map (·, σ)
  | .fieldN off n x => (aFieldN off n (eval F x)).map (·, σ)
  | .indexAddrS esz x i => (aIndexAddrS σ esz (eval F x) (eval F i)).map (·, σ)
  | .indexAddrA len esz x i => (aIndexAddrA len esz (eval F x) (eval F i)).map (·, σ)
  | .indexStr x i => (aIndexStr (eval F x) (eval F i)).map (·, σ)
  | .index1 len x i => (aIndex1 len (eval F x) (eval F i)).map (·, σ)
  | .indexN len esz x i => (aIndexN len esz (eval F x) (eval F i)).map (·, σ)
  | .extract x i => (aExtract (eval F x) i).map (·, σ)
  | .len b x => (aLen b (eval F x)).map (·, σ)
  | .append esz bytes s x => aAppend σ esz bytes (eval F s) (eval F x)
  | .copy esz d s => aCopy σ esz (eval F d) (eval F s)
  | .minmax mx xs => (aMinMax mx (xs.map (eval F))).map (·, σ)
  | .call f args => aCall C σ (eval F f) (args.map (eval F))

/-- Whether an operation with a guard is to be done. -/
def guardOf (F : Frame) : Option (Nat × Bool) → Option Bool
  | none => some true
  | some (t, want) =>
    match fget F t with
    | .bool b => some (b == want)
    | .tuple _ => some false
    | _ => none

def evOps (C : Ctab) : List SOper → Frame → Heap → Option (Frame × Heap)
  | [], F, σ => some (F, σ)
  | o :: rest, F, σ =>
    match guardOf F o.guard with
    | some g =>
      bif g then (evOp C F σ o.op).bind fun r => evOps C rest (fput F o.dst r.1) r.2
      else evOps C rest (fput F o.dst undef) σ
    | none => none

inductive Out where
  | normal | exit (id : Nat) | ret

abbrev Res := Option (Out × Frame × Heap)

/-! ### A region whose order is drawn -/

def SOp.operands : SOp → List Operand
  | .mov x | .box x | .load1 x | .loadN _ x | .nilCheck x | .un _ x | .conv _ x | .fieldAddr _ x | .field1 _ x | .fieldN _ _ x | .extract x _ | .len _ x => [x]
  | .pick c a b => [c, a, b]
  | .alloc _ => []
  | .build _ ps | .buildSlice _ _ _ ps => ps.map (·.2.2)
  | .store _ a b | .bin _ _ a b | .makeSlice _ _ _ a b | .indexAddrS _ a b | .indexAddrA _ _ a b | .indexStr a b | .index1 _ a b | .indexN _ _ a b | .append _ _ a b | .copy _ a b => [a, b]
  | .makeFunc _ a b => a ++ b
  | .sliceStr x l h | .sliceSl _ x l h => [x] ++ l.toList ++ h.toList
  | .minmax _ xs => xs
  | .call f xs => f :: xs

def tmpsOf : List Operand → List Nat
  | [] => []
  | .tmp t :: l => t :: tmpsOf l
  | _ :: l => tmpsOf l

/-- The slots that an operation looks at. -/
def SOper.looks (o : SOper) : List Nat :=
  match o.guard with
  | some (t, _) => t :: tmpsOf o.op.operands
  | none => tmpsOf o.op.operands

def SOp.readsMem : SOp → Bool
  | .load1 _ | .loadN _ _ | .conv _ _ | .indexAddrS _ _ _ | .sliceSl _ _ _ _ => true
  | _ => false

def SOp.heavy : SOp → Bool
  | .alloc _ | .box _ | .buildSlice _ _ _ _ | .makeSlice _ _ _ _ _ |   .store _ _ _ | .conv .toBytes _ | .conv .mark _ | .append _ _ _ _ | .copy _ _ _ | .call _ _ => true
  | _ => false

def SOp.writes (C : Ctab) : SOp → Bool
  | .store _ _ _ | .append _ _ _ _ | .copy _ _ _ => true
  | .call (.func g) _ => match C g with | some c => !c.quiet | none => true
  | .call _ _ => true
  | _ => false

def hasDst (o : SOper) (l : List Nat) : Bool :=
  match o.dst with
  | some d => memb l d
  | none => false

def sameDst (a b : SOper) : Bool :=
  match a.dst, b.dst with
  | some d, some e => Nat.beq d e
  | _, _ => false

/-- Two operations that must not change places. -/
def clash (C : Ctab) (a b : SOper) : Bool :=
  (a.op.heavy && b.op.heavy) || (a.op.writes C && b.op.readsMem) || (a.op.readsMem && b.op.writes C) ||
  hasDst a b.looks || hasDst b a.looks || sameDst a b

/-- Against those ahead (their places count down from n). -/
def okAgainst (C : Ctab) (o : SOper) : Nat → List SOper → Bool
  | _, [] => true
  | n, x :: rest => (!clash C x o || o.anc.testBit n) && okAgainst C o (n + 1) rest

def drawOkGo (C : Ctab) : List SOper → List SOper → Bool
  | _, [] => true
  | done, o :: rest => okAgainst C o 0 done && drawOkGo C (done ++ [o]) rest

def drawOk (C : Ctab) (ops : List SOper) : Bool := drawOkGo C [] ops

def iter (body : Frame → Heap → Res) : Nat → Frame → Heap → Res
  | 0, _, _ => none
  | n + 1, F, σ =>
    match body F σ with
    | some (.normal, F', σ') => iter body n F' σ'
    | r => r

open Classical in
noncomputable def while_ (body : Frame → Heap → Res) (F : Frame) (σ : Heap) : Res :=
  if h : ∃ n r, iter body n F σ = some r then some (Classical.choose (Classical.choose_spec h)) else none

theorem iter_succ {body : Frame → Heap → Res} : ∀ {n : Nat} {F : Frame} {σ : Heap} {r}, iter body n F σ = some r → iter body (n + 1) F σ = some r
  | 0, _, _, _, h => by cases h
  | n + 1, F, σ, r, h => by
    rw [iter] at h ⊢
    split at h
    · exact iter_succ h
    · exact h

theorem iter_le {body : Frame → Heap → Res} {n m : Nat} {F : Frame} {σ : Heap} {r} (hnm : n ≤ m) (h : iter body n F σ = some r) : iter body m F σ = some r := by
  induction hnm with
  | refl => exact h
  | step _ ih => exact iter_succ ih

theorem while_of_iter {body : Frame → Heap → Res} {n : Nat} {F : Frame} {σ : Heap} {r} (h : iter body n F σ = some r) : while_ body F σ = some r := by
  have hex : ∃ n r, iter body n F σ = some r := ⟨n, r, h⟩
  unfold while_
  rw [dif_pos hex]
  have h2 := Classical.choose_spec (Classical.choose_spec hex)
  have a := iter_le (Nat.le_max_left n (Classical.choose hex)) h
  have b := iter_le (Nat.le_max_right n (Classical.choose hex)) h2
  rw [a] at b
  exact b.symm

theorem iter_of_while {body : Frame → Heap → Res} {F : Frame} {σ : Heap} {r} (h : while_ body F σ = some r) : ∃ n, iter body n F σ = some r := by
  unfold while_ at h
  split at h
  · rename_i hex
    exact ⟨_, (Classical.choose_spec (Classical.choose_spec hex)).trans h⟩
  · cases h

/-- One round more. -/
theorem while_eq (body : Frame → Heap → Res) (F : Frame) (σ : Heap) :
    while_ body F σ = match body F σ with | some (.normal, F', σ') => while_ body F' σ' | r => r := by
  cases hb : body F σ with
  | none =>
    simp only []
    cases hw : while_ body F σ with
    | none => rfl
    | some r =>
      obtain ⟨n, hn⟩ := iter_of_while hw
      cases n with
      | zero => cases hn
      | succ n => rw [iter, hb] at hn; cases hn
  | some r =>
    obtain ⟨o, F', σ'⟩ := r
    cases o with
    | normal =>
      simp only []
      cases hw : while_ body F' σ' with
      | none =>
        cases hw2 : while_ body F σ with
        | none => rfl
        | some r =>
          obtain ⟨n, hn⟩ := iter_of_while hw2
          cases n with
          | zero => cases hn
          | succ n =>
            rw [iter, hb] at hn
            have := while_of_iter (body := body) hn
            rw [hw] at this; cases this
      | some r =>
        obtain ⟨n, hn⟩ := iter_of_while hw
        exact while_of_iter (n := n + 1) (by rw [iter, hb]; exact hn)
    | exit id => exact while_of_iter (n := 1) (by rw [iter, hb])
    | ret => exact while_of_iter (n := 1) (by rw [iter, hb])

noncomputable def evCode (C : Ctab) : SCode → Frame → Heap → Res
  | .skip, F, σ => some (.normal, F, σ)
  | .region ops draw, F, σ => if (!draw || drawOk C ops) = true then (evOps C ops F σ).map fun r => (.normal, r.1, r.2) else none
  | .seq a b, F, σ => match evCode C a F σ with | some (.normal, F', σ') => evCode C b F' σ' | r => r
  | .cond c a b, F, σ => condOn (eval F c) (evCode C a F σ) (evCode C b F σ)
  | .block id a, F, σ => match evCode C a F σ with | some (.exit id', F', σ') => if id' = id then some (.normal, F', σ') else some (.exit id', F', σ') | r => r
  | .loop a, F, σ => while_ (evCode C a) F σ
  | .exit id, F, σ => some (.exit id, F, σ)
  | .ret, F, σ => some (.ret, F, σ)
  | .kp K a, F, σ => evCode C a (fkeep K F) σ

/-- The results of a function: a slot, or the cells of a variable. -/
inductive SRes where
  | tmp (t : Nat)
  | cell1 (t : Nat)
  | cellN (t n : Nat)

def resVal (F : Frame) (σ : Heap) : SRes → Option Value
  | .tmp t => some (fget F t)
  | .cell1 t => aLoad1 σ (fget F t)
  | .cellN t n => aLoadN σ n (fget F t)

def resVals (F : Frame) (σ : Heap) : List SRes → Option (List Value)
  | [] => some []
  | r :: rest => (resVal F σ r).bind fun v => (resVals F σ rest).map fun vs => v :: vs

def resOf (F : Frame) (σ : Heap) (rs : List SRes) : Option Value :=
  match rs with
  | [r] => resVal F σ r
  | rs => (resVals F σ rs).map fun vs => .tuple vs.toArray

structure SFunc where
  ntmps : Nat
  results : List SRes
  body : SCode

def argFrame : Nat → List Value → Frame
  | _, [] => []
  | n, v :: vs => (n, v) :: argFrame (n + 1) vs

/-- The whole of a call, the rubbish still there. -/
noncomputable def evFn (C : Ctab) (f : SFunc) (args : List Value) (σ : Heap) : Option (Value × Heap) :=
  match evCode C f.body (argFrame 0 args) σ with
  | some (.normal, F, σ') => (resOf F σ' f.results).map (·, σ')
  | some (.ret, F, σ') => (resOf F σ' f.results).map (·, σ')
  | _ => none

end Go.Abs
