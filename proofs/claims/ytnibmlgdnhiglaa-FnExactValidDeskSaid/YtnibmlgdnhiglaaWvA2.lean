/- The abstract machine: how a function's code is resolved against the program's types. No condition. -/
import Derived.Test.YtnibmlgdnhiglaaWvA1
namespace Go.Abs

def zeroOf (P : Program) (t : TypeId) : Option (List Value) :=
  match P.info? t with
  | some i => i.zero.map fun v => v.cells.toList
  | none => none

def sizeOfT (P : Program) (t : TypeId) : Option Nat := (P.info? t).map (·.size)
def bytesOfT (P : Program) (t : TypeId) : Option Nat := (P.info? t).map (·.bytes)

/-- none: no such type; some b: whether it is a struct or an array. -/
def aggT (P : Program) (t : TypeId) : Option Bool :=
  match P.underlying t with
  | some (.struct _) | some (.array _ _) => some true
  | some _ => some false
  | none => none

def eqkOf (P : Program) (t : TypeId) : EqK :=
  match P.underlying t with
  | some .bool => .bool
  | some (.slice _) => .slice
  | some (.interface _) => .iface
  | some (.pointer _) => .pointer
  | some (.func _ _ _) => .func
  | _ => .other

def isConst : Operand → Bool
  | .const _ => true
  | _ => false

def eqk2 (P : Program) (t : TypeId) (x y : Operand) : EqK :=
  match eqkOf P t with
  | .iface => if isConst x || isConst y then .iface else .other
  | k => k

def convOf (P : Program) (s d : TypeId) : Option ConvK :=
  match P.underlying s, P.underlying d with
  | some (.int _), some (.int k) => some (.toInt k)
  | some (.float _), some (.int k) => some (.toInt k)
  | some (.int _), some (.float k) => some (.toFloat k)
  | some (.float _), some (.float k) => some (.toFloat k)
  | some .string, some .string => some .same
  | some .string, some (.slice e) => match P.underlying e with | some (.int .u8) => some .toBytes | _ => none
  | some (.slice _), some (.slice e) => if s = d then (match P.underlying e with | some (.int .u8) => some .mark | _ => none) else none
  | some (.slice e), some .string => match P.underlying e with | some (.int .u8) => some .toStr | _ => none
  | _, _ => none

def zerosOf (z : List Value) (n : Nat) : List Value := (List.range n).map fun i => z.getD (i % z.length) dead

/-- The places of a composite's parts. -/
def placeOf (P : Program) (t : TypeId) (i : Nat) : Option (Nat × Nat) :=
  match P.underlying t with
  | some (.struct fs) => match fs[i]? with | some f => (sizeOfT P f.type).map fun s => (f.offset, s) | none => none
  | some (.array _ e) => (sizeOfT P e).map fun s => (i * s, s)
  | _ => none

def partsOf (place : Nat → Option (Nat × Nat)) : List (Nat × Operand) → Option (List (Nat × Nat × Operand))
  | [] => some []
  | (i, x) :: rest => match place i, partsOf place rest with | some (o, s), some l => some ((o, s, x) :: l) | _, _ => none

def sliceElem (P : Program) (t : TypeId) : Option TypeId :=
  match P.underlying t with
  | some (.slice e) => some e
  | _ => none

def structSized (P : Program) (fs : Array Field) : Bool := fs.toList.all fun f => (sizeOfT P f.type).isSome

def rBuiltin (P : Program) (b : Builtin) (args : List Operand) (ts : List TypeId) : Option SOp :=
  match b, args, ts with
  | .len, [x], t :: _ => match P.underlying t with | some .string => some (.len true x) | some (.slice _) => some (.len false x) | _ => none
  | .append, [s, x], t :: u :: _ =>
    match P.underlying t, P.underlying u with
    | some (.slice e), some ud =>
      (match ud with
       | .int _ => none
       | _ => match sizeOfT P e, bytesOfT P e, zeroOf P e with | some z, some b, some zs => if zs.length = z ∧ b ≤ 2 ^ 20 then some (.append z b s x) else none | _, _, _ => none)
    | _, _ => none
  | .copy, [d, s], t :: _ => match P.underlying t with | some (.slice e) => (sizeOfT P e).map fun z => .copy z d s | _ => none
  | .min, xs, _ => some (.minmax false xs)
  | .max, xs, _ => some (.minmax true xs)
  | _, _, _ => none

def rOp (P : Program) (o : Op) : Option SOp :=
  match o with
  | .move x | .assign x => some (.mov x)
  | .pick c a b => some (.pick c a b)
  | .alloc t => (zeroOf P t).map .alloc
  | .box _ x => some (.box x)
  | .build t ps =>
    match P.underlying t with
    | some (.struct fs) => if structSized P fs then (match zeroOf P t, partsOf (placeOf P t) ps.toList with | some z, some l => some (.build z l) | _, _ => none) else none
    | some (.array _ e) => match sizeOfT P e, zeroOf P t, partsOf (placeOf P t) ps.toList with | some _, some z, some l => some (.build z l) | _, _, _ => none
    | _ => none
  | .buildSlice t len ps =>
    match sliceElem P t with
    | some e =>
      match sizeOfT P e, zeroOf P e with
      | some s, some z =>
        if len * s ≤ 2 ^ 24 then (partsOf (fun i => some (i * s, s)) ps.toList).map fun l => .buildSlice s len (if len * s = 0 then [] else zerosOf z (len * s)) l else none
      | _, _ => none
    | none => none
  | .load t x => match aggT P t, sizeOfT P t with | some true, some n => some (.loadN n x) | some false, _ => some (.load1 x) | _, _ => none
  | .store t a v => (sizeOfT P t).map fun n => .store n a v
  | .nilCheck x => some (.nilCheck x)
  | .binOp op t x y _ => some (.bin op (eqk2 P t x y) x y)
  | .unOp op _ x => some (.un op x)
  | .convert s d x => (convOf P s d).map fun c => .conv c x
  | .makeFunc (.func f) a b => some (.makeFunc f a.toList b.toList)
  | .makeSlice t l c =>
    match sliceElem P t with
    | some e => match sizeOfT P e, bytesOfT P e, zeroOf P e with | some s, some b, some z => some (.makeSlice s b z l c) | _, _, _ => none
    | none => none
  | .slice t x lo hi none =>
    match P.underlying t with
    | some .string => some (.sliceStr x lo hi)
    | some (.slice e) => (sizeOfT P e).map fun s => .sliceSl s x lo hi
    | _ => none
  | .fieldAddr t x f =>
    match P.underlying t with
    | some (.struct fs) => match fs[f]? with | some fd => (match sizeOfT P fd.type with | some (_ + 1) => some (.fieldAddr fd.offset x) | _ => none) | none => none
    | _ => none
  | .field t x f =>
    match P.underlying t with
    | some (.struct fs) =>
      match fs[f]? with
      | some fd => (match aggT P fd.type, sizeOfT P fd.type with | some true, some n => some (.fieldN fd.offset n x) | some false, _ => some (.field1 fd.offset x) | _, _ => none)
      | none => none
    | _ => none
  | .indexAddr t x i =>
    match P.underlying t with
    | some (.slice e) => (sizeOfT P e).map fun s => .indexAddrS s x i
    | some (.array n e) => (sizeOfT P e).map fun s => .indexAddrA n s x i
    | _ => none
  | .index t x i =>
    match P.underlying t with
    | some .string => some (.indexStr x i)
    | some (.array n e) => (match aggT P e, sizeOfT P e with | some true, some s => some (.indexN n s x i) | some false, some 1 => some (.index1 n x i) | _, _ => none)
    | _ => none
  | .extract x i => some (.extract x i)
  | .call { callee := .builtin b, args, argTypes } => rBuiltin P b args.toList argTypes.toList
  | .call { callee := .value f, args, .. } => some (.call f args.toList)
  | _ => none

def ancOf (anc : List Nat) (es : List Edge) : Nat :=
  es.foldl (fun s e => if Region.binds .any e then s ||| 2 ^ e.on ||| anc.getD e.on 0 else s) 0

def rOps (P : Program) (all : Array Oper) : List Nat → List Oper → Option (List SOper)
  | _, [] => some []
  | anc, o :: rest =>
    let a := ancOf anc o.after.toList
    match rOp P o.op with
    | none => none
    | some s =>
      match o.guard with
      | none => (rOps P all (anc ++ [a]) rest).map fun l => ⟨o.dst, none, s, a⟩ :: l
      | some (j, want) =>
        match (all[j]?).bind (·.dst) with
        | some d => (rOps P all (anc ++ [a]) rest).map fun l => ⟨o.dst, some (d, want), s, a⟩ :: l
        | none => none

/-- Every edge that binds points back. -/
def backEdges : Nat → List Oper → Bool
  | _, [] => true
  | n, o :: rest => (o.after.toList.all fun e => !Region.binds .any e || decide (e.on < n)) && backEdges (n + 1) rest

def dstsOk (n : Nat) (ops : List Oper) : Bool := ops.all fun o => match o.dst with | some d => decide (d < n) | none => true

def rcode (P : Program) (n : Nat) : Code → Option SCode
  | .skip => some .skip
  | .region _ ops draw => if dstsOk n ops.toList && (!draw || backEdges 0 ops.toList) then (rOps P ops [] ops.toList).map fun l => .region l draw else none
  | .seq a b => match rcode P n a, rcode P n b with | some x, some y => some (.seq x y) | _, _ => none
  | .cond c a b => match rcode P n a, rcode P n b with | some x, some y => some (.cond c x y) | _, _ => none
  | .block id a => (rcode P n a).map (.block id)
  | .loop a => (rcode P n a).map .loop
  | .exit id => some (.exit id)
  | .ret => some .ret
  | _ => none

def rRes (P : Program) : List ResultVar → Option (List SRes)
  | [] => some []
  | .tmp t :: rest => (rRes P rest).map fun l => .tmp t :: l
  | .cell t ty :: rest =>
    match aggT P ty, sizeOfT P ty with
    | some true, some n => (rRes P rest).map fun l => .cellN t n :: l
    | some false, _ => (rRes P rest).map fun l => .cell1 t :: l
    | _, _ => none

def resolveFn (P : Program) (f : Func) : Option SFunc :=
  match f.body with
  | some c => match rcode P f.ntmps c, rRes P f.results.toList with | some b, some rs => some ⟨f.ntmps, rs, b⟩ | _, _ => none
  | none => none

def SFunc.strip (f : SFunc) : SFunc := { f with body := f.body.strip }

end Go.Abs
