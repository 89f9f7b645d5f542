/- The abstract machine: single steps as rewriting rules. No condition beyond those written. -/
import Derived.Test.YtnibmlgdnhiglaaWvD1
namespace Go.Abs

theorem eval_tmp (F : Frame) (t : Nat) : eval F (.tmp t) = fget F t := rfl
theorem eval_bool (F : Frame) (b : Bool) : eval F (.const (.bool b)) = .bool b := rfl
theorem eval_int (F : Frame) (k : IntKind) (n : Int) : eval F (.const (.int k n)) = .int k n := rfl
theorem eval_float (F : Frame) (k : FloatKind) (n : Nat) : eval F (.const (.float k n)) = .float k n := rfl
theorem eval_string (F : Frame) (s : ByteArray) : eval F (.const (.string s)) = .string s := rfl
theorem eval_nilp (F : Frame) : eval F (.const (.pointer none)) = .pointer none := rfl
theorem eval_nils (F : Frame) : eval F (.const (.slice none 0 0)) = .slice none 0 0 := rfl
theorem eval_nilf (F : Frame) : eval F (.const .nilFunc) = .nilFunc := rfl
theorem eval_nili (F : Frame) : eval F (.const .nilIface) = .nilIface := rfl
theorem eval_func (F : Frame) (f : FuncId) : eval F (.func f) = .func (.func f) #[] #[] := rfl

theorem fset_eq (F : Frame) (t : Nat) (v : Value) : fset F t v = (t, v) :: F := rfl
theorem fkeep_nil (F : Frame) : fkeep [] F = [] := rfl
theorem memb_nil (t : Nat) : memb [] t = false := rfl
theorem fput_some (F : Frame) (d : Nat) (v : Value) : fput F (some d) v = fset F d v := rfl
theorem fput_none (F : Frame) (v : Value) : fput F none v = F := rfl

/-! Comparisons of floats. -/
def flt (k : FloatKind) (a b : Nat) : Bool := k.format.order a b == some .lt
def fle (k : FloatKind) (a b : Nat) : Bool := k.format.order a b == some .lt || k.format.order a b == some .eq
def fgt (k : FloatKind) (a b : Nat) : Bool := k.format.order a b == some .gt
def fge (k : FloatKind) (a b : Nat) : Bool := k.format.order a b == some .gt || k.format.order a b == some .eq
def feq (k : FloatKind) (a b : Nat) : Bool := k.format.order a b == some .eq

section
variable (ek : EqK) (k : FloatKind) (a b : Nat)
theorem bin_flt : aBin .lss ek (.float k a) (.float k b) = some (.bool (flt k a b)) := by simp [aBin, fArith, fcmp, flt]
theorem bin_fle : aBin .leq ek (.float k a) (.float k b) = some (.bool (fle k a b)) := by simp [aBin, fArith, fcmp, fle]
theorem bin_fgt : aBin .gtr ek (.float k a) (.float k b) = some (.bool (fgt k a b)) := by simp [aBin, fArith, fcmp, fgt]
theorem bin_fge : aBin .geq ek (.float k a) (.float k b) = some (.bool (fge k a b)) := by simp [aBin, fArith, fcmp, fge]
theorem bin_feq : aBin .eql ek (.float k a) (.float k b) = some (.bool (feq k a b)) := by simp [aBin, fArith, fcmp, feq]
theorem bin_fne : aBin .neq ek (.float k a) (.float k b) = some (.bool (!(feq k a b))) := by simp [aBin, fArith, fcmp, feq]; rfl
theorem bin_fadd : aBin .add ek (.float k a) (.float k b) = some (.float k (fbin .add k a b)) := by simp [aBin, fArith]
theorem bin_fsub : aBin .sub ek (.float k a) (.float k b) = some (.float k (fbin .sub k a b)) := by simp [aBin, fArith]
theorem bin_fmul : aBin .mul ek (.float k a) (.float k b) = some (.float k (fbin .mul k a b)) := by simp [aBin, fArith]
theorem bin_fquo : aBin .quo ek (.float k a) (.float k b) = some (.float k (fbin .quo k a b)) := by simp [aBin, fArith]
end
section
variable (ek : EqK) (k : IntKind) (a b : Int)
theorem bin_lss : aBin .lss ek (.int k a) (.int k b) = some (.bool (decide (a < b))) := by simp [aBin, iArith]
theorem bin_leq : aBin .leq ek (.int k a) (.int k b) = some (.bool (decide (a ≤ b))) := by simp [aBin, iArith]
theorem bin_gtr : aBin .gtr ek (.int k a) (.int k b) = some (.bool (decide (b < a))) := by simp [aBin, iArith]
theorem bin_geq : aBin .geq ek (.int k a) (.int k b) = some (.bool (decide (b ≤ a))) := by simp [aBin, iArith]
theorem bin_eql : aBin .eql ek (.int k a) (.int k b) = some (.bool (decide (a = b))) := by simp [aBin, iArith]; rfl
theorem bin_neq : aBin .neq ek (.int k a) (.int k b) = some (.bool (!(decide (a = b)))) := by simp [aBin, iArith]; rfl
theorem bin_add : aBin .add ek (.int k a) (.int k b) = some (.int k (k.wrap (a + b))) := by simp [aBin, iArith]
theorem bin_sub : aBin .sub ek (.int k a) (.int k b) = some (.int k (k.wrap (a - b))) := by simp [aBin, iArith]
theorem bin_mul : aBin .mul ek (.int k a) (.int k b) = some (.int k (k.wrap (a * b))) := by simp [aBin, iArith]
theorem bin_quo (h : b ≠ 0) : aBin .quo ek (.int k a) (.int k b) = some (.int k (k.wrap (a.tdiv b))) := by simp [aBin, iArith, h]
theorem bin_rem (h : b ≠ 0) : aBin .rem ek (.int k a) (.int k b) = some (.int k (a.tmod b)) := by simp [aBin, iArith, h]
theorem bin_and : aBin .and ek (.int k a) (.int k b) = some (.int k (k.wrap (BitVec.ofInt k.bits a &&& BitVec.ofInt k.bits b).toNat)) := by simp [aBin, iArith]
theorem bin_or : aBin .or ek (.int k a) (.int k b) = some (.int k (k.wrap (BitVec.ofInt k.bits a ||| BitVec.ofInt k.bits b).toNat)) := by simp [aBin, iArith]
theorem bin_xor : aBin .xor ek (.int k a) (.int k b) = some (.int k (k.wrap (BitVec.ofInt k.bits a ^^^ BitVec.ofInt k.bits b).toNat)) := by simp [aBin, iArith]
theorem bin_shl (k' : IntKind) (h : 0 ≤ b) : aBin .shl ek (.int k a) (.int k' b) = some (.int k (k.wrap (a * 2 ^ (min b.toNat k.bits)))) := by
  have : ¬ b < 0 := by omega
  simp [aBin, this]
theorem bin_shr (k' : IntKind) (h : 0 ≤ b) : aBin .shr ek (.int k a) (.int k' b) = some (.int k (a.fdiv (2 ^ (min b.toNat k.bits)))) := by
  have : ¬ b < 0 := by omega
  simp [aBin, this]
end
theorem bin_beq (a b : Bool) : aBin .eql .bool (.bool a) (.bool b) = some (.bool (a == b)) := by cases a <;> cases b <;> rfl
theorem bin_bne (a b : Bool) : aBin .neq .bool (.bool a) (.bool b) = some (.bool (!(a == b))) := by cases a <;> cases b <;> rfl
theorem bin_seq (ek : EqK) (a b : ByteArray) : aBin .eql ek (.string a) (.string b) = some (.bool (a.toList == b.toList)) := by simp [aBin, sArith]
theorem bin_sne (ek : EqK) (a b : ByteArray) : aBin .neq ek (.string a) (.string b) = some (.bool (!(a.toList == b.toList))) := by simp [aBin, sArith]
theorem un_not (b : Bool) : aUn .not (.bool b) = some (.bool (!b)) := rfl
theorem un_neg (k : IntKind) (n : Int) : aUn .neg (.int k n) = some (.int k (k.wrap (0 - n))) := rfl
theorem un_fneg (k : FloatKind) (n : Nat) : aUn .neg (.float k n) = some (.float k (Op.negFloat k n)) := rfl
theorem pick_ (t : Bool) (a b : Value) : aPick (.bool t) a b = some (bif t then a else b) := rfl

theorem len_str (s : ByteArray) : aLen true (.string s) = some (.int .i64 s.size) := rfl
theorem len_sl (a : Option Addr) (n c : Nat) : aLen false (.slice a n c) = some (.int .i64 n) := rfl

theorem map_some {α β : Type} (f : α → β) (x : α) : Option.map f (some x) = some (f x) := rfl

/-- A 64-bit number within its bounds. -/
theorem wrap64 {x : Int} (h1 : -9223372036854775808 ≤ x) (h2 : x < 9223372036854775808) : IntKind.i64.wrap x = x := by
  simp only [IntKind.wrap]
  simp [IntKind.bits, IntKind.signed]
  omega

end Go.Abs
