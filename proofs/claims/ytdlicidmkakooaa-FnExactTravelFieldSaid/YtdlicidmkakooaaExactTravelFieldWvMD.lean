/- The abstract machine, a part: texts put together. Conditions: as at each theorem. -/
import Derived.Test.YtdlicidmkakooaaExactTravelFieldWvME
set_option linter.unusedSimpArgs false
set_option linter.unusedVariables false
/- The abstract machine: contracts of functions that have a body, and the calculus by which their laws are shown. Conditions: as at each theorem. -/
namespace Go.Abs

/-- The code runs to an end of which Q holds. -/
def Ev (C : Ctab) (code : SCode) (F : Frame) (σ : Heap) (Q : Out → Frame → Heap → Prop) : Prop := ∃ o F' σ', evCode C code F σ = some (o, F', σ') ∧ Q o F' σ'
def EvR (C : Ctab) (ops : List SOper) (F : Frame) (σ : Heap) (Q : Frame → Heap → Prop) : Prop := ∃ F' σ', evOps C ops F σ = some (F', σ') ∧ Q F' σ'
/-- A call returns what Q tells. -/
def Ret (c : Contract) (args : List Value) (σ : Heap) (Q : Value → Heap → Prop) : Prop := ∃ v σ', c.fn args σ = some (v, σ') ∧ Q v σ'

section
variable {C : Ctab} {F : Frame} {σ : Heap}

theorem Ev.skip {Q} (h : Q .normal F σ) : Ev C .skip F σ Q := ⟨_, _, _, rfl, h⟩
theorem Ev.exit {Q} {id : Nat} (h : Q (.exit id) F σ) : Ev C (.exit id) F σ Q := ⟨_, _, _, rfl, h⟩
theorem Ev.ret {Q} (h : Q .ret F σ) : Ev C .ret F σ Q := ⟨_, _, _, rfl, h⟩
theorem Ev.kp {Q} {K : List Nat} {a : SCode} {F' : Frame} (hF : fkeep K F = F') (h : Ev C a F' σ Q) : Ev C (.kp K a) F σ Q := by
  subst hF; exact h
theorem Ev.region {Q} {ops : List SOper} (h : EvR C ops F σ fun F' σ' => Q .normal F' σ') : Ev C (.region ops false) F σ Q := by
  obtain ⟨F', σ', h1, h2⟩ := h
  exact ⟨_, _, _, by simp [evCode, h1], h2⟩
theorem Ev.regionD {Q} {ops : List SOper} (hd : drawOk C ops = true) (h : EvR C ops F σ fun F' σ' => Q .normal F' σ') : Ev C (.region ops true) F σ Q := by
  obtain ⟨F', σ', h1, h2⟩ := h
  exact ⟨_, _, _, by simp [evCode, h1, hd], h2⟩
theorem Ev.regionN {Q} {ops : List SOper} (hd : drawOk0 ops = true) (hn : noWrites C ops = true) (h : EvR C ops F σ fun F' σ' => Q .normal F' σ') : Ev C (.region ops true) F σ Q := by
  obtain ⟨F', σ', h1, h2⟩ := h
  exact ⟨_, _, _, by simp [evCode, h1, hd, hn], h2⟩
theorem Ev.regionS {Q} {ops : List SOper} (hd : drawOkS ops = true) (hn : noWritesS C ops = true) (h : EvR C ops F σ fun F' σ' => Q .normal F' σ') : Ev C (.region ops true) F σ Q := by
  obtain ⟨F', σ', h1, h2⟩ := h
  exact ⟨_, _, _, by simp [evCode, h1, hd, hn], h2⟩
theorem Ev.seq {Q} {a b : SCode} (h : Ev C a F σ fun o F' σ' => match o with | .normal => Ev C b F' σ' Q | o => Q o F' σ') : Ev C (.seq a b) F σ Q := by
  obtain ⟨o, F', σ', h1, h2⟩ := h
  cases o with
  | normal =>
    obtain ⟨o2, F2, σ2, h3, h4⟩ := h2
    exact ⟨o2, F2, σ2, by simp [evCode, h1, h3], h4⟩
  | exit id => exact ⟨_, _, _, by simp [evCode, h1], h2⟩
  | ret => exact ⟨_, _, _, by simp [evCode, h1], h2⟩
theorem Ev.condT {Q} {c : Operand} {a b : SCode} (hc : eval F c = .bool true) (h : Ev C a F σ Q) : Ev C (.cond c a b) F σ Q := by
  obtain ⟨o, F', σ', h1, h2⟩ := h
  exact ⟨o, F', σ', by simp [evCode, hc, condOn, h1], h2⟩
theorem Ev.condF {Q} {c : Operand} {a b : SCode} (hc : eval F c = .bool false) (h : Ev C b F σ Q) : Ev C (.cond c a b) F σ Q := by
  obtain ⟨o, F', σ', h1, h2⟩ := h
  exact ⟨o, F', σ', by simp [evCode, hc, condOn, h1], h2⟩
theorem Ev.cond {Q} {c : Operand} {a b : SCode} {t : Bool} (hc : eval F c = .bool t) (h1 : t = true → Ev C a F σ Q) (h2 : t = false → Ev C b F σ Q) : Ev C (.cond c a b) F σ Q := by
  cases t with
  | true => exact Ev.condT hc (h1 rfl)
  | false => exact Ev.condF hc (h2 rfl)
theorem Ev.block {Q} {id : Nat} {a : SCode} (h : Ev C a F σ fun o F' σ' => match o with | .exit id' => if id' = id then Q .normal F' σ' else Q (.exit id') F' σ' | o => Q o F' σ') : Ev C (.block id a) F σ Q := by
  obtain ⟨o, F', σ', h1, h2⟩ := h
  cases o with
  | exit id' =>
    dsimp only at h2
    by_cases hi : id' = id
    · rw [if_pos hi] at h2
      exact ⟨_, _, _, by simp [evCode, h1, hi], h2⟩
    · rw [if_neg hi] at h2
      exact ⟨_, _, _, by simp [evCode, h1, hi], h2⟩
  | normal => exact ⟨_, _, _, by simp [evCode, h1], h2⟩
  | ret => exact ⟨_, _, _, by simp [evCode, h1], h2⟩

theorem Ev.mono {Q Q' : Out → Frame → Heap → Prop} {code : SCode} (h : Ev C code F σ Q) (hq : ∀ o F' σ', Q o F' σ' → Q' o F' σ') : Ev C code F σ Q' := by
  obtain ⟨o, F', σ', h1, h2⟩ := h
  exact ⟨o, F', σ', h1, hq _ _ _ h2⟩

/-- A loop with an invariant and a measure: a round that ends normally makes the measure less. -/
theorem Ev.loop {Q} {a : SCode} (inv : Nat → Frame → Heap → Prop)
    (hstep : ∀ n F σ, inv n F σ → Ev C a F σ fun o F' σ' => match o with | .normal => ∃ m, m < n ∧ inv m F' σ' | o => Q o F' σ') :
    ∀ (n : Nat) (F : Frame) (σ : Heap), inv n F σ → Ev C (.loop a) F σ Q := by
  intro n
  induction n using Nat.strongRecOn with
  | ind n ih =>
    intro F σ hi
    obtain ⟨o, F', σ', h1, h2⟩ := hstep n F σ hi
    cases o with
    | normal =>
      obtain ⟨m, hm, hi'⟩ := h2
      obtain ⟨o2, F2, σ2, h3, h4⟩ := ih m hm F' σ' hi'
      refine ⟨o2, F2, σ2, ?_, h4⟩
      have : while_ (evCode C a) F' σ' = some (o2, F2, σ2) := h3
      show while_ (evCode C a) F σ = _
      rw [while_eq, h1]; exact this
    | exit id =>
      refine ⟨_, _, _, ?_, h2⟩
      show while_ (evCode C a) F σ = _
      rw [while_eq, h1]
    | ret =>
      refine ⟨_, _, _, ?_, h2⟩
      show while_ (evCode C a) F σ = _
      rw [while_eq, h1]

theorem EvR.nil {Q} (h : Q F σ) : EvR C [] F σ Q := ⟨_, _, rfl, h⟩
theorem EvR.op {Q} {d : Option Nat} {op : SOp} {n : Nat} {rest : List SOper} {v : Value} {σ' : Heap} (h1 : evOp C F σ op = some (v, σ')) {F' : Frame} (hF : fput F d v = F') (h : EvR C rest F' σ' Q) : EvR C (⟨d, none, op, n⟩ :: rest) F σ Q := by
  subst hF
  obtain ⟨F', σ', h2, h3⟩ := h
  exact ⟨F', σ', by simp [evOps, guardOf, h1, h2], h3⟩
theorem EvR.opT {Q} {d : Option Nat} {op : SOp} {n t : Nat} {want b : Bool} {rest : List SOper} {v : Value} {σ' : Heap} (hg : fget F t = .bool b) (hb : (b == want) = true) (h1 : evOp C F σ op = some (v, σ')) {F' : Frame} (hF : fput F d v = F') (h : EvR C rest F' σ' Q) : EvR C (⟨d, some (t, want), op, n⟩ :: rest) F σ Q := by
  subst hF
  obtain ⟨F', σ', h2, h3⟩ := h
  exact ⟨F', σ', by simp only [evOps, guardOf, hg, hb]; simp [h1, h2], h3⟩
theorem EvR.opF {Q} {d : Option Nat} {op : SOp} {n t : Nat} {want b : Bool} {rest : List SOper} (hg : fget F t = .bool b) (hb : (b == want) = false) {F' : Frame} (hF : fput F d undef = F') (h : EvR C rest F' σ Q) : EvR C (⟨d, some (t, want), op, n⟩ :: rest) F σ Q := by
  subst hF
  obtain ⟨F', σ', h2, h3⟩ := h
  exact ⟨F', σ', by simp only [evOps, guardOf, hg, hb]; simp [h2], h3⟩
/-- What a guard reads is not known where another one was not met. -/
theorem EvR.opU {Q} {d : Option Nat} {op : SOp} {n t : Nat} {want : Bool} {rest : List SOper} {x : Array Value} (hg : fget F t = .tuple x) {F' : Frame} (hF : fput F d undef = F') (h : EvR C rest F' σ Q) : EvR C (⟨d, some (t, want), op, n⟩ :: rest) F σ Q := by
  subst hF
  obtain ⟨F', σ', h2, h3⟩ := h
  exact ⟨F', σ', by simp only [evOps, guardOf, hg]; simp [h2], h3⟩
theorem EvR.opS {Q} {d : Nat} {op : SOp} {n : Nat} {rest : List SOper} {v : Value} {σ' : Heap} (h1 : evOp C F σ op = some (v, σ')) (h : EvR C rest ((d, v) :: F) σ' Q) : EvR C (⟨some d, none, op, n⟩ :: rest) F σ Q := EvR.op h1 rfl h
theorem EvR.opN {Q} {op : SOp} {n : Nat} {rest : List SOper} {v : Value} {σ' : Heap} (h1 : evOp C F σ op = some (v, σ')) (h : EvR C rest F σ' Q) : EvR C (⟨none, none, op, n⟩ :: rest) F σ Q := EvR.op h1 rfl h
theorem EvR.movT {Q} {d t : Nat} {n : Nat} {rest : List SOper} {v : Value} (h1 : fget F t = v) (h : EvR C rest ((d, v) :: F) σ Q) : EvR C (⟨some d, none, .mov (.tmp t), n⟩ :: rest) F σ Q := by subst h1; exact EvR.op rfl rfl h
theorem EvR.opST {Q} {d : Nat} {op : SOp} {n t : Nat} {want b : Bool} {rest : List SOper} {v : Value} {σ' : Heap} (hg : fget F t = .bool b) (hb : (b == want) = true) (h1 : evOp C F σ op = some (v, σ')) (h : EvR C rest ((d, v) :: F) σ' Q) : EvR C (⟨some d, some (t, want), op, n⟩ :: rest) F σ Q := EvR.opT hg hb h1 rfl h
theorem EvR.opNT {Q} {op : SOp} {n t : Nat} {want b : Bool} {rest : List SOper} {v : Value} {σ' : Heap} (hg : fget F t = .bool b) (hb : (b == want) = true) (h1 : evOp C F σ op = some (v, σ')) (h : EvR C rest F σ' Q) : EvR C (⟨none, some (t, want), op, n⟩ :: rest) F σ Q := EvR.opT hg hb h1 rfl h
theorem EvR.movTT {Q} {d s : Nat} {n t : Nat} {want b : Bool} {rest : List SOper} {v : Value} (hg : fget F t = .bool b) (hb : (b == want) = true) (h1 : fget F s = v) (h : EvR C rest ((d, v) :: F) σ Q) : EvR C (⟨some d, some (t, want), .mov (.tmp s), n⟩ :: rest) F σ Q := by subst h1; exact EvR.opT hg hb rfl rfl h
theorem EvR.opSF {Q} {d : Nat} {op : SOp} {n t : Nat} {want b : Bool} {rest : List SOper} (hg : fget F t = .bool b) (hb : (b == want) = false) (h : EvR C rest ((d, undef) :: F) σ Q) : EvR C (⟨some d, some (t, want), op, n⟩ :: rest) F σ Q := EvR.opF hg hb rfl h
theorem EvR.opNF {Q} {op : SOp} {n t : Nat} {want b : Bool} {rest : List SOper} (hg : fget F t = .bool b) (hb : (b == want) = false) (h : EvR C rest F σ Q) : EvR C (⟨none, some (t, want), op, n⟩ :: rest) F σ Q := EvR.opF hg hb rfl h
/-- A call by the law of what is called. -/
theorem EvR.call {Q} {d : Option Nat} {f : Operand} {args : List Operand} {n : Nat} {rest : List SOper} {g : FuncId} {x y : Array Value} {c : Contract} (R : Value → Heap → Prop) (hf : eval F f = .func (.func g) x y) (hg : C g = some c)
    (hr : Ret c (x.toList ++ args.map (eval F) ++ y.toList) σ R) (h : ∀ v σ', R v σ' → EvR C rest (fput F d v) σ' Q) : EvR C (⟨d, none, .call f args, n⟩ :: rest) F σ Q := by
  obtain ⟨v, σ', h1, h2⟩ := hr
  exact EvR.op (by simp only [evOp, aCall, hf, hg, h1]) rfl (h v σ' h2)

end

theorem Ret.mono {c : Contract} {args : List Value} {σ : Heap} {Q Q' : Value → Heap → Prop} (h : Ret c args σ Q) (hq : ∀ v σ', Q v σ' → Q' v σ') : Ret c args σ Q' := by
  obtain ⟨v, σ', h1, h2⟩ := h
  exact ⟨v, σ', h1, hq _ _ h2⟩

/-- How a body's end is looked at. -/
def atEnd (rs : List SRes) (Q : Value → Heap → Prop) (o : Out) (F : Frame) (σ : Heap) : Prop :=
  match o with
  | .exit _ => False
  | _ => ∃ v, resOf F σ rs = some v ∧ Q v σ

/-! ### Frames, slot by slot -/

theorem nat_beq (a b : Nat) : Nat.beq a b = decide (a = b) := by
  by_cases h : a = b
  · subst h; simp
  · have : Nat.beq a b = false := by
      cases hb : Nat.beq a b with
      | false => rfl
      | true => exact absurd (Nat.eq_of_beq_eq_true hb) h
    simp [this, h]

theorem fget_cons (u t : Nat) (x : Value) (F : Frame) : fget ((u, x) :: F) t = if u = t then x else fget F t := by
  simp only [fget, nat_beq]; split <;> simp_all
theorem fkeep_cons (t : Nat) (K : List Nat) (F : Frame) : fkeep (t :: K) F = (t, fget F t) :: fkeep K F := rfl

attribute [irreducible] Ev EvR Ret
end Go.Abs

/- The abstract machine: when reads in a drawn region have the same value at every heap. No condition beyond those written. -/
namespace Go.Abs

/-- Light operations whose value depends on the heap. -/
def SOp.rd : SOp → Bool
  | .load1 _ | .loadN _ _ | .conv .toStr _ | .indexAddrS _ _ _ | .sliceSl _ _ _ _ => true
  | _ => false
/-- What they look at in the heap. -/
def SOp.at_ : SOp → List Operand
  | .load1 x | .loadN _ x | .conv _ x | .indexAddrS _ x _ | .sliceSl _ x _ _ => [x]
  | _ => []
end Go.Abs

/- The abstract machine: when a drawn region may make one new row early. No condition beyond those written. -/
namespace Go.Abs

end Go.Abs

/- The abstract machine: single steps as rewriting rules. No condition beyond those written. -/
namespace Go.Abs

theorem eval_tmp (F : Frame) (t : Nat) : eval F (.tmp t) = fget F t := rfl
theorem eval_bool (F : Frame) (b : Bool) : eval F (.const (.bool b)) = .bool b := rfl
theorem eval_int (F : Frame) (k : IntKind) (n : Int) : eval F (.const (.int k n)) = .int k n := rfl
theorem eval_float (F : Frame) (k : FloatKind) (n : Nat) : eval F (.const (.float k n)) = .float k n := rfl
theorem eval_string (F : Frame) (s : ByteArray) : eval F (.const (.string s)) = .string s := rfl
theorem eval_nilp (F : Frame) : eval F (.const (.pointer none)) = .pointer none := rfl
theorem eval_nils (F : Frame) : eval F (.const (.slice none 0 0)) = .slice none 0 0 := rfl
theorem eval_nilf (F : Frame) : eval F (.const .nilFunc) = .nilFunc := rfl
theorem eval_nili (F : Frame) : eval F (.const .nilIface) = .nilIface := rfl
theorem eval_func (F : Frame) (f : FuncId) : eval F (.func f) = .func (.func f) #[] #[] := rfl

theorem fset_eq (F : Frame) (t : Nat) (v : Value) : fset F t v = (t, v) :: F := rfl
theorem fkeep_nil (F : Frame) : fkeep [] F = [] := rfl
theorem fput_some (F : Frame) (d : Nat) (v : Value) : fput F (some d) v = fset F d v := rfl
theorem fput_none (F : Frame) (v : Value) : fput F none v = F := rfl

/-! Comparisons of floats. -/
def flt (k : FloatKind) (a b : Nat) : Bool := k.format.order a b == some .lt
def fle (k : FloatKind) (a b : Nat) : Bool := k.format.order a b == some .lt || k.format.order a b == some .eq
def fgt (k : FloatKind) (a b : Nat) : Bool := k.format.order a b == some .gt
def fge (k : FloatKind) (a b : Nat) : Bool := k.format.order a b == some .gt || k.format.order a b == some .eq
def feq (k : FloatKind) (a b : Nat) : Bool := k.format.order a b == some .eq

section
variable (ek : EqK) (k : FloatKind) (a b : Nat)
theorem bin_flt : aBin .lss ek (.float k a) (.float k b) = some (.bool (flt k a b)) := by simp [aBin, fArith, fcmp, flt]
theorem bin_fle : aBin .leq ek (.float k a) (.float k b) = some (.bool (fle k a b)) := by simp [aBin, fArith, fcmp, fle]
theorem bin_fgt : aBin .gtr ek (.float k a) (.float k b) = some (.bool (fgt k a b)) := by simp [aBin, fArith, fcmp, fgt]
theorem bin_fge : aBin .geq ek (.float k a) (.float k b) = some (.bool (fge k a b)) := by simp [aBin, fArith, fcmp, fge]
theorem bin_feq : aBin .eql ek (.float k a) (.float k b) = some (.bool (feq k a b)) := by simp [aBin, fArith, fcmp, feq]
theorem bin_fne : aBin .neq ek (.float k a) (.float k b) = some (.bool (!(feq k a b))) := by simp [aBin, fArith, fcmp, feq]; rfl
theorem bin_fadd : aBin .add ek (.float k a) (.float k b) = some (.float k (fbin .add k a b)) := by simp [aBin, fArith]
theorem bin_fsub : aBin .sub ek (.float k a) (.float k b) = some (.float k (fbin .sub k a b)) := by simp [aBin, fArith]
theorem bin_fmul : aBin .mul ek (.float k a) (.float k b) = some (.float k (fbin .mul k a b)) := by simp [aBin, fArith]
theorem bin_fquo : aBin .quo ek (.float k a) (.float k b) = some (.float k (fbin .quo k a b)) := by simp [aBin, fArith]
end
section
variable (ek : EqK) (k : IntKind) (a b : Int)
theorem bin_lss : aBin .lss ek (.int k a) (.int k b) = some (.bool (decide (a < b))) := by simp [aBin, iArith]
theorem bin_leq : aBin .leq ek (.int k a) (.int k b) = some (.bool (decide (a ≤ b))) := by simp [aBin, iArith]
theorem bin_gtr : aBin .gtr ek (.int k a) (.int k b) = some (.bool (decide (b < a))) := by simp [aBin, iArith]
theorem bin_geq : aBin .geq ek (.int k a) (.int k b) = some (.bool (decide (b ≤ a))) := by simp [aBin, iArith]
theorem bin_eql : aBin .eql ek (.int k a) (.int k b) = some (.bool (decide (a = b))) := by simp [aBin, iArith]; rfl
theorem bin_neq : aBin .neq ek (.int k a) (.int k b) = some (.bool (!(decide (a = b)))) := by simp [aBin, iArith]; rfl
theorem bin_add : aBin .add ek (.int k a) (.int k b) = some (.int k (k.wrap (a + b))) := by simp [aBin, iArith]
theorem bin_sub : aBin .sub ek (.int k a) (.int k b) = some (.int k (k.wrap (a - b))) := by simp [aBin, iArith]
theorem bin_mul : aBin .mul ek (.int k a) (.int k b) = some (.int k (k.wrap (a * b))) := by simp [aBin, iArith]
theorem bin_quo (h : b ≠ 0) : aBin .quo ek (.int k a) (.int k b) = some (.int k (k.wrap (a.tdiv b))) := by simp [aBin, iArith, h]
theorem bin_rem (h : b ≠ 0) : aBin .rem ek (.int k a) (.int k b) = some (.int k (a.tmod b)) := by simp [aBin, iArith, h]
theorem bin_and : aBin .and ek (.int k a) (.int k b) = some (.int k (k.wrap (BitVec.ofInt k.bits a &&& BitVec.ofInt k.bits b).toNat)) := by simp [aBin, iArith]
theorem bin_or : aBin .or ek (.int k a) (.int k b) = some (.int k (k.wrap (BitVec.ofInt k.bits a ||| BitVec.ofInt k.bits b).toNat)) := by simp [aBin, iArith]
theorem bin_xor : aBin .xor ek (.int k a) (.int k b) = some (.int k (k.wrap (BitVec.ofInt k.bits a ^^^ BitVec.ofInt k.bits b).toNat)) := by simp [aBin, iArith]
theorem bin_shl (k' : IntKind) (h : 0 ≤ b) : aBin .shl ek (.int k a) (.int k' b) = some (.int k (k.wrap (a * 2 ^ (min b.toNat k.bits)))) := by
  have : ¬ b < 0 := by omega
  simp [aBin, this]
theorem bin_shr (k' : IntKind) (h : 0 ≤ b) : aBin .shr ek (.int k a) (.int k' b) = some (.int k (a.fdiv (2 ^ (min b.toNat k.bits)))) := by
  have : ¬ b < 0 := by omega
  simp [aBin, this]
end
theorem bin_beq (a b : Bool) : aBin .eql .bool (.bool a) (.bool b) = some (.bool (a == b)) := by cases a <;> cases b <;> rfl
theorem bin_bne (a b : Bool) : aBin .neq .bool (.bool a) (.bool b) = some (.bool (!(a == b))) := by cases a <;> cases b <;> rfl
theorem bin_seq (ek : EqK) (a b : ByteArray) : aBin .eql ek (.string a) (.string b) = some (.bool (a.toList == b.toList)) := by simp [aBin, sArith]
theorem bin_sne (ek : EqK) (a b : ByteArray) : aBin .neq ek (.string a) (.string b) = some (.bool (!(a.toList == b.toList))) := by simp [aBin, sArith]
theorem un_not (b : Bool) : aUn .not (.bool b) = some (.bool (!b)) := rfl
theorem un_neg (k : IntKind) (n : Int) : aUn .neg (.int k n) = some (.int k (k.wrap (0 - n))) := rfl
theorem un_fneg (k : FloatKind) (n : Nat) : aUn .neg (.float k n) = some (.float k (Op.negFloat k n)) := rfl
theorem pick_ (t : Bool) (a b : Value) : aPick (.bool t) a b = some (bif t then a else b) := rfl

theorem len_str (s : ByteArray) : aLen true (.string s) = some (.int .i64 s.size) := rfl
theorem len_sl (a : Option Addr) (n c : Nat) : aLen false (.slice a n c) = some (.int .i64 n) := rfl

theorem map_some {α β : Type} (f : α → β) (x : α) : Option.map f (some x) = some (f x) := rfl

/-- A 64-bit number within its bounds. -/
theorem wrap64 {x : Int} (h1 : -9223372036854775808 ≤ x) (h2 : x < 9223372036854775808) : IntKind.i64.wrap x = x := by
  simp only [IntKind.wrap]
  simp [IntKind.bits, IntKind.signed]
  omega

end Go.Abs

/- The abstract machine: rubbish is cleared behind a call; contracts that do so. Conditions: what is kept of new objects holds constants alone; old objects are as they were or hold constants. -/
namespace Go.Abs

def allConst (obj : AObj) : Bool := obj.cells.all constOk

/-- The number of an object before the clearing. -/
def oldId (n : Nat) (ids : List Nat) (L o : Nat) : Nat := if o < n then o else ids.getD (o - n) L

structure Cleared (σ σ0 : Heap) (ids : List Nat) (σ' : Heap) : Prop where
  le : σ.length ≤ σ0.length
  eq : σ' = σ0.take σ.length ++ ids.filterMap (fun i => σ0[i]?)
  ge : ∀ i ∈ ids, σ.length ≤ i
  lt : ∀ i ∈ ids, i < σ0.length
  nd : ids.Nodup
  new : ∀ i ∈ ids, ∀ obj, σ0[i]? = some obj → allConst obj = true
  old : ∀ o, o < σ.length → σ0[o]? = σ[o]? ∨ ∀ obj, σ0[o]? = some obj → allConst obj = true

theorem filterMap_get (σ0 : Heap) : ∀ (ids : List Nat), (∀ i ∈ ids, i < σ0.length) → (ids.filterMap (fun i => σ0[i]?)).length = ids.length ∧ ∀ (k : Nat), (ids.filterMap (fun i => σ0[i]?))[k]? = (ids[k]?).bind (fun i => σ0[i]?)
  | [], _ => ⟨rfl, fun k => by simp⟩
  | i :: ids, h => by
    have hi : σ0[i]? = some (σ0[i]'(h i (by simp))) := List.getElem?_eq_getElem (h i (by simp))
    obtain ⟨h1, h2⟩ := filterMap_get σ0 ids (fun j hj => h j (by simp [hj]))
    rw [List.filterMap_cons, hi]
    refine ⟨by simp [h1], fun k => ?_⟩
    cases k with
    | zero => simp [hi]
    | succ k => simp [h2]

theorem Cleared.length {σ σ0 σ' : Heap} {ids : List Nat} (h : Cleared σ σ0 ids σ') : σ'.length = σ.length + ids.length := by
  rw [h.eq, List.length_append, (filterMap_get σ0 ids h.lt).1, List.length_take, Nat.min_eq_left h.le]

theorem Cleared.at_ {σ σ0 σ' : Heap} {ids : List Nat} (h : Cleared σ σ0 ids σ') (o : Nat) (ho : o < σ'.length) : σ'[o]? = σ0[oldId σ.length ids σ0.length o]? := by
  have hl := h.length
  unfold oldId
  rw [h.eq]
  split
  · rename_i hlt
    rw [List.getElem?_append_left (by rw [List.length_take, Nat.min_eq_left h.le]; exact hlt), List.getElem?_take, if_pos hlt]
  · rename_i hge
    rw [List.getElem?_append_right (by rw [List.length_take, Nat.min_eq_left h.le]; omega), List.length_take, Nat.min_eq_left h.le, (filterMap_get σ0 ids h.lt).2]
    have : o - σ.length < ids.length := by omega
    rw [List.getElem?_eq_getElem this, List.getD_eq_getElem?_getD, List.getElem?_eq_getElem this]
    rfl

theorem Trans.clear {β β0 : Inj} {σ σ0 σ' : Heap} {w w' : World} {ids : List Nat} (ht : Trans β σ w β0 σ0 w') (hb : InjOk β σ w) (h : Cleared σ σ0 ids σ') :
    Trans β σ w (fun o => β0 (oldId σ.length ids σ0.length o)) σ' w' := by
  have hl := h.length
  have hm0 : ∀ o, o < σ.length → oldId σ.length ids σ0.length o = o := fun o ho => by simp [oldId, ho]
  have hdom : ∀ o s, β0 (oldId σ.length ids σ0.length o) = some s → o < σ'.length := by
    intro o s hs
    have := ht.ok.dom _ _ hs
    rcases Nat.lt_or_ge o σ'.length with h' | h'
    · exact h'
    · exfalso
      unfold oldId at this
      rw [if_neg (by omega), List.getD_eq_getElem?_getD, List.getElem?_eq_none (by omega)] at this
      simp at this
  have hfresh : ∀ o s, β0 (oldId σ.length ids σ0.length o) = some s → β o = some s ∨ w.heap.size ≤ s.blk := by
    intro o s hs
    have hlt := hdom o s hs
    rcases ht.fresh _ s hs with h1 | h1
    · by_cases hlo : o < σ.length
      · rw [hm0 o hlo] at h1; exact .inl h1
      · exfalso
        have h2 := hb.dom _ _ h1
        have hl := h.length
        have hk : o - σ.length < ids.length := by omega
        have h3 : oldId σ.length ids σ0.length o = ids[o - σ.length] := by
          unfold oldId
          rw [if_neg hlo, List.getD_eq_getElem?_getD, List.getElem?_eq_getElem hk]; rfl
        rw [h3] at h2
        have := h.ge _ (List.getElem_mem hk)
        omega
    · exact .inr h1
  refine { ok := ⟨hdom, ?_, ?_⟩, later := ?_, len := by omega, size := ht.size, keep := ht.keep, grow := ?_, fresh := hfresh, os := ht.os, tape := ht.tape, output := ht.output }
  · intro o obj s ho hs
    have hlt := hdom o s hs
    have ho0 : σ0[oldId σ.length ids σ0.length o]? = some obj := (h.at_ o hlt).symm.trans ho
    obtain ⟨c, e, fz, hw, hcells, hrw⟩ := ht.ok.obj _ obj s ho0 hs
    refine ⟨c, e, fz, hw, fun j v hj => ?_, hrw⟩
    obtain ⟨u, hu, hr⟩ := hcells j v hj
    refine ⟨u, hu, ?_⟩
    have hconst : allConst obj = true → VRel (fun o => β0 (oldId σ.length ids σ0.length o)) σ' v u := by
      intro hc
      refine vrel_constOk hr ?_
      have := List.all_eq_true.1 hc v (List.mem_of_getElem? hj)
      exact this
    by_cases hlo : o < σ.length
    · rw [hm0 o hlo] at ho0 hs
      rcases h.old o hlo with he | hc
      · have hoσ : σ[o]? = some obj := he ▸ ho0
        obtain ⟨obj', h1, _, _, _, h5, _⟩ := ht.later.at_ o obj hoσ
        rw [ho0] at h1; cases h1
        rw [h5 rfl] at hs
        obtain ⟨c2, e2, fz2, hw2, hcells2, _⟩ := hb.obj o obj s hoσ hs
        obtain ⟨u2, _, hr2⟩ := hcells2 j v hj
        exact (hr2.ren hm0 (by omega)).pull (fun o ho => h.at_ o ho) hr
      · exact hconst (hc obj ho0)
    · refine hconst (h.new (oldId σ.length ids σ0.length o) ?_ obj ho0)
      unfold oldId
      rw [if_neg hlo, List.getD_eq_getElem?_getD, List.getElem?_eq_getElem (by omega)]
      simp
  · intro o o' obj s s' ho hrw hs hs' hblk
    have hlt := hdom o s hs
    have hlt' := hdom o' s' hs'
    have ho0 : σ0[oldId σ.length ids σ0.length o]? = some obj := (h.at_ o hlt).symm.trans ho
    have heq := ht.ok.inj _ _ obj s s' ho0 hrw hs hs' hblk
    have hmem : ∀ o, o < σ'.length → ¬ o < σ.length → ∃ (hk : o - σ.length < ids.length), oldId σ.length ids σ0.length o = ids[o - σ.length] := by
      intro o h1 h2
      have hk : o - σ.length < ids.length := by omega
      refine ⟨hk, ?_⟩
      unfold oldId
      rw [if_neg h2, List.getD_eq_getElem?_getD, List.getElem?_eq_getElem hk]
      rfl
    by_cases h1 : o < σ.length <;> by_cases h2 : o' < σ.length
    · rwa [hm0 o h1, hm0 o' h2] at heq
    · obtain ⟨hk, e⟩ := hmem o' hlt' h2
      have := h.ge ids[o' - σ.length] (by simp)
      rw [hm0 o h1, e] at heq; omega
    · obtain ⟨hk, e⟩ := hmem o hlt h1
      have := h.ge ids[o - σ.length] (by simp)
      rw [hm0 o' h2, e] at heq; omega
    · obtain ⟨hk, e⟩ := hmem o hlt h1
      obtain ⟨hk', e'⟩ := hmem o' hlt' h2
      rw [e, e'] at heq
      have := (List.getElem_inj h.nd).1 heq
      omega
  · refine ⟨fun o obj ho => ?_⟩
    have hlo : o < σ.length := (List.getElem?_eq_some_iff.1 ho).1
    obtain ⟨obj', h1, h2⟩ := ht.later.at_ o obj ho
    refine ⟨obj', ?_, ?_⟩
    · rw [h.at_ o (by omega), hm0 o hlo]; exact h1
    · rw [hm0 o hlo]; exact h2
  · rintro b hbl ⟨o, obj, s, ho, hrw, hs, rfl⟩
    have hlt := hdom o s hs
    exact ht.grow _ hbl ⟨_, obj, s, (h.at_ o hlt).symm.trans ho, hrw, hs, rfl⟩

theorem Good.clear {β : Inj} {σ σ0 σ' : Heap} {w w' : World} {ids : List Nat} {v0 v c : Value} (hb : InjOk β σ w) (hg : Good β σ w v0 σ0 c w') (h : Cleared σ σ0 ids σ')
    (hr : Ren (oldId σ.length ids σ0.length) σ'.length v v0) : Good β σ w v σ' c w' := by
  obtain ⟨β0, ht, hv⟩ := hg
  exact ⟨_, ht.clear hb h, hr.pull (fun o ho => h.at_ o ho) hv⟩

/-! ### Which objects are kept -/

def gcLeaf (n : Nat) (ids : List Nat) : Value → Option (Value × List Nat)
  | .slice (some a) len cap =>
    if a.block < n then some (.slice (some a) len cap, ids)
    else if a.block ∈ ids ∨ a.spot ≠ none then none
    else some (.slice (some ⟨n + ids.length, a.off, none⟩) len cap, ids ++ [a.block])
  | .slice none len cap => some (.slice none len cap, ids)
  | .pointer (some a) => if a.block < n then some (.pointer (some a), ids) else none
  | v => if constOk v = true then some (v, ids) else none

def gcLeaves (n : Nat) (ids : List Nat) : List Value → Option (List Value × List Nat)
  | [] => some ([], ids)
  | v :: vs =>
    match gcLeaf n ids v with
    | some (u, ids') => match gcLeaves n ids' vs with | some (us, ids'') => some (u :: us, ids'') | none => none
    | none => none

def gcVal (n : Nat) (ids : List Nat) : Value → Option (Value × List Nat)
  | .agg cs => match gcLeaves n ids cs.toList with | some (us, ids') => some (.agg us.toArray, ids') | none => none
  | v => gcLeaf n ids v

def gcVals (n : Nat) (ids : List Nat) : List Value → Option (List Value × List Nat)
  | [] => some ([], ids)
  | v :: vs =>
    match gcVal n ids v with
    | some (u, ids') => match gcVals n ids' vs with | some (us, ids'') => some (u :: us, ids'') | none => none
    | none => none

def gcTop (n : Nat) : Value → Option (Value × List Nat)
  | .tuple vs => match gcVals n [] vs.toList with | some (us, ids') => some (.tuple us.toArray, ids') | none => none
  | v => gcVal n [] v

def RenAll (n L : Nat) (ids : List Nat) (v v0 : Value) : Prop := ∀ rest, Ren (oldId n (ids ++ rest) L) (n + (ids ++ rest).length) v v0

theorem gcLeaf_ok {n L : Nat} {ids : List Nat} {v0 v : Value} {ids' : List Nat} (h : gcLeaf n ids v0 = some (v, ids')) : (∃ e, ids' = ids ++ e) ∧ RenAll n L ids' v v0 := by
  have same : ∀ (a : Addr) (rest : List Nat), a.block < n → (⟨oldId n (ids ++ rest) L a.block, a.off, a.spot⟩ : Addr) = a := by
    intro a rest h
    unfold oldId
    rw [if_pos h]
  unfold gcLeaf at h
  split at h
  · rename_i a len cap
    split at h
    · rename_i hlt
      cases h
      refine ⟨⟨[], by simp⟩, fun rest => ?_⟩
      have := Ren.sl (m := oldId n (ids ++ rest) L) (N := n + (ids ++ rest).length) a len cap (by omega)
      rw [same a rest hlt] at this
      exact this
    · split at h
      · cases h
      · rename_i hge hns
        cases h
        refine ⟨⟨[a.block], rfl⟩, fun rest => ?_⟩
        have hs : a.spot = none := Classical.byContradiction fun hc => hns (.inr hc)
        have h1 := Ren.sl (m := oldId n (ids ++ [a.block] ++ rest) L) (N := n + (ids ++ [a.block] ++ rest).length) ⟨n + ids.length, a.off, none⟩ len cap (by simp)
        have h2 : oldId n (ids ++ [a.block] ++ rest) L (n + ids.length) = a.block := by
          unfold oldId
          rw [if_neg (by omega), List.getD_eq_getElem?_getD]
          simp
        dsimp only at h1
        rw [h2] at h1
        obtain ⟨b, off, spot⟩ := a
        dsimp only at hs h1 ⊢
        subst hs
        exact h1
  · cases h
    exact ⟨⟨[], by simp⟩, fun rest => .slNil _ _⟩
  · rename_i a
    split at h
    · rename_i hlt
      cases h
      refine ⟨⟨[], by simp⟩, fun rest => ?_⟩
      have := Ren.ptr (m := oldId n (ids ++ rest) L) (N := n + (ids ++ rest).length) a (by omega)
      rw [same a rest hlt] at this
      exact this
    · cases h
  · split at h
    · rename_i hc
      cases h
      exact ⟨⟨[], by simp⟩, fun rest => .const hc⟩
    · cases h

theorem RenAll.ext {n L : Nat} {ids : List Nat} {v v0 : Value} (h : RenAll n L ids v v0) (e : List Nat) : RenAll n L (ids ++ e) v v0 := fun rest => by
  have := h (e ++ rest)
  rwa [List.append_assoc]

theorem gcLeaves_ok {n L : Nat} : ∀ {vs : List Value} {ids : List Nat} {us : List Value} {ids' : List Nat}, gcLeaves n ids vs = some (us, ids') →
    (∃ e, ids' = ids ++ e) ∧ us.length = vs.length ∧ ∀ (i : Nat) (v v0 : Value), us[i]? = some v → vs[i]? = some v0 → RenAll n L ids' v v0
  | [], ids, us, ids', h => by cases h; exact ⟨⟨[], by simp⟩, rfl, fun i v v0 h => by simp at h⟩
  | x :: vs, ids, us, ids', h => by
    unfold gcLeaves at h
    split at h
    · rename_i u ids1 h1
      split at h
      · rename_i us2 ids2 h2
        cases h
        obtain ⟨⟨e1, rfl⟩, r1⟩ := gcLeaf_ok (L := L) h1
        obtain ⟨⟨e2, rfl⟩, hl, r2⟩ := gcLeaves_ok h2
        refine ⟨⟨e1 ++ e2, by simp⟩, by simp [hl], fun i v v0 hv hv0 => ?_⟩
        cases i with
        | zero => simp at hv hv0; subst hv; subst hv0; exact r1.ext e2
        | succ i => exact r2 i v v0 (by simpa using hv) (by simpa using hv0)
      · cases h
    · cases h

theorem gcVal_ok {n L : Nat} {ids : List Nat} {v0 v : Value} {ids' : List Nat} (h : gcVal n ids v0 = some (v, ids')) : (∃ e, ids' = ids ++ e) ∧ RenAll n L ids' v v0 := by
  unfold gcVal at h
  split at h
  · rename_i cs
    split at h
    · rename_i us ids1 h1
      cases h
      obtain ⟨he, hl, r⟩ := gcLeaves_ok (L := L) h1
      refine ⟨he, fun rest => .agg _ _ (by simpa using hl) fun i v v' hv hv' => ?_⟩
      exact r i v v' (by simpa using hv) (by simpa using hv') rest
    · cases h
  · exact gcLeaf_ok h

theorem gcVals_ok {n L : Nat} : ∀ {vs : List Value} {ids : List Nat} {us : List Value} {ids' : List Nat}, gcVals n ids vs = some (us, ids') →
    (∃ e, ids' = ids ++ e) ∧ us.length = vs.length ∧ ∀ (i : Nat) (v v0 : Value), us[i]? = some v → vs[i]? = some v0 → RenAll n L ids' v v0
  | [], ids, us, ids', h => by cases h; exact ⟨⟨[], by simp⟩, rfl, fun i v v0 h => by simp at h⟩
  | x :: vs, ids, us, ids', h => by
    unfold gcVals at h
    split at h
    · rename_i u ids1 h1
      split at h
      · rename_i us2 ids2 h2
        cases h
        obtain ⟨⟨e1, rfl⟩, r1⟩ := gcVal_ok (L := L) h1
        obtain ⟨⟨e2, rfl⟩, hl, r2⟩ := gcVals_ok h2
        refine ⟨⟨e1 ++ e2, by simp⟩, by simp [hl], fun i v v0 hv hv0 => ?_⟩
        cases i with
        | zero => simp at hv hv0; subst hv; subst hv0; exact r1.ext e2
        | succ i => exact r2 i v v0 (by simpa using hv) (by simpa using hv0)
      · cases h
    · cases h

theorem gcTop_ok {n L : Nat} {v0 v : Value} {ids : List Nat} (h : gcTop n v0 = some (v, ids)) : Ren (oldId n ids L) (n + ids.length) v v0 := by
  unfold gcTop at h
  split at h
  · rename_i cs
    split at h
    · rename_i us ids1 h1
      cases h
      obtain ⟨he, hl, r⟩ := gcVals_ok (L := L) h1
      refine .tuple _ _ (by simpa using hl) fun i v v' hv hv' => ?_
      have := r i v v' (by simpa using hv) (by simpa using hv') []
      simpa using this
    · cases h
  · obtain ⟨_, r⟩ := gcVal_ok (L := L) h
    have := r []
    simpa using this

open Classical in
/-- What a function with a body does, its rubbish cleared, is its contract. -/
noncomputable def gcC (C : Ctab) (S : SFunc) (quiet : Bool) : Contract :=
  { quiet := quiet
    fn := fun args σ =>
      if args.length ≤ S.ntmps then
        match evFn C S args σ with
        | some (v0, σ0) =>
          match gcTop σ.length v0 with
          | some (v, ids) =>
            if h : ∃ σ', Cleared σ σ0 ids σ' ∧ (quiet = true → ∃ τ, σ' = σ ++ τ) then some (v, Classical.choose h) else none
          | none => none
        | none => none
      else none }

theorem Cleared.unique {σ σ0 σ1 σ2 : Heap} {ids : List Nat} (a : Cleared σ σ0 ids σ1) (b : Cleared σ σ0 ids σ2) : σ1 = σ2 := a.eq.trans b.eq.symm

theorem simOk_gc {P : Program} {C : Ctab} (hm : P.follows .mixedOrders = true) (hC : CtabOk P C) {f : FuncId} {fn : Func} {S : SFunc} (q : Bool) (hf : P.funcs[f]? = some fn)
    (hcall : ∀ args w, (callFunc f args).run P w = .ok (.enter f args) w) (hS : resolveFn P fn = some S.strip) : SimOk P f (gcC C S q) := by
  have key : ∀ args σ v σ', (gcC C S q).fn args σ = some (v, σ') → args.length ≤ S.ntmps ∧ ∃ v0 σ0 ids, evFn C S args σ = some (v0, σ0) ∧ gcTop σ.length v0 = some (v, ids) ∧ Cleared σ σ0 ids σ' ∧ (q = true → ∃ τ, σ' = σ ++ τ) := by
    intro args σ v σ' h
    unfold gcC at h
    dsimp only at h
    split at h
    · rename_i hn
      split at h
      · rename_i v0 σ0 he
        split at h
        · rename_i v1 ids hg
          split at h
          · rename_i hx
            cases h
            have := Classical.choose_spec hx
            exact ⟨hn, v0, σ0, ids, he, hg, this.1, this.2⟩
          · cases h
        · cases h
      · cases h
    · cases h
  refine ⟨fun args σ v σ' h β w cargs hok ha => ?_, fun hq args σ v σ' h => ?_⟩
  · obtain ⟨hn, v0, σ0, ids, he, hg, hc, _⟩ := key args σ v σ' h
    refine .inr (.inr ⟨f, cargs, w, hcall cargs w, (evFn_sound hm hC hf hS hn he hok ha).mono fun e w' ⟨c, h1, h2⟩ => ⟨c, h1, ?_⟩⟩)
    refine h2.clear hok hc ?_
    have := gcTop_ok (L := σ0.length) hg
    rwa [hc.length]
  · obtain ⟨hn, v0, σ0, ids, he, hg, hc, hτ⟩ := key args σ v σ' h
    exact hτ hq

theorem ret_of_ev_gc {C : Ctab} {S : SFunc} {args : List Value} {σ : Heap} {Q : Value → Heap → Prop} {q : Bool} (hn : args.length ≤ S.ntmps)
    (h : Ev C S.body (argFrame 0 args) σ (atEnd S.results fun v0 σ0 => ∃ v ids σ', gcTop σ.length v0 = some (v, ids) ∧ Cleared σ σ0 ids σ' ∧ (q = true → ∃ τ, σ' = σ ++ τ) ∧ Q v σ')) : Ret (gcC C S q) args σ Q := by
  unfold Ev at h
  unfold Ret
  obtain ⟨o, F, σ0, h1, h2⟩ := h
  have key : ∃ v0 v ids σ', evFn C S args σ = some (v0, σ0) ∧ gcTop σ.length v0 = some (v, ids) ∧ Cleared σ σ0 ids σ' ∧ (q = true → ∃ τ, σ' = σ ++ τ) ∧ Q v σ' := by
    cases o with
    | normal => obtain ⟨v0, h3, v, ids, σ', h4⟩ := h2; exact ⟨v0, v, ids, σ', by simp [evFn, h1, h3], h4⟩
    | ret => obtain ⟨v0, h3, v, ids, σ', h4⟩ := h2; exact ⟨v0, v, ids, σ', by simp [evFn, h1, h3], h4⟩
    | exit id => exact h2.elim
  obtain ⟨v0, v, ids, σ', h3, h4, h5, h6, h7⟩ := key
  have hx : ∃ σ', Cleared σ σ0 ids σ' ∧ (q = true → ∃ τ, σ' = σ ++ τ) := ⟨σ', h5, h6⟩
  refine ⟨v, σ', ?_, h7⟩
  unfold gcC
  dsimp only
  rw [if_pos hn, h3]
  dsimp only
  rw [h4]
  dsimp only
  rw [dif_pos hx, (Classical.choose_spec hx).1.unique h5]

/-- Nothing new is kept, nothing old was written. -/
theorem Cleared.none_ {σ τ : Heap} : Cleared σ (σ ++ τ) [] σ :=
  { le := by simp, eq := by simp, ge := (fun i h => by cases h), lt := (fun i h => by cases h), nd := List.nodup_nil, new := (fun i h => by cases h), old := fun o ho => .inl (List.getElem?_append_left ho) }

/-- Some new objects are kept, nothing old was written. -/
theorem Cleared.some_ {σ τ objs : Heap} {ids : List Nat} (h : ids.map (fun i => τ[i]?) = objs.map some) (hn : ids.Nodup) (hc : objs.all allConst = true) :
    Cleared σ (σ ++ τ) (ids.map (fun i => σ.length + i)) (σ ++ objs) := by
  have get : ∀ i : Nat, (σ ++ τ)[σ.length + i]? = τ[i]? := fun i => by rw [List.getElem?_append_right (by omega)]; congr 1; omega
  have hlt : ∀ (ids : List Nat) (objs : Heap), ids.map (fun i => τ[i]?) = objs.map some → ∀ i ∈ ids, i < τ.length ∧ ∃ obj ∈ objs, τ[i]? = some obj := by
    intro ids
    induction ids with
    | nil => intro objs _ i hi; cases hi
    | cons a l ih =>
      intro objs h i hi
      cases objs with
      | nil => simp at h
      | cons o os =>
        simp only [List.map_cons, List.cons.injEq] at h
        rcases List.mem_cons.1 hi with rfl | hi
        · exact ⟨(List.getElem?_eq_some_iff.1 h.1).1, o, by simp, h.1⟩
        · obtain ⟨h1, obj, h2, h3⟩ := ih os h.2 i hi
          exact ⟨h1, obj, by simp [h2], h3⟩
  refine ⟨by simp, ?_, ?_, ?_, ?_, ?_, fun o ho => .inl (List.getElem?_append_left ho)⟩
  · rw [List.take_left' rfl]
    congr 1
    rw [List.filterMap_map]
    have : ((fun i => (σ ++ τ)[i]?) ∘ fun i => σ.length + i) = fun i => τ[i]? := by funext i; exact get i
    rw [this]
    have h2 : ids.filterMap (fun i => τ[i]?) = (ids.map (fun i => τ[i]?)).filterMap id := by rw [List.filterMap_map]; rfl
    rw [h2, h, List.filterMap_map]
    simp
  · intro i hi; obtain ⟨j, _, rfl⟩ := List.mem_map.1 hi; omega
  · intro i hi; obtain ⟨j, hj, rfl⟩ := List.mem_map.1 hi; have := (hlt ids objs h j hj).1; simp; omega
  · exact List.Pairwise.map _ (fun a b (hab : a ≠ b) => by omega) hn
  · intro i hi obj ho
    obtain ⟨j, hj, rfl⟩ := List.mem_map.1 hi
    obtain ⟨_, o, h1, h2⟩ := hlt ids objs h j hj
    rw [get, h2] at ho; cases ho
    exact List.all_eq_true.1 hc _ h1

end Go.Abs

/- The abstract machine: rows and variables in a heap that is known in part. No condition beyond those written. -/
namespace Go.Abs

theorem hget (σ l : Heap) (i : Nat) : (σ ++ l)[σ.length + i]? = l[i]? := by
  rw [List.getElem?_append_right (by omega)]; congr 1; omega

theorem cells_one {v : Value} (h : cellOk v = true) : v.cells.toList = [v] := by cases v <;> simp [cellOk] at h <;> rfl
theorem ok_bool (b : Bool) : cellOk (.bool b) = true := rfl
theorem ok_int (k : IntKind) (n : Int) : cellOk (.int k n) = true := rfl
theorem ok_float (k : FloatKind) (n : Nat) : cellOk (.float k n) = true := rfl
theorem ok_string (b : ByteArray) : cellOk (.string b) = true := rfl
theorem ok_slice (a : Option Addr) (n c : Nat) : cellOk (.slice a n c) = true := rfl
theorem ok_pointer (a : Option Addr) : cellOk (.pointer a) = true := rfl
theorem ok_func (f : Fn) (x y : Array Value) : cellOk (.func f x y) = true := rfl
theorem ok_iface (t : TypeId) (v : Value) : cellOk (.iface t v) = true := rfl
theorem ok_nilf : cellOk .nilFunc = true := rfl
theorem ok_nili : cellOk .nilIface = true := rfl
theorem const_bool (b : Bool) : constOk (.bool b) = true := rfl
theorem const_int (k : IntKind) (n : Int) : constOk (.int k n) = true := rfl
theorem const_float (k : FloatKind) (n : Nat) : constOk (.float k n) = true := rfl
theorem const_string (b : ByteArray) : constOk (.string b) = true := rfl
theorem const_sl0 : constOk (.slice none 0 0) = true := rfl
theorem const_ptr : constOk (.pointer none) = true := rfl
theorem const_nilf : constOk .nilFunc = true := rfl
theorem const_nili : constOk .nilIface = true := rfl
theorem cells_bool (b : Bool) : (Value.bool b).cells = #[.bool b] := rfl
theorem cells_int (k : IntKind) (n : Int) : (Value.int k n).cells = #[.int k n] := rfl
theorem cells_float (k : FloatKind) (n : Nat) : (Value.float k n).cells = #[.float k n] := rfl
theorem cells_string (b : ByteArray) : (Value.string b).cells = #[.string b] := rfl
theorem cells_slice (a : Option Addr) (n c : Nat) : (Value.slice a n c).cells = #[.slice a n c] := rfl
theorem cells_pointer (a : Option Addr) : (Value.pointer a).cells = #[.pointer a] := rfl
theorem cells_func (f : Fn) (x y : Array Value) : (Value.func f x y).cells = #[.func f x y] := rfl
theorem cells_iface (t : TypeId) (v : Value) : (Value.iface t v).cells = #[.iface t v] := rfl
theorem cells_nilf : Value.nilFunc.cells = #[.nilFunc] := rfl
theorem cells_nili : Value.nilIface.cells = #[.nilIface] := rfl
theorem cells_ok {v : Value} (h : cellOk v = true) : v.cells = #[v] := by cases v <;> simp [cellOk] at h <;> rfl
theorem cells_agg (cs : Array Value) : (Value.agg cs).cells = cs := rfl

/-- The values of a row of numbers. -/
def f32s (xs : List Nat) : List Value := xs.map (Value.float .f32)
def i64s (xs : List Int) : List Value := xs.map (Value.int .i64)
def bools (xs : List Bool) : List Value := xs.map Value.bool

/-- A slice of n elements of e cells that tells these cells. -/
def Row (σ : Heap) (e : Nat) (v : Value) (n : Nat) (cs : List Value) : Prop :=
  match v with
  | .slice none n' _ => n' = n ∧ n = 0 ∧ cs = []
  | .slice (some a) n' cap => n' = n ∧ n ≤ cap ∧ ∃ obj, rowAt σ e a cap = some obj ∧ cs = (obj.cells.drop a.off).take (n * e)
  | _ => False

def elemP (e : Nat) (v : Value) (i : Nat) : Value :=
  match v with
  | .slice (some a) _ cap => .pointer (some ⟨a.block, a.off + i * e, some (a.off + cap * e)⟩)
  | _ => .pointer none

theorem rowAt_spec {σ : Heap} {e : Nat} {a : Addr} {cap : Nat} {obj : AObj} (h : rowAt σ e a cap = some obj) : σ[a.block]? = some obj ∧ obj.esz = e ∧ obj.cells.length = a.off + cap * e ∧ e ≠ 0 := by
  unfold rowAt at h
  split at h
  · rename_i o ho
    split at h
    · rename_i hc
      cases h
      simp [nat_beq] at hc
      exact ⟨ho, hc.1.1, hc.1.2, hc.2⟩
    · cases h
  · cases h

theorem rowAt_mk {σ : Heap} {e : Nat} {a : Addr} {cap : Nat} {obj : AObj} (h1 : σ[a.block]? = some obj) (h2 : obj.esz = e) (h3 : obj.cells.length = a.off + cap * e) (h4 : e ≠ 0) : rowAt σ e a cap = some obj := by
  unfold rowAt
  rw [h1]
  simp [nat_beq, h2, h3, h4]

theorem rowAt_more {σ τ : Heap} {e : Nat} {a : Addr} {cap : Nat} {obj : AObj} (h : rowAt σ e a cap = some obj) : rowAt (σ ++ τ) e a cap = some obj := by
  obtain ⟨h1, h2, h3, h4⟩ := rowAt_spec h
  exact rowAt_mk (by rw [List.getElem?_append_left (List.getElem?_eq_some_iff.1 h1).1]; exact h1) h2 h3 h4

section
variable {σ : Heap} {e n : Nat} {v : Value} {cs : List Value}

theorem Row.ext (h : Row σ e v n cs) (τ : Heap) : Row (σ ++ τ) e v n cs := by
  unfold Row at h ⊢
  split at h
  · exact h
  · obtain ⟨h1, h2, obj, h3, h4⟩ := h
    exact ⟨h1, h2, obj, rowAt_more h3, h4⟩
  · exact h.elim

theorem Row.len (h : Row σ e v n cs) : aLen false v = some (.int .i64 n) := by
  unfold Row at h
  split at h
  · rw [h.1.symm]; rfl
  · rw [h.1.symm]; rfl
  · exact h.elim

theorem Row.ok (h : Row σ e v n cs) : cellOk v = true := by
  unfold Row at h
  split at h
  · rfl
  · rfl
  · exact h.elim

theorem Row.length (h : Row σ e v n cs) : cs.length = n * e := by
  unfold Row at h
  split at h
  · obtain ⟨_, rfl, rfl⟩ := h; simp
  · rename_i a n' cap
    obtain ⟨_, h2, obj, h3, rfl⟩ := h
    obtain ⟨_, _, h5, _⟩ := rowAt_spec h3
    have := Nat.mul_le_mul_right e h2
    simp; omega
  · exact h.elim

theorem Row.idx (h : Row σ e v n cs) (k : IntKind) {j : Int} (h0 : 0 ≤ j) (h1 : j < n) : aIndexAddrS σ e v (.int k j) = some (elemP e v j.toNat) := by
  unfold Row at h
  split at h
  · obtain ⟨_, rfl, _⟩ := h; omega
  · rename_i a n' cap
    obtain ⟨rfl, h2, obj, h3, _⟩ := h
    simp only [aIndexAddrS, h3]
    rw [if_pos (by omega)]
    rfl
  · exact h.elim

theorem Row.load (h : Row σ 1 v n cs) {i : Nat} (h1 : i < n) : aLoad1 σ (elemP 1 v i) = cs[i]? := by
  unfold Row at h
  split at h
  · obtain ⟨_, rfl, _⟩ := h; omega
  · rename_i a n' cap
    obtain ⟨rfl, h2, obj, h3, rfl⟩ := h
    obtain ⟨h4, h5, h6, _⟩ := rowAt_spec h3
    simp only [elemP, aLoad1, h4]
    have : ptrOk obj (some (a.off + cap * 1)) = true := by simp [ptrOk, nat_beq, h5, h6]
    rw [if_pos this, List.getElem?_take, if_pos (by omega), List.getElem?_drop]
    congr 1; omega
  · exact h.elim

theorem Row.cells (h : Row σ e v n cs) : sliceCells σ e v n = some cs := by
  unfold Row at h
  split at h
  · obtain ⟨_, rfl, rfl⟩ := h; rfl
  · rename_i a n' cap
    obtain ⟨rfl, h2, obj, h3, rfl⟩ := h
    simp only [sliceCells, h3]
    rw [if_pos ⟨Nat.le_refl _, h2⟩]
  · exact h.elim

theorem Row.app (h : Row σ e v n cs) : appCells σ e v = some (cs, n) := by
  have hc := h.cells
  unfold Row at h
  split at h
  · obtain ⟨rfl, _, _⟩ := h; simp only [appCells, hc, Option.map_some]
  · rename_i a n' cap
    obtain ⟨rfl, _⟩ := h
    simp only [appCells, hc, Option.map_some]
  · exact h.elim

/-- A row that is an object's whole. -/
theorem Row.whole {b : Nat} {rw_ : Bool} (h : σ[b]? = some ⟨cs, e, rw_⟩) (he : e ≠ 0) (hn : cs.length = n * e) : Row σ e (.slice (some ⟨b, 0, none⟩) n n) n cs := by
  refine ⟨rfl, Nat.le_refl _, ⟨cs, e, rw_⟩, rowAt_mk h rfl (by simp [hn]) he, ?_⟩
  rw [List.drop_zero, List.take_of_length_le (Nat.le_of_eq hn)]

end

theorem Row.loadF {σ : Heap} {v : Value} {n : Nat} {xs : List Nat} (h : Row σ 1 v n (f32s xs)) {i : Nat} (h1 : i < n) : aLoad1 σ (elemP 1 v i) = some (.float .f32 (xs.getD i 0)) := by
  have hl := h.length
  rw [h.load h1]
  simp only [f32s, List.length_map, Nat.mul_one] at hl ⊢
  rw [List.getElem?_map, List.getElem?_eq_getElem (by omega), List.getD_eq_getElem?_getD, List.getElem?_eq_getElem (by omega)]
  rfl
theorem Row.loadI {σ : Heap} {v : Value} {n : Nat} {xs : List Int} (h : Row σ 1 v n (i64s xs)) {i : Nat} (h1 : i < n) : aLoad1 σ (elemP 1 v i) = some (.int .i64 (xs.getD i 0)) := by
  have hl := h.length
  rw [h.load h1]
  simp only [i64s, List.length_map, Nat.mul_one] at hl ⊢
  rw [List.getElem?_map, List.getElem?_eq_getElem (by omega), List.getD_eq_getElem?_getD, List.getElem?_eq_getElem (by omega)]
  rfl
theorem Row.loadB {σ : Heap} {v : Value} {n : Nat} {xs : List Bool} (h : Row σ 1 v n (bools xs)) {i : Nat} (h1 : i < n) : aLoad1 σ (elemP 1 v i) = some (.bool (xs.getD i false)) := by
  have hl := h.length
  rw [h.load h1]
  simp only [bools, List.length_map, Nat.mul_one] at hl ⊢
  rw [List.getElem?_map, List.getElem?_eq_getElem (by omega), List.getD_eq_getElem?_getD, List.getElem?_eq_getElem (by omega)]
  rfl

/-! ### Single operations on a heap that is known in part -/
section
variable (σ l : Heap)

theorem alloc_app (zero : List Value) : aAlloc (σ ++ l) zero = if zero.all constOk = true then some (.pointer (some ⟨σ.length + l.length, 0, none⟩), σ ++ (l ++ [⟨zero, 0, true⟩])) else none := by
  simp [aAlloc, newVar]
theorem box_app (v : Value) : aBox (σ ++ l) v = if v.cells.toList.all cellOk = true then some (.pointer (some ⟨σ.length + l.length, 0, none⟩), σ ++ (l ++ [⟨v.cells.toList, 0, true⟩])) else none := by
  simp [aBox, newVar]
theorem load1_app (i off : Nat) : aLoad1 (σ ++ l) (.pointer (some ⟨σ.length + i, off, none⟩)) = (match l[i]? with | some obj => if obj.esz = 0 then obj.cells[off]? else none | none => none) := by
  simp only [aLoad1, hget]
  cases l[i]? with
  | none => rfl
  | some obj => simp [ptrOk, nat_beq]
theorem loadN_app (n i off : Nat) : aLoadN (σ ++ l) n (.pointer (some ⟨σ.length + i, off, none⟩)) = (match l[i]? with | some obj => if obj.esz = 0 ∧ off + n ≤ obj.cells.length then some (.agg ((obj.cells.drop off).take n).toArray) else none | none => none) := by
  simp only [aLoadN, hget]
  cases l[i]? with
  | none => rfl
  | some obj => simp [ptrOk, nat_beq]
theorem store_app (n i off : Nat) (v : Value) : aStore (σ ++ l) n (.pointer (some ⟨σ.length + i, off, none⟩)) v =
    (match l[i]? with | some obj => if obj.esz = 0 ∧ obj.rw = true ∧ off + n ≤ obj.cells.length ∧ v.cells.toList.length = n ∧ v.cells.toList.all cellOk = true then some (σ ++ l.set i { obj with cells := splice obj.cells off v.cells.toList }) else none | none => none) := by
  simp only [aStore, hget]
  cases l[i]? with
  | none => rfl
  | some obj =>
    simp only [ptrOk, nat_beq]
    have : (σ ++ l).set (σ.length + i) { obj with cells := splice obj.cells off v.cells.toList } = σ ++ l.set i { obj with cells := splice obj.cells off v.cells.toList } := by
      rw [List.set_append_right _ _ (by omega)]; congr 2; omega
    rw [this]
    simp [and_assoc]
end

attribute [irreducible] elemP
end Go.Abs

/- The abstract machine: calls and ends in the calculus. No condition beyond those written. -/
namespace Go.Abs

/-- Quiet, where it is to be. -/
def QuietTo (q : Bool) (σ σ' : Heap) : Prop := q = true → ∃ τ, σ' = σ ++ τ

theorem ret_gc {C : Ctab} {S : SFunc} {args : List Value} {σ : Heap} {Q : Value → Heap → Prop} {q : Bool} {n : Nat} {rs : List SRes} {body : SCode} (hS : S = ⟨n, rs, body⟩) (hn : Nat.ble args.length n = true)
    (h : Ev C body (argFrame 0 args) (σ ++ []) (atEnd rs fun v0 σ0 => ∃ v ids σ', gcTop σ.length v0 = some (v, ids) ∧ Cleared σ σ0 ids σ' ∧ QuietTo q σ σ' ∧ Q v σ')) : Ret (gcC C S q) args σ Q := by
  subst hS
  rw [List.append_nil] at h
  exact ret_of_ev_gc (Nat.le_of_ble_eq_true hn) h

theorem end_scalar {σ τ : Heap} {v0 : Value} {q : Bool} {Q : Value → Heap → Prop} (h : gcTop σ.length v0 = some (v0, [])) (hq : Q v0 σ) :
    ∃ v ids σ', gcTop σ.length v0 = some (v, ids) ∧ Cleared σ (σ ++ τ) ids σ' ∧ QuietTo q σ σ' ∧ Q v σ' :=
  ⟨v0, [], σ, h, Cleared.none_, fun _ => ⟨[], by simp⟩, hq⟩

theorem end_rows {σ τ : Heap} (objs : Heap) (ids : List Nat) {v0 v : Value} {q : Bool} {Q : Value → Heap → Prop} (h : gcTop σ.length v0 = some (v, ids.map (fun i => σ.length + i)))
    (h1 : ids.map (fun i => τ[i]?) = objs.map some) (h2 : ids.Nodup) (h3 : objs.all allConst = true) (hq : Q v (σ ++ objs)) :
    ∃ v ids σ', gcTop σ.length v0 = some (v, ids) ∧ Cleared σ (σ ++ τ) ids σ' ∧ QuietTo q σ σ' ∧ Q v σ' :=
  ⟨v, _, _, h, Cleared.some_ h1 h2 h3, fun _ => ⟨objs, rfl⟩, hq⟩

theorem resOf_one (F : Frame) (σ : Heap) (r : SRes) : resOf F σ [r] = resVal F σ r := rfl
theorem resOf_nil (F : Frame) (σ : Heap) : resOf F σ [] = some (.tuple #[]) := rfl
theorem resOf_more (F : Frame) (σ : Heap) (r s : SRes) (rs : List SRes) : resOf F σ (r :: s :: rs) = (resVals F σ (r :: s :: rs)).map fun vs => .tuple vs.toArray := rfl
theorem Ev.retE {C : Ctab} {F : Frame} {σ : Heap} {rs : List SRes} {Q : Value → Heap → Prop} {v : Value} (h : resOf F σ rs = some v) (hq : Q v σ) : Ev C .ret F σ (atEnd rs Q) := Ev.ret ⟨v, h, hq⟩

theorem atEnd_ret {F : Frame} {σ : Heap} {rs : List SRes} {Q : Value → Heap → Prop} {v : Value} (h : resOf F σ rs = some v) (hq : Q v σ) : atEnd rs Q .ret F σ := ⟨v, h, hq⟩
theorem atEnd_normal {F : Frame} {σ : Heap} {rs : List SRes} {Q : Value → Heap → Prop} {v : Value} (h : resOf F σ rs = some v) (hq : Q v σ) : atEnd rs Q .normal F σ := ⟨v, h, hq⟩

section
variable {C : Ctab} {F : Frame} {σ : Heap}

/-- A call of a named function by its law. -/
theorem EvR.callF {Q} {d : Option Nat} {g : FuncId} {args : List Operand} {n : Nat} {rest : List SOper} {c : Contract} {R : Value → Heap → Prop} (hg : C g = some c) {as : List Value} (ha : args.map (eval F) = as)
    (hr : Ret c as σ R) {F' : Value → Frame} (hF : ∀ v, fput F d v = F' v) (h : ∀ v σ', R v σ' → EvR C rest (F' v) σ' Q) : EvR C (⟨d, none, .call (.func g) args, n⟩ :: rest) F σ Q := by
  subst ha
  unfold Ret at hr
  obtain ⟨v, σ', h1, h2⟩ := hr
  refine EvR.op (v := v) (σ' := σ') ?_ (hF v) (h v σ' h2)
  simp [evOp, eval_func, aCall, hg, h1]

end

/-- A variable among old objects. -/
theorem load1_at {σ : Heap} {b : Nat} {cells : List Value} {r : Bool} (h : σ[b]? = some ⟨cells, 0, r⟩) (l : Heap) (off : Nat) : aLoad1 (σ ++ l) (.pointer (some ⟨b, off, none⟩)) = cells[off]? := by
  have hb : b < σ.length := (List.getElem?_eq_some_iff.1 h).1
  simp only [aLoad1]
  rw [List.getElem?_append_left hb, h]
  simp [ptrOk]
theorem loadN_at {σ : Heap} {b : Nat} {cells : List Value} {r : Bool} (h : σ[b]? = some ⟨cells, 0, r⟩) (l : Heap) (n off : Nat) (hn : off + n ≤ cells.length) : aLoadN (σ ++ l) n (.pointer (some ⟨b, off, none⟩)) = some (.agg ((cells.drop off).take n).toArray) := by
  have hb : b < σ.length := (List.getElem?_eq_some_iff.1 h).1
  simp only [aLoadN]
  rw [List.getElem?_append_left hb, h]
  simp [ptrOk, hn]

end Go.Abs

/- The abstract machine: loops that count, rows that stay. No condition beyond those written. -/
namespace Go.Abs

/-- A loop that counts from i to N. -/
theorem Ev.forUp {C : Ctab} {K : List Nat} {a : SCode} {Q : Out → Frame → Heap → Prop} (F : Nat → Frame) (H : Nat → Heap) (p : Nat → Prop) (N : Nat) (i0 : Nat)
    (hstep : ∀ i, i < N → p i → Ev C a (F i) (H i) fun o F' σ' => match o with | .normal => fkeep K F' = F (i + 1) ∧ σ' = H (i + 1) ∧ p (i + 1) | o => Q o F' σ')
    (hend : p N → Ev C a (F N) (H N) fun o F' σ' => match o with | .normal => False | o => Q o F' σ')
    {F0 : Frame} {σ0 : Heap} (hF : fkeep K F0 = F i0) (hH : σ0 = H i0) (hi : i0 ≤ N) (hp : p i0) : Ev C (.loop (.kp K a)) F0 σ0 Q := by
  refine Ev.loop (fun n F' σ' => ∃ i, n = N - i ∧ i ≤ N ∧ fkeep K F' = F i ∧ σ' = H i ∧ p i) ?_ (N - i0) F0 σ0 ⟨i0, rfl, hi, hF, hH, hp⟩
  rintro n F' σ' ⟨i, rfl, hiN, hF', rfl, hp'⟩
  refine Ev.kp hF' ?_
  rcases Nat.lt_or_ge i N with hlt | hge
  · refine (hstep i hlt hp').mono fun o F2 σ2 h => ?_
    cases o with
    | normal => exact ⟨N - (i + 1), by omega, i + 1, rfl, hlt, h.1, h.2.1, h.2.2⟩
    | exit id => exact h
    | ret => exact h
  · have : i = N := by omega
    subst this
    refine (hend hp').mono fun o F2 σ2 h => ?_
    cases o with
    | normal => exact h.elim
    | exit id => exact h
    | ret => exact h

section
variable {σ : Heap} {e n : Nat} {v : Value} {cs : List Value}
theorem Row.idxE (h : Row σ e v n cs) (l : Heap) (k : IntKind) (j : Int) (h0 : 0 ≤ j) (h1 : j < n) : aIndexAddrS (σ ++ l) e v (.int k j) = some (elemP e v j.toNat) := (h.ext l).idx k h0 h1
theorem Row.loadFE {xs : List Nat} (h : Row σ 1 v n (f32s xs)) (l : Heap) (i : Nat) (h1 : i < n) : aLoad1 (σ ++ l) (elemP 1 v i) = some (.float .f32 (xs.getD i 0)) := (h.ext l).loadF h1
theorem Row.loadIE {xs : List Int} (h : Row σ 1 v n (i64s xs)) (l : Heap) (i : Nat) (h1 : i < n) : aLoad1 (σ ++ l) (elemP 1 v i) = some (.int .i64 (xs.getD i 0)) := (h.ext l).loadI h1
theorem Row.loadBE {xs : List Bool} (h : Row σ 1 v n (bools xs)) (l : Heap) (i : Nat) (h1 : i < n) : aLoad1 (σ ++ l) (elemP 1 v i) = some (.bool (xs.getD i false)) := (h.ext l).loadB h1
theorem Row.one (h : Row σ e v n cs) : v.cells = #[v] := cells_ok h.ok
end

/-! A row that an object of the known part is. -/
section
variable (σ l : Heap)
theorem rowAt_app (e i off cap : Nat) : rowAt (σ ++ l) e ⟨σ.length + i, off, none⟩ cap = (match l[i]? with | some obj => if obj.esz = e ∧ obj.cells.length = off + cap * e ∧ e ≠ 0 then some obj else none | none => none) := by
  unfold rowAt
  rw [hget]
  cases l[i]? with
  | none => rfl
  | some obj => simp [nat_beq, and_assoc]
theorem idx_app (e i off len cap : Nat) (k : IntKind) (j : Int) {cells : List Value} {r : Bool} (h : l[i]? = some ⟨cells, e, r⟩) (hc : cells.length = off + cap * e) (he : e ≠ 0) (h0 : 0 ≤ j) (h1 : j < len) (h2 : len ≤ cap) :
    aIndexAddrS (σ ++ l) e (.slice (some ⟨σ.length + i, off, none⟩) len cap) (.int k j) = some (.pointer (some ⟨σ.length + i, off + j.toNat * e, some (off + cap * e)⟩)) := by
  simp only [aIndexAddrS, rowAt_app, h]
  simp only [hc, he, ne_eq, not_false_eq_true, and_self, if_true]
  rw [if_pos ⟨h0, h1, h2⟩]
theorem load1_elem (i off c : Nat) {cells : List Value} {e : Nat} {r : Bool} (h : l[i]? = some ⟨cells, e, r⟩) (hc : cells.length = c) (he : e ≠ 0) : aLoad1 (σ ++ l) (.pointer (some ⟨σ.length + i, off, some c⟩)) = cells[off]? := by
  simp only [aLoad1, hget, h]
  simp [ptrOk, nat_beq, hc, he]
theorem store1_elem (i off c : Nat) (v : Value) {cells : List Value} {e : Nat} (h : l[i]? = some ⟨cells, e, true⟩) (hc : cells.length = c) (he : e ≠ 0) (ho : off < c) (hv : cellOk v = true) :
    aStore (σ ++ l) 1 (.pointer (some ⟨σ.length + i, off, some c⟩)) v = some (undef, σ ++ l.set i ⟨cells.set off v, e, true⟩).2 := by
  have hs : (σ ++ l).set (σ.length + i) ⟨cells.set off v, e, true⟩ = σ ++ l.set i ⟨cells.set off v, e, true⟩ := by
    rw [List.set_append_right _ _ (by omega)]; congr 2; omega
  have hsp : splice cells off [v] = cells.set off v := by
    unfold splice
    rw [List.set_eq_take_append_cons_drop, if_pos (by omega)]
    simp
  simp only [aStore, hget, h, cells_one hv, hsp, hs]
  have : cells.length = c := hc
  simp [ptrOk, nat_beq, hc, he, hv]
  omega
end

end Go.Abs

