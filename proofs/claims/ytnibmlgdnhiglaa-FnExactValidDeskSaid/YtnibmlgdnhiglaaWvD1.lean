/- The abstract machine: contracts of functions that have a body, and the calculus by which their laws are shown. Conditions: as at each theorem. -/
import Derived.Test.YtnibmlgdnhiglaaWvC2
namespace Go.Abs

open Classical in
/-- What a function with a body does is its contract; a quiet one only adds objects. -/
noncomputable def bodyC (C : Ctab) (S : SFunc) (quiet : Bool) : Contract :=
  { quiet := quiet
    fn := fun args σ =>
      if args.length ≤ S.ntmps then
        match evFn C S args σ with
        | some (v, σ') => if quiet = true → ∃ τ, σ' = σ ++ τ then some (v, σ') else none
        | none => none
      else none }

theorem simOk_body {P : Program} {C : Ctab} (hm : P.follows .mixedOrders = true) (hC : CtabOk P C) {f : FuncId} {fn : Func} {S : SFunc} (q : Bool) (hf : P.funcs[f]? = some fn)
    (hcall : ∀ args w, (callFunc f args).run P w = .ok (.enter f args) w) (hS : resolveFn P fn = some S.strip) : SimOk P f (bodyC C S q) := by
  refine ⟨fun args σ v σ' h β w cargs hok ha => ?_, fun hq args σ v σ' h => ?_⟩
  · unfold bodyC at h
    dsimp only at h
    split at h
    · rename_i hn
      split at h
      · rename_i v2 σ2 he
        split at h
        · cases h
          exact .inr (.inr ⟨f, cargs, w, hcall cargs w, evFn_sound hm hC hf hS hn he hok ha⟩)
        · cases h
      · cases h
    · cases h
  · unfold bodyC at h hq
    dsimp only at h hq
    subst hq
    split at h
    · split at h
      · rename_i v2 σ2 he
        split at h
        · rename_i hτ
          cases h
          exact hτ rfl
        · cases h
      · cases h
    · cases h

/-- The code runs to an end of which Q holds. -/
def Ev (C : Ctab) (code : SCode) (F : Frame) (σ : Heap) (Q : Out → Frame → Heap → Prop) : Prop := ∃ o F' σ', evCode C code F σ = some (o, F', σ') ∧ Q o F' σ'
def EvR (C : Ctab) (ops : List SOper) (F : Frame) (σ : Heap) (Q : Frame → Heap → Prop) : Prop := ∃ F' σ', evOps C ops F σ = some (F', σ') ∧ Q F' σ'
/-- A call returns what Q tells. -/
def Ret (c : Contract) (args : List Value) (σ : Heap) (Q : Value → Heap → Prop) : Prop := ∃ v σ', c.fn args σ = some (v, σ') ∧ Q v σ'

section
variable {C : Ctab} {F : Frame} {σ : Heap}

theorem Ev.skip {Q} (h : Q .normal F σ) : Ev C .skip F σ Q := ⟨_, _, _, rfl, h⟩
theorem Ev.exit {Q} {id : Nat} (h : Q (.exit id) F σ) : Ev C (.exit id) F σ Q := ⟨_, _, _, rfl, h⟩
theorem Ev.ret {Q} (h : Q .ret F σ) : Ev C .ret F σ Q := ⟨_, _, _, rfl, h⟩
theorem Ev.kp {Q} {K : List Nat} {a : SCode} {F' : Frame} (hF : fkeep K F = F') (h : Ev C a F' σ Q) : Ev C (.kp K a) F σ Q := by
  subst hF; exact h
theorem Ev.region {Q} {ops : List SOper} (h : EvR C ops F σ fun F' σ' => Q .normal F' σ') : Ev C (.region ops false) F σ Q := by
  obtain ⟨F', σ', h1, h2⟩ := h
  exact ⟨_, _, _, by simp [evCode, h1], h2⟩
theorem Ev.regionD {Q} {ops : List SOper} (hd : drawOk C ops = true) (h : EvR C ops F σ fun F' σ' => Q .normal F' σ') : Ev C (.region ops true) F σ Q := by
  obtain ⟨F', σ', h1, h2⟩ := h
  exact ⟨_, _, _, by simp [evCode, h1, hd], h2⟩
theorem Ev.seq {Q} {a b : SCode} (h : Ev C a F σ fun o F' σ' => match o with | .normal => Ev C b F' σ' Q | o => Q o F' σ') : Ev C (.seq a b) F σ Q := by
  obtain ⟨o, F', σ', h1, h2⟩ := h
  cases o with
  | normal =>
    obtain ⟨o2, F2, σ2, h3, h4⟩ := h2
    exact ⟨o2, F2, σ2, by simp [evCode, h1, h3], h4⟩
  | exit id => exact ⟨_, _, _, by simp [evCode, h1], h2⟩
  | ret => exact ⟨_, _, _, by simp [evCode, h1], h2⟩
theorem Ev.condT {Q} {c : Operand} {a b : SCode} (hc : eval F c = .bool true) (h : Ev C a F σ Q) : Ev C (.cond c a b) F σ Q := by
  obtain ⟨o, F', σ', h1, h2⟩ := h
  exact ⟨o, F', σ', by simp [evCode, hc, condOn, h1], h2⟩
theorem Ev.condF {Q} {c : Operand} {a b : SCode} (hc : eval F c = .bool false) (h : Ev C b F σ Q) : Ev C (.cond c a b) F σ Q := by
  obtain ⟨o, F', σ', h1, h2⟩ := h
  exact ⟨o, F', σ', by simp [evCode, hc, condOn, h1], h2⟩
theorem Ev.cond {Q} {c : Operand} {a b : SCode} {t : Bool} (hc : eval F c = .bool t) (h1 : t = true → Ev C a F σ Q) (h2 : t = false → Ev C b F σ Q) : Ev C (.cond c a b) F σ Q := by
  cases t with
  | true => exact Ev.condT hc (h1 rfl)
  | false => exact Ev.condF hc (h2 rfl)
theorem Ev.block {Q} {id : Nat} {a : SCode} (h : Ev C a F σ fun o F' σ' => match o with | .exit id' => if id' = id then Q .normal F' σ' else Q (.exit id') F' σ' | o => Q o F' σ') : Ev C (.block id a) F σ Q := by
  obtain ⟨o, F', σ', h1, h2⟩ := h
  cases o with
  | exit id' =>
    dsimp only at h2
    by_cases hi : id' = id
    · rw [if_pos hi] at h2
      exact ⟨_, _, _, by simp [evCode, h1, hi], h2⟩
    · rw [if_neg hi] at h2
      exact ⟨_, _, _, by simp [evCode, h1, hi], h2⟩
  | normal => exact ⟨_, _, _, by simp [evCode, h1], h2⟩
  | ret => exact ⟨_, _, _, by simp [evCode, h1], h2⟩

theorem Ev.mono {Q Q' : Out → Frame → Heap → Prop} {code : SCode} (h : Ev C code F σ Q) (hq : ∀ o F' σ', Q o F' σ' → Q' o F' σ') : Ev C code F σ Q' := by
  obtain ⟨o, F', σ', h1, h2⟩ := h
  exact ⟨o, F', σ', h1, hq _ _ _ h2⟩

/-- A loop with an invariant and a measure: a round that ends normally makes the measure less. -/
theorem Ev.loop {Q} {a : SCode} (inv : Nat → Frame → Heap → Prop)
    (hstep : ∀ n F σ, inv n F σ → Ev C a F σ fun o F' σ' => match o with | .normal => ∃ m, m < n ∧ inv m F' σ' | o => Q o F' σ') :
    ∀ (n : Nat) (F : Frame) (σ : Heap), inv n F σ → Ev C (.loop a) F σ Q := by
  intro n
  induction n using Nat.strongRecOn with
  | ind n ih =>
    intro F σ hi
    obtain ⟨o, F', σ', h1, h2⟩ := hstep n F σ hi
    cases o with
    | normal =>
      obtain ⟨m, hm, hi'⟩ := h2
      obtain ⟨o2, F2, σ2, h3, h4⟩ := ih m hm F' σ' hi'
      refine ⟨o2, F2, σ2, ?_, h4⟩
      have : while_ (evCode C a) F' σ' = some (o2, F2, σ2) := h3
      show while_ (evCode C a) F σ = _
      rw [while_eq, h1]; exact this
    | exit id =>
      refine ⟨_, _, _, ?_, h2⟩
      show while_ (evCode C a) F σ = _
      rw [while_eq, h1]
    | ret =>
      refine ⟨_, _, _, ?_, h2⟩
      show while_ (evCode C a) F σ = _
      rw [while_eq, h1]

theorem EvR.nil {Q} (h : Q F σ) : EvR C [] F σ Q := ⟨_, _, rfl, h⟩
theorem EvR.op {Q} {d : Option Nat} {op : SOp} {n : Nat} {rest : List SOper} {v : Value} {σ' : Heap} (h1 : evOp C F σ op = some (v, σ')) {F' : Frame} (hF : fput F d v = F') (h : EvR C rest F' σ' Q) : EvR C (⟨d, none, op, n⟩ :: rest) F σ Q := by
  subst hF
  obtain ⟨F', σ', h2, h3⟩ := h
  exact ⟨F', σ', by simp [evOps, guardOf, h1, h2], h3⟩
theorem EvR.opT {Q} {d : Option Nat} {op : SOp} {n t : Nat} {want b : Bool} {rest : List SOper} {v : Value} {σ' : Heap} (hg : fget F t = .bool b) (hb : (b == want) = true) (h1 : evOp C F σ op = some (v, σ')) {F' : Frame} (hF : fput F d v = F') (h : EvR C rest F' σ' Q) : EvR C (⟨d, some (t, want), op, n⟩ :: rest) F σ Q := by
  subst hF
  obtain ⟨F', σ', h2, h3⟩ := h
  exact ⟨F', σ', by simp only [evOps, guardOf, hg, hb]; simp [h1, h2], h3⟩
theorem EvR.opF {Q} {d : Option Nat} {op : SOp} {n t : Nat} {want b : Bool} {rest : List SOper} (hg : fget F t = .bool b) (hb : (b == want) = false) {F' : Frame} (hF : fput F d undef = F') (h : EvR C rest F' σ Q) : EvR C (⟨d, some (t, want), op, n⟩ :: rest) F σ Q := by
  subst hF
  obtain ⟨F', σ', h2, h3⟩ := h
  exact ⟨F', σ', by simp only [evOps, guardOf, hg, hb]; simp [h2], h3⟩
/-- What a guard reads is not known where another one was not met. -/
theorem EvR.opU {Q} {d : Option Nat} {op : SOp} {n t : Nat} {want : Bool} {rest : List SOper} {x : Array Value} (hg : fget F t = .tuple x) {F' : Frame} (hF : fput F d undef = F') (h : EvR C rest F' σ Q) : EvR C (⟨d, some (t, want), op, n⟩ :: rest) F σ Q := by
  subst hF
  obtain ⟨F', σ', h2, h3⟩ := h
  exact ⟨F', σ', by simp only [evOps, guardOf, hg]; simp [h2], h3⟩
theorem EvR.opS {Q} {d : Nat} {op : SOp} {n : Nat} {rest : List SOper} {v : Value} {σ' : Heap} (h1 : evOp C F σ op = some (v, σ')) (h : EvR C rest ((d, v) :: F) σ' Q) : EvR C (⟨some d, none, op, n⟩ :: rest) F σ Q := EvR.op h1 rfl h
theorem EvR.opN {Q} {op : SOp} {n : Nat} {rest : List SOper} {v : Value} {σ' : Heap} (h1 : evOp C F σ op = some (v, σ')) (h : EvR C rest F σ' Q) : EvR C (⟨none, none, op, n⟩ :: rest) F σ Q := EvR.op h1 rfl h
theorem EvR.movT {Q} {d t : Nat} {n : Nat} {rest : List SOper} {v : Value} (h1 : fget F t = v) (h : EvR C rest ((d, v) :: F) σ Q) : EvR C (⟨some d, none, .mov (.tmp t), n⟩ :: rest) F σ Q := by subst h1; exact EvR.op rfl rfl h
theorem EvR.opST {Q} {d : Nat} {op : SOp} {n t : Nat} {want b : Bool} {rest : List SOper} {v : Value} {σ' : Heap} (hg : fget F t = .bool b) (hb : (b == want) = true) (h1 : evOp C F σ op = some (v, σ')) (h : EvR C rest ((d, v) :: F) σ' Q) : EvR C (⟨some d, some (t, want), op, n⟩ :: rest) F σ Q := EvR.opT hg hb h1 rfl h
theorem EvR.opNT {Q} {op : SOp} {n t : Nat} {want b : Bool} {rest : List SOper} {v : Value} {σ' : Heap} (hg : fget F t = .bool b) (hb : (b == want) = true) (h1 : evOp C F σ op = some (v, σ')) (h : EvR C rest F σ' Q) : EvR C (⟨none, some (t, want), op, n⟩ :: rest) F σ Q := EvR.opT hg hb h1 rfl h
theorem EvR.movTT {Q} {d s : Nat} {n t : Nat} {want b : Bool} {rest : List SOper} {v : Value} (hg : fget F t = .bool b) (hb : (b == want) = true) (h1 : fget F s = v) (h : EvR C rest ((d, v) :: F) σ Q) : EvR C (⟨some d, some (t, want), .mov (.tmp s), n⟩ :: rest) F σ Q := by subst h1; exact EvR.opT hg hb rfl rfl h
theorem EvR.opSF {Q} {d : Nat} {op : SOp} {n t : Nat} {want b : Bool} {rest : List SOper} (hg : fget F t = .bool b) (hb : (b == want) = false) (h : EvR C rest ((d, undef) :: F) σ Q) : EvR C (⟨some d, some (t, want), op, n⟩ :: rest) F σ Q := EvR.opF hg hb rfl h
theorem EvR.opNF {Q} {op : SOp} {n t : Nat} {want b : Bool} {rest : List SOper} (hg : fget F t = .bool b) (hb : (b == want) = false) (h : EvR C rest F σ Q) : EvR C (⟨none, some (t, want), op, n⟩ :: rest) F σ Q := EvR.opF hg hb rfl h
/-- A call by the law of what is called. -/
theorem EvR.call {Q} {d : Option Nat} {f : Operand} {args : List Operand} {n : Nat} {rest : List SOper} {g : FuncId} {x y : Array Value} {c : Contract} (R : Value → Heap → Prop) (hf : eval F f = .func (.func g) x y) (hg : C g = some c)
    (hr : Ret c (x.toList ++ args.map (eval F) ++ y.toList) σ R) (h : ∀ v σ', R v σ' → EvR C rest (fput F d v) σ' Q) : EvR C (⟨d, none, .call f args, n⟩ :: rest) F σ Q := by
  obtain ⟨v, σ', h1, h2⟩ := hr
  exact EvR.op (by simp only [evOp, aCall, hf, hg, h1]) rfl (h v σ' h2)

end

theorem Ret.mono {c : Contract} {args : List Value} {σ : Heap} {Q Q' : Value → Heap → Prop} (h : Ret c args σ Q) (hq : ∀ v σ', Q v σ' → Q' v σ') : Ret c args σ Q' := by
  obtain ⟨v, σ', h1, h2⟩ := h
  exact ⟨v, σ', h1, hq _ _ h2⟩

/-- How a body's end is looked at. -/
def atEnd (rs : List SRes) (Q : Value → Heap → Prop) (o : Out) (F : Frame) (σ : Heap) : Prop :=
  match o with
  | .exit _ => False
  | _ => ∃ v, resOf F σ rs = some v ∧ Q v σ

theorem ret_of_ev {C : Ctab} {S : SFunc} {args : List Value} {σ : Heap} {Q : Value → Heap → Prop} {q : Bool} (hn : args.length ≤ S.ntmps) (hq : q = true → ∀ v σ', Q v σ' → ∃ τ, σ' = σ ++ τ)
    (h : Ev C S.body (argFrame 0 args) σ (atEnd S.results Q)) : Ret (bodyC C S q) args σ Q := by
  obtain ⟨o, F, σ', h1, h2⟩ := h
  have key : ∃ v, evFn C S args σ = some (v, σ') ∧ Q v σ' := by
    cases o with
    | normal => obtain ⟨v, h3, h4⟩ := h2; exact ⟨v, by simp [evFn, h1, h3], h4⟩
    | ret => obtain ⟨v, h3, h4⟩ := h2; exact ⟨v, by simp [evFn, h1, h3], h4⟩
    | exit id => exact h2.elim
  obtain ⟨v, h3, h4⟩ := key
  refine ⟨v, σ', ?_, h4⟩
  unfold bodyC
  dsimp only
  rw [if_pos hn, h3]
  dsimp only
  rw [if_pos]
  exact fun hq1 => hq hq1 v σ' h4

/-! ### Frames, slot by slot -/

theorem nat_beq (a b : Nat) : Nat.beq a b = decide (a = b) := by
  by_cases h : a = b
  · subst h; simp
  · have : Nat.beq a b = false := by
      cases hb : Nat.beq a b with
      | false => rfl
      | true => exact absurd (Nat.eq_of_beq_eq_true hb) h
    simp [this, h]

theorem fget_cons (u t : Nat) (x : Value) (F : Frame) : fget ((u, x) :: F) t = if u = t then x else fget F t := by
  simp only [fget, nat_beq]; split <;> simp_all
theorem memb_cons (u t : Nat) (l : List Nat) : memb (u :: l) t = if u = t then true else memb l t := by
  simp only [memb, nat_beq]; split <;> simp_all
theorem fkeep_cons (t : Nat) (K : List Nat) (F : Frame) : fkeep (t :: K) F = (t, fget F t) :: fkeep K F := rfl

attribute [irreducible] Ev EvR Ret

end Go.Abs
