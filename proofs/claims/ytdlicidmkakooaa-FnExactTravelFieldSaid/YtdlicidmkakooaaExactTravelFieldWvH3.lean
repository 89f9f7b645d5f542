/- The abstract machine: more single steps. No condition beyond those written. -/
import Derived.Test.YtdlicidmkakooaaExactTravelFieldWvH2
namespace Go.Abs
set_option linter.unusedVariables false
set_option linter.unusedSimpArgs false

section
variable {C : Ctab} {F : Frame} {σ : Heap}
theorem i64s_set (xs : List Int) (i : Nat) (b : Int) : (i64s xs).set i (.int .i64 b) = i64s (xs.set i b) := by unfold i64s; rw [List.map_set]
theorem bools_set (xs : List Bool) (i : Nat) (b : Bool) : (bools xs).set i (.bool b) = bools (xs.set i b) := by unfold bools; rw [List.map_set]
/-- An own row is written. -/
theorem EvR.so {Q} {n i off c : Nat} {rest : List SOper} {l l' : Heap} {x y : Operand} {v : Value} {cells cells' : List Value} (h : EvR C rest F (σ ++ l') Q)
    (h1 : eval F x = .pointer (some ⟨σ.length + i, off * 1, some (c * 1)⟩) := by exact rfl) (h2 : l[i]? = some ⟨cells, 1, true⟩ := by exact rfl)
    (h3 : cells.length = c * 1 := by ((try simp only [f32s_length, i64s_length, b8s_length, bools_length, List.length_append, List.length_take, List.length_drop, List.length_replicate, List.length_map, List.length_range, List.length_set, List.length_cons, List.length_nil]); omega)) (h4 : off < c := by omega)
    (h5 : eval F y = v := by (conv => lhs; whnf)) (h6 : cellOk v = true := by first | exact rfl | assumption | exact Row.okR (by assumption)) (h7 : cells.set off v = cells' := by first | ((simp only [f32s_set, i64s_set, bools_set]) <;> with_reducible rfl) | exact rfl)
    (h8 : l.set i ⟨cells', 1, true⟩ = l' := by ((simp only [List.set_cons_succ, List.set_cons_zero]) <;> with_reducible rfl)) : EvR C (⟨none, none, .store 1 x y, n⟩ :: rest) F (σ ++ l) Q := by
  subst h7 h8
  refine EvR.opN (v := undef) (σ' := σ ++ l.set i ⟨cells.set off v, 1, true⟩) ?_ h
  have := store1_elem σ l i (off * 1) (c * 1) v h2 h3 (by omega) (by omega) h6
  simp only [Nat.mul_one] at this h1
  simp only [evOp, h1, h5, this, Option.map_some]
end
/-- Holds a goal so that no search by 'assumption' takes it. -/
structure Bx (q : Prop) : Prop where
  out : q
/-- As many single steps as go; what is left is found by the steps themselves. -/
theorem ff {p q : Prop} (h : q) (hh : Bx q → p := by (intro ffh; (first | apply Ev.sq | apply Ev.rg | refine Ev.aKp ?_ | apply thenQ.n | apply thenQ.e | apply thenQ.r | apply blkQ.n | apply blkQ.e | refine blkQ.x ?_ rfl | apply blkQ.r | refine Ev.aT ?_ | refine Ev.aF ?_ | apply Ev.skip | apply Ev.exit | apply Ev.ret | apply Ev.bk | refine EvR.mv ?_ | refine EvR.fa ?_ | refine EvR.l1 ?_ | refine EvR.aNotSF ?_ | refine EvR.aNotST ?_ | refine EvR.aMetT ?_ | refine EvR.aMetF ?_ | refine EvR.aUS ?_ | refine EvR.mvc ?_ | refine EvR.lv ?_ | refine EvR.lp ?_ | refine EvR.lNp ?_ | refine EvR.pkT ?_ | refine EvR.pkF ?_ | refine EvR.lN ?_ | refine EvR.ix ?_ | refine EvR.le ?_ | refine EvR.ixo ?_ | refine EvR.l1o ?_ | refine EvR.lei ?_ | refine EvR.leb ?_ | refine EvR.lnr ?_ | refine EvR.lns ?_ | refine EvR.nt ?_ | refine EvR.lt ?_ | refine EvR.le_ ?_ | refine EvR.gt ?_ | refine EvR.ge ?_ | refine EvR.eqi ?_ | refine EvR.nei ?_ | refine EvR.add ?_ | refine EvR.sub ?_ | refine EvR.mul ?_ | refine EvR.rem ?_ | refine EvR.quo ?_ | refine EvR.nc ?_ | refine EvR.ex ?_ | refine EvR.f1 ?_ | refine EvR.fadd ?_ | refine EvR.fsub ?_ | refine EvR.fmul ?_ | refine EvR.fquo ?_ | refine EvR.flt_ ?_ | refine EvR.fle_ ?_ | refine EvR.fgt_ ?_ | refine EvR.fge_ ?_ | refine EvR.feq_ ?_ | refine EvR.fne_ ?_ | refine EvR.cv ?_ | refine EvR.cvu ?_ | refine EvR.cvf ?_ | refine EvR.cvw ?_ | refine EvR.bx ?_ | refine EvR.aNotNT ?_ | refine EvR.aNotNF ?_ | refine EvR.aUN ?_ | refine EvR.nl ?_ | refine EvR.so ?_ | (apply Ev.regionQ drk; (· exact quie)) | (apply Ev.regionN0 drk; (· exact quie)) | (apply Ev.regionA drk (by assumption); (· exact quie)) | (apply Ev.regionNA drk (by assumption); (· exact quie)) | (apply Ev.regionS0 drk; (· exact quie)) | (apply EvR.aS0; (· exact evc)) | (apply EvR.aN0; (· exact evc))); (repeat' (first | apply Ev.sq | apply Ev.rg | refine Ev.aKp ?_ | apply thenQ.n | apply thenQ.e | apply thenQ.r | apply blkQ.n | apply blkQ.e | refine blkQ.x ?_ rfl | apply blkQ.r | refine Ev.aT ?_ | refine Ev.aF ?_ | apply Ev.skip | apply Ev.exit | apply Ev.ret | apply Ev.bk | refine EvR.mv ?_ | refine EvR.fa ?_ | refine EvR.l1 ?_ | refine EvR.aNotSF ?_ | refine EvR.aNotST ?_ | refine EvR.aMetT ?_ | refine EvR.aMetF ?_ | refine EvR.aUS ?_ | refine EvR.mvc ?_ | refine EvR.lv ?_ | refine EvR.lp ?_ | refine EvR.lNp ?_ | refine EvR.pkT ?_ | refine EvR.pkF ?_ | refine EvR.lN ?_ | refine EvR.ix ?_ | refine EvR.le ?_ | refine EvR.ixo ?_ | refine EvR.l1o ?_ | refine EvR.lei ?_ | refine EvR.leb ?_ | refine EvR.lnr ?_ | refine EvR.lns ?_ | refine EvR.nt ?_ | refine EvR.lt ?_ | refine EvR.le_ ?_ | refine EvR.gt ?_ | refine EvR.ge ?_ | refine EvR.eqi ?_ | refine EvR.nei ?_ | refine EvR.add ?_ | refine EvR.sub ?_ | refine EvR.mul ?_ | refine EvR.rem ?_ | refine EvR.quo ?_ | refine EvR.nc ?_ | refine EvR.ex ?_ | refine EvR.f1 ?_ | refine EvR.fadd ?_ | refine EvR.fsub ?_ | refine EvR.fmul ?_ | refine EvR.fquo ?_ | refine EvR.flt_ ?_ | refine EvR.fle_ ?_ | refine EvR.fgt_ ?_ | refine EvR.fge_ ?_ | refine EvR.feq_ ?_ | refine EvR.fne_ ?_ | refine EvR.cv ?_ | refine EvR.cvu ?_ | refine EvR.cvf ?_ | refine EvR.cvw ?_ | refine EvR.bx ?_ | refine EvR.aNotNT ?_ | refine EvR.aNotNF ?_ | refine EvR.aUN ?_ | refine EvR.nl ?_ | refine EvR.so ?_ | (apply Ev.regionQ drk; (· exact quie)) | (apply Ev.regionN0 drk; (· exact quie)) | (apply Ev.regionA drk (by assumption); (· exact quie)) | (apply Ev.regionNA drk (by assumption); (· exact quie)) | (apply Ev.regionS0 drk; (· exact quie)) | (apply EvR.aS0; (· exact evc)) | (apply EvR.aN0; (· exact evc)))); exact ffh.out)) : p := hh ⟨h⟩
/-- Tactics under short names. -/
theorem tP {p : Prop} (h : p := by (simp (disch := omega) only [push_cast, Nat.reduceEqDiff, reduceIte, Nat.reduceAdd, Nat.reduceLeDiff] <;> with_reducible rfl)) : p := h
theorem tG {p : Prop} (h : p := by (simp only [fget_cons, Nat.reduceEqDiff, reduceIte] <;> with_reducible rfl)) : p := h
theorem tF {p : Prop} (h : p := by (simp only [List.cons_append, List.nil_append, ↓fget_cons, push_cast, Nat.reduceEqDiff, reduceIte] <;> rfl)) : p := h
theorem bb : (∀ b, ((!b) = true) = (b = false)) ∧ (∀ b, ((!b) = false) = (b = true)) ∧ (∀ a b, ((!a) = b) = (a = !b)) ∧ ((!true) = false) ∧ ((!false) = true) ∧ (∀ (p : Prop) [Decidable p], (decide p = true) = p) ∧ (∀ (p : Prop) {_ : Decidable p}, (decide p = false) ↔ ¬ p) ∧ (∀ a b, ((a && b) = true) = (a = true ∧ b = true)) ∧ (∀ x y, ((x && y) = false) ↔ (x = false ∨ y = false)) ∧ (∀ a b, ((a || b) = true) = (a = true ∨ b = true)) ∧ (∀ x y, ((x || y) = false) ↔ (x = false ∧ y = false)) :=
  ⟨fun b => by cases b <;> simp, fun b => by cases b <;> simp, fun a b => by cases a <;> cases b <;> simp, by simp, by simp, fun p _ => by simp, fun p _ => by simp, fun a b => by cases a <;> cases b <;> simp, fun a b => by cases a <;> cases b <;> simp, fun a b => by cases a <;> cases b <;> simp, fun a b => by cases a <;> cases b <;> simp⟩
section
variable {C : Ctab} {F : Frame} {σ : Heap}
theorem sR {Q} {d : Option Nat} {op : SOp} {n t : Nat} {want : Bool} {rest : List SOper} {b : Bool} (h1 : b = true → EvR C (⟨d, some (t, want), op, n⟩ :: rest) F σ Q) (h2 : b = false → EvR C (⟨d, some (t, want), op, n⟩ :: rest) F σ Q)
    (hg : fget F t = .bool b := by exact rfl) : EvR C (⟨d, some (t, want), op, n⟩ :: rest) F σ Q := EvR.aSplB h1 h2 hg
theorem sC {Q} {c : Operand} {a b : SCode} {t : Bool} (h1 : t = true → Ev C a F σ Q) (h2 : t = false → Ev C b F σ Q) (hc : eval F c = .bool t := by exact rfl) : Ev C (.cond c a b) F σ Q := Ev.aSplB h1 h2 hc
end
end Go.Abs

