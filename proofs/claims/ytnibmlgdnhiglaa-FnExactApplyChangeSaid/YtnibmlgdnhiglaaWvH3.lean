/- The abstract machine: more single steps. No condition beyond those written. -/
import Derived.Test.YtnibmlgdnhiglaaWvH2
namespace Go.Abs
set_option linter.unusedVariables false
set_option linter.unusedSimpArgs false

section
variable {C : Ctab} {F : Frame} {σ : Heap}
theorem i64s_set (xs : List Int) (i : Nat) (b : Int) : (i64s xs).set i (.int .i64 b) = i64s (xs.set i b) := by unfold i64s; rw [List.map_set]
theorem bools_set (xs : List Bool) (i : Nat) (b : Bool) : (bools xs).set i (.bool b) = bools (xs.set i b) := by unfold bools; rw [List.map_set]
/-- An own row is written. -/
theorem EvR.so {Q} {n i off c : Nat} {rest : List SOper} {l l' : Heap} {x y : Operand} {v : Value} {cells cells' : List Value} (h : EvR C rest F (σ ++ l') Q)
    (h1 : eval F x = .pointer (some ⟨σ.length + i, off * 1, some (c * 1)⟩) := by exact rfl) (h2 : l[i]? = some ⟨cells, 1, true⟩ := by exact rfl)
    (h3 : cells.length = c * 1 := by ((try simp only [f32s_length, i64s_length, b8s_length, bools_length, List.length_append, List.length_take, List.length_drop, List.length_replicate, List.length_map, List.length_range, List.length_set, List.length_cons, List.length_nil]); omega)) (h4 : off < c := by omega)
    (h5 : eval F y = v := by (conv => lhs; whnf)) (h6 : cellOk v = true := by first | exact rfl | assumption | exact Row.okR (by assumption)) (h7 : cells.set off v = cells' := by first | ((simp only [f32s_set, i64s_set, bools_set]) <;> with_reducible rfl) | exact rfl)
    (h8 : l.set i ⟨cells', 1, true⟩ = l' := by ((simp only [List.set_cons_succ, List.set_cons_zero]) <;> with_reducible rfl)) : EvR C (⟨none, none, .store 1 x y, n⟩ :: rest) F (σ ++ l) Q := by
  subst h7 h8
  refine EvR.opN (v := undef) (σ' := σ ++ l.set i ⟨cells.set off v, 1, true⟩) ?_ h
  have := store1_elem σ l i (off * 1) (c * 1) v h2 h3 (by omega) (by omega) h6
  simp only [Nat.mul_one] at this h1
  simp only [evOp, h1, h5, this, Option.map_some]
end
end Go.Abs
