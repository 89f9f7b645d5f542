/- Laws of single functions: each cell of a sheet, ramps. Conditions: the laws of what they call. -/
import Derived.Test.YtoijdkmkfhefjaaExactFilmOfL07
namespace Go.Abs
set_option linter.unusedSimpArgs false
set_option linter.unusedVariables false
set_option maxHeartbeats 8000000
theorem gen_step (g : Nat → Nat) (xs : List Nat) (j : Nat) (h : j < xs.length) : ((List.range j).map g ++ xs.drop j).set j (g j) = (List.range (j + 1)).map g ++ xs.drop (j + 1) := by
  rw [List.set_append_right _ _ (by simp), List.length_map, List.length_range, Nat.sub_self, List.drop_eq_getElem_cons h, List.set_cons_zero, List.range_succ, List.map_append, List.append_assoc]
  rfl
end Go.Abs

