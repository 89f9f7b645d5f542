/- Laws of functions: whether numbers are the same, NaN among them; fields and films that are the same. Conditions: the laws of what they call. -/
import Derived.Test.YtoijdkmkfhefjaaExactStoreFilmL36
import Derived.Test.YtoijdkmkfhefjaaExactStoreFilmL66
import Derived.Test.YtoijdkmkfhefjaaExactStoreFilmL72
import Derived.Test.YtoijdkmkfhefjaaExactStoreFilmL34
namespace Go.Abs

set_option linter.unusedSimpArgs false
set_option linter.unusedVariables false
set_option maxHeartbeats 8000000
set_option maxRecDepth 20000
def in32N (xs : List Nat) : Prop := ∀ i, xs.getD i 0 < 4294967296
theorem in32N_of {xs : List Nat} (h : ∀ x ∈ xs, x < 4294967296) : in32N xs := fun i => by
  rw [List.getD_eq_getElem?_getD]
  cases hx : xs[i]? with
  | none => simp
  | some x => exact h x (List.mem_of_getElem? hx)
def lowF1 (f : Fld) : Prop := in32N f.e ∧ in32N f.x ∧ in32N f.y
end Go.Abs

