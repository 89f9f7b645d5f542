/- Laws of single functions: cells that are painted. Conditions: the laws of what they call. -/
import Derived.Test.YtoijdkmkfhefjaaExactFilmOfL08
import Derived.Test.YtoijdkmkfhefjaaExactFilmOfL12
namespace Go.Abs

set_option linter.unusedSimpArgs false
set_option linter.unusedVariables false
set_option maxHeartbeats 8000000

theorem set_self {xs : List Nat} {j : Nat} (h : j < xs.length) : xs.set j (xs.getD j 0) = xs := by
  apply List.ext_getElem?
  intro i
  by_cases hi : j = i
  · subst hi; rw [List.getElem?_set_self h, List.getElem?_eq_getElem h, List.getD_eq_getElem?_getD, List.getElem?_eq_getElem h]; rfl
  · rw [List.getElem?_set_ne hi]
end Go.Abs

