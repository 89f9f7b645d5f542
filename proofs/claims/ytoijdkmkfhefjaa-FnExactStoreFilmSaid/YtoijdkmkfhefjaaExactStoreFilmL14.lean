/- Laws of single functions: desks, whether one is valid; the row's function. Conditions: the laws of what they call. -/
import Derived.Test.YtoijdkmkfhefjaaExactStoreFilmL13
namespace Go.Abs

set_option linter.unusedSimpArgs false
set_option linter.unusedVariables false
set_option maxHeartbeats 8000000


theorem sz1_fact (n : Nat) (left : Int) : -1 ≤ sz1 n left ∧ (0 ≤ left → sz1 n left ≤ left) ∧ (0 ≤ sz1 n left → (n : Int) ≤ left) := by
  unfold sz1; split <;> omega
theorem szSheet_fact (sp lo : List Nat) (left : Int) (h : 0 ≤ left) : -1 ≤ szSheet sp lo left ∧ szSheet sp lo left ≤ left ∧ (0 ≤ szSheet sp lo left → (sp.length : Int) ≤ left ∧ (lo.length : Int) ≤ left) := by
  have h1 := sz1_fact sp.length left
  have h2 := sz1_fact lo.length (sz1 sp.length left)
  unfold szSheet
  split
  · omega
  · split <;> omega
theorem szField_fact (e x y : List Nat) (left : Int) (h : 0 ≤ left) : -1 ≤ szAll [e.length, x.length, y.length] left ∧ szAll [e.length, x.length, y.length] left ≤ left ∧ (0 ≤ szAll [e.length, x.length, y.length] left → (e.length : Int) ≤ left ∧ (x.length : Int) ≤ left ∧ (y.length : Int) ≤ left) := by
  have h1 := sz1_fact e.length left
  have h2 := sz1_fact x.length (sz1 e.length left)
  have h3 := sz1_fact y.length (sz1 x.length (sz1 e.length left))
  simp only [szAll]
  split
  · omega
  · split
    · omega
    · split <;> omega
end Go.Abs

