/- Laws of functions: fields that are scaled and added, by the reference. Conditions: the laws of what they call. -/
import Derived.Test.YtoijdkmkfhefjaaExactStoreFilmL56
namespace Go.Abs

set_option linter.unusedSimpArgs false
set_option linter.unusedVariables false
set_option maxHeartbeats 8000000
set_option maxRecDepth 20000
theorem isField_fits {W H : Nat} {wr : Bool} {sp lo e x y : List Nat} (hs : isSheet W H sp lo = true) : isField W H wr sp lo e x y = fits W H wr e x y := by simp [isField, hs]

end Go.Abs

