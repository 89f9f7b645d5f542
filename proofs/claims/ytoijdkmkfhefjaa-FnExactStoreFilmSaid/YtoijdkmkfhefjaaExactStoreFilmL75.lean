/- Laws of functions: two films joined, by the program and by the reference. Conditions: the laws of what they call. -/
import Derived.Test.YtoijdkmkfhefjaaExactStoreFilmL72
import Derived.Test.YtoijdkmkfhefjaaExactStoreFilmL34
namespace Go.Abs

set_option linter.unusedSimpArgs false
set_option linter.unusedVariables false
set_option maxHeartbeats 8000000
set_option maxRecDepth 20000
section
variable {C : Ctab} {F : Frame} {τ l : Heap}
end
def in32 (xs : List Nat) : Prop := ∀ x ∈ xs, x < 4294967296
end Go.Abs

