/- Laws of functions: numbers to which bytes change others, by the program. Conditions: the laws of what they call. -/
import Derived.Test.YtaacdckenhnocaaExactLoadSheetL40
namespace Go.Abs

set_option linter.unusedSimpArgs false
set_option linter.unusedVariables false
set_option maxHeartbeats 8000000
set_option maxRecDepth 20000
theorem numB4 (s : List UInt8) (p : Nat) : numB ((s.drop p).take 4) < 4294967296 := by
  refine Nat.lt_of_lt_of_le (numB_lt _) ?_
  have : ((s.drop p).take 4).length ≤ 4 := by rw [List.length_take]; omega
  exact Nat.le_trans (Nat.pow_le_pow_right (by omega) this) (by omega)
end Go.Abs

