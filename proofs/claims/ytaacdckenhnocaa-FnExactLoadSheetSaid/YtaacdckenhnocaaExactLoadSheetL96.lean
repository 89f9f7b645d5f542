/- Laws of functions: sheets are drawn. Conditions: the laws of what they call. -/
import Derived.Test.YtaacdckenhnocaaExactLoadSheetL46
import Derived.Test.YtaacdckenhnocaaExactLoadSheetL78
import Derived.Test.YtaacdckenhnocaaExactLoadSheetL51
import Derived.Test.YtaacdckenhnocaaExactLoadSheetL26
import Derived.Test.YtaacdckenhnocaaExactLoadSheetL02
namespace Go.Abs

set_option linter.unusedSimpArgs false
set_option linter.unusedVariables false
set_option maxHeartbeats 8000000
set_option maxRecDepth 20000
/-- The value of a row that grows out of nothing. -/
def fvN (b : Nat) : Nat → Value
  | 0 => .slice none 0 0
  | i + 1 => slV b (i + 1)
end Go.Abs

