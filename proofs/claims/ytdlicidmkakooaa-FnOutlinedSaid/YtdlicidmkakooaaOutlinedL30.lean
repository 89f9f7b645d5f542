/- Laws of single functions: rows of whole numbers that are compared, marked and held. No condition. -/
import Derived.Test.YtdlicidmkakooaaOutlinedL07
import Derived.Test.YtdlicidmkakooaaOutlinedWvH3
namespace Go.Abs

set_option linter.unusedSimpArgs false
set_option linter.unusedVariables false
set_option maxHeartbeats 8000000


abbrev rowI (xs : List Int) : AObj := ⟨i64s xs, 1, true⟩
end Go.Abs

