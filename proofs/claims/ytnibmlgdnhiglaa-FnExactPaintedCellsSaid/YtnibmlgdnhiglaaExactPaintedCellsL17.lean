/- Laws of single functions: shapes that are painted, by the program. Conditions: the laws of what they call. -/
import Derived.Test.YtnibmlgdnhiglaaExactPaintedCellsL07
import Derived.Test.YtnibmlgdnhiglaaExactPaintedCellsL10
import Derived.Test.YtnibmlgdnhiglaaWvH2
import Derived.Test.YtnibmlgdnhiglaaExactPaintedCellsL13
namespace Go.Abs

set_option linter.unusedSimpArgs false
set_option linter.unusedVariables false
set_option maxHeartbeats 8000000

def paintOk (w h : Int) (sp lo : List Nat) (s l : Nat) : Bool := isSheet w h sp lo && isPaint s l
end Go.Abs

