/- Laws of functions: a field that runs, by the program. Conditions: the laws of what they call. -/
import Derived.Test.YtoijdkmkfhefjaaExactStoreFilmL51
import Derived.Test.YtoijdkmkfhefjaaExactStoreFilmL27
namespace Go.Abs

set_option linter.unusedSimpArgs false
set_option linter.unusedVariables false
set_option maxHeartbeats 8000000
set_option maxRecDepth 20000
def rfOk (w h : Int) (wr : Bool) (sp lo e x y : List Nat) (n : Int) : Bool := isField w h wr sp lo e x y && inR n 0 64
end Go.Abs

