/- Laws of single functions: rows that are copied, marked and held. Conditions: the laws of what they call. -/
import Derived.Test.YtogekdhkcndbdaaChangesL02
import Derived.Test.YtogekdhkcndbdaaWvMF
namespace Go.Abs

set_option linter.unusedSimpArgs false
set_option linter.unusedVariables false
set_option maxHeartbeats 8000000
/-- What marks write. -/
def marks (k : Int) (n : Nat) : List Nat := (List.range n).map fun (i : Nat) => FloatKind.f32.nearest (k + i)
end Go.Abs

