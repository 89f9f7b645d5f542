/- Law of a row's function: bytes of changes. Conditions: the laws of what it calls. -/
import Derived.Test.YtogekdhkcndbdaaChangesL38
namespace Go.Abs

set_option linter.unusedSimpArgs false
set_option linter.unusedVariables false
set_option maxHeartbeats 8000000
set_option maxRecDepth 20000


theorem chRes_t (t : List UInt8) : chRes true t = .tuple #[.string (str t), .bool true] := rfl
end Go.Abs

