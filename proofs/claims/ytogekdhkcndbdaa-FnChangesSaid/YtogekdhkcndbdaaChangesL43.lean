/- Law of a row's function: changes that are applied. Conditions: the laws of what it calls. -/
import Derived.Test.YtogekdhkcndbdaaChangesL41
import Derived.Test.YtogekdhkcndbdaaChangesL39
namespace Go.Abs

set_option linter.unusedSimpArgs false
set_option linter.unusedVariables false
set_option maxHeartbeats 8000000
set_option maxRecDepth 20000


theorem afRes_n (b : Nat) : afRes b none = .tuple #[.slice none 0 0, .bool false] := rfl
end Go.Abs

