/- Laws of functions: the bytes of a change, by the reference; both functions that check their arguments. Conditions: the laws of what they call. -/
import Derived.Test.YtogekdhkcndbdaaExactStoreSheetL37
namespace Go.Abs

set_option linter.unusedSimpArgs false
set_option linter.unusedVariables false
set_option maxHeartbeats 8000000
set_option maxRecDepth 20000
/-- The bytes of a change and whether there is one, as results. -/
def chRes (ok : Bool) (t : List UInt8) : Value := if ok = true then .tuple #[.string (str t), .bool true] else .tuple #[.string (str []), .bool false]
end Go.Abs

