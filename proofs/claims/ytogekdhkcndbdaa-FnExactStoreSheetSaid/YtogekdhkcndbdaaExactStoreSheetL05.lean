/- Laws of single functions: how long a row takes. Conditions: the laws of what they call. -/
import Derived.Test.YtogekdhkcndbdaaExactStoreSheetL04
namespace Go.Abs
set_option linter.unusedSimpArgs false
set_option linter.unusedVariables false
set_option maxHeartbeats 8000000
abbrev sheetK : Bool × List CK := (true, [.int .i64, .int .i64, .bool, .rowF .f32, .rowF .f32])
end Go.Abs

