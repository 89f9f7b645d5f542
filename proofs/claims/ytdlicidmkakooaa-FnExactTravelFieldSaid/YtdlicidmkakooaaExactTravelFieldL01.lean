/- Laws of single functions: paints. Conditions: the laws of what they call. -/
import Derived.Test.YtdlicidmkakooaaExactTravelFieldWvMF
namespace Go.Abs
set_option linter.unusedSimpArgs false
set_option linter.unusedVariables false
set_option maxHeartbeats 8000000
def share (a b : Nat) : Bool := fge .f32 a 0 && fle .f32 a b
/-- What a row's function does whatever its arguments. -/
def AlwaysTrue (sh : List (Bool × List CK)) (c : Contract) : Prop := ∀ σ avs, argsAbs σ sh avs → Ret c avs σ fun v _ => v = .bool true

end Go.Abs

