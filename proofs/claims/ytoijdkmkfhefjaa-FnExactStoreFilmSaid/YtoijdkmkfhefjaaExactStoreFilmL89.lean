/- Laws of functions: whether rows of fields are the same. Conditions: the laws of what they call. -/
import Derived.Test.YtoijdkmkfhefjaaExactStoreFilmL88
namespace Go.Abs

set_option linter.unusedSimpArgs false
set_option linter.unusedVariables false
set_option maxHeartbeats 8000000
set_option maxRecDepth 20000
def lowF (fs : List Fld) : Prop := ∀ f ∈ fs, lowF1 f
theorem Ev.base {C : Ctab} {F : Frame} {Q} {code : SCode} {H : Heap} (h : ∀ S, S = H → Ev C code F (S ++ []) Q) : Ev C code F H Q := by
  have := h H rfl
  rwa [List.append_nil] at this
end Go.Abs

