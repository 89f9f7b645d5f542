/- Laws of functions, some texts put together. Conditions: the laws of what they call. -/
import Derived.Test.YtaacdckenhnocaaExactRecoverFilmL36
import Derived.Test.YtaacdckenhnocaaExactRecoverFilmL66
import Derived.Test.YtaacdckenhnocaaExactRecoverFilmL72
import Derived.Test.YtaacdckenhnocaaExactRecoverFilmL34
import Derived.Test.YtaacdckenhnocaaExactRecoverFilmL93
import Derived.Test.YtaacdckenhnocaaExactRecoverFilmL38
namespace Go.Abs

set_option linter.unusedSimpArgs false
set_option linter.unusedVariables false
set_option maxHeartbeats 8000000
set_option maxRecDepth 20000
theorem Ev.base {C : Ctab} {F : Frame} {Q} {code : SCode} {H : Heap} (h : ∀ S, S = H → Ev C code F (S ++ []) Q) : Ev C code F H Q := by
  have := h H rfl
  rwa [List.append_nil] at this
end Go.Abs


namespace Go.Abs

set_option linter.unusedSimpArgs false
set_option linter.unusedVariables false
set_option maxHeartbeats 8000000
set_option maxRecDepth 20000
theorem lows_zero (n : Nat) : lows (List.replicate n 0) := lows_of fun x hx => by
  have := (List.mem_replicate.1 hx).2
  omega
end Go.Abs

