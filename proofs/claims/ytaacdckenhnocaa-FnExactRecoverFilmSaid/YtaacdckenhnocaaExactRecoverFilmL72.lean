/- Laws of functions, some texts put together. Conditions: the laws of what they call. -/
import Derived.Test.YtaacdckenhnocaaExactRecoverFilmL69
import Derived.Test.YtaacdckenhnocaaExactRecoverFilmL26
import Derived.Test.YtaacdckenhnocaaExactRecoverFilmL34
namespace Go.Abs
theorem FlR.pre {A S : Heap} (hp : Pre A S) {ev xv yv : Value} {e x y : List Nat} (h : FlR A ev xv yv e x y) : FlR S ev xv yv e x y := by obtain ⟨X, rfl⟩ := hp; exact h.ext X
theorem RInv.pre {A S : Heap} (hp : Pre A S) {lo : Nat} {R : Rws} (h : RInv A lo R) : RInv S lo R := by obtain ⟨X, rfl⟩ := hp; exact h.ext X
end Go.Abs


namespace Go.Abs

set_option linter.unusedSimpArgs false
set_option linter.unusedVariables false
set_option maxHeartbeats 8000000
set_option maxRecDepth 20000
section
variable {C : Ctab} {F : Frame} {τ l : Heap}
theorem EvR.heap {Q} {ops : List SOper} {H H' : Heap} (h : EvR C ops F H' Q) (e : H = H') : EvR C ops F H Q := by subst e; exact h
end
end Go.Abs

