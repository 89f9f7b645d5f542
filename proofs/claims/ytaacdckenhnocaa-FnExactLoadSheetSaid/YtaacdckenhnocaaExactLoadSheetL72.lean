/- What rows of films need beside: fields as arguments, a few rows side by side. Conditions: as at each theorem. -/
import Derived.Test.YtaacdckenhnocaaExactLoadSheetL69
import Derived.Test.YtaacdckenhnocaaExactLoadSheetL26
namespace Go.Abs
theorem FlR.pre {A S : Heap} (hp : Pre A S) {ev xv yv : Value} {e x y : List Nat} (h : FlR A ev xv yv e x y) : FlR S ev xv yv e x y := by obtain ⟨X, rfl⟩ := hp; exact h.ext X
theorem RInv.pre {A S : Heap} (hp : Pre A S) {lo : Nat} {R : Rws} (h : RInv A lo R) : RInv S lo R := by obtain ⟨X, rfl⟩ := hp; exact h.ext X
end Go.Abs

