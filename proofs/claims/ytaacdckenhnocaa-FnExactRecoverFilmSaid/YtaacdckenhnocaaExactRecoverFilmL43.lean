/- Law of a row's function: changes that are applied. Conditions: the laws of what it calls. -/
import Derived.Test.YtaacdckenhnocaaExactRecoverFilmL42
import Derived.Test.YtaacdckenhnocaaExactRecoverFilmL38
namespace Go.Abs

set_option linter.unusedSimpArgs false
set_option linter.unusedVariables false
set_option maxHeartbeats 8000000
set_option maxRecDepth 20000


abbrev strK : Bool × List CK := (false, [.str])
theorem str_abs {σ : Heap} {v : Value} (h : argAbs σ false [.str] v) : ∃ l : List UInt8, v = .string (str l) := by
  obtain ⟨cs, h1, h2⟩ := h
  obtain ⟨_, _, rfl, hs, g1⟩ := absAll_cons h1
  cases absAll_nil g1
  simp only [Bool.false_eq_true, if_false, List.cons.injEq, and_true] at h2
  subst h2
  obtain ⟨b, rfl⟩ : ∃ b, _ = Value.string b := by first | exact hs | (obtain ⟨b, hb, _⟩ := hs; exact ⟨b, hb⟩)
  obtain ⟨l, rfl⟩ := str_of b
  exact ⟨l, rfl⟩

end Go.Abs

