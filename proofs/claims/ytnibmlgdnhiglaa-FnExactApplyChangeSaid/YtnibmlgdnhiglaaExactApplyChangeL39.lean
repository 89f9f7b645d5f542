/- Law of a row's function: bytes of changes. Conditions: the laws of what it calls. -/
import Derived.Test.YtnibmlgdnhiglaaExactApplyChangeL38
namespace Go.Abs

set_option linter.unusedSimpArgs false
set_option linter.unusedVariables false
set_option maxHeartbeats 8000000
set_option maxRecDepth 20000
abbrev floatsK : Bool × List CK := (false, [.rowF .f32])
theorem floats_abs {σ : Heap} {v : Value} (h : argAbs σ false [.rowF .f32] v) : ∃ xs : List Nat, Row σ 1 v xs.length (f32s xs) ∧ xs.length ≤ 9223372036854775807 ∧ lows xs := by
  obtain ⟨cs, h1, h2⟩ := h
  obtain ⟨_, _, rfl, ⟨xs, hs, hs2, hs3⟩, g1⟩ := absAll_cons h1
  cases absAll_nil g1
  rw [maxLen_eq] at hs2
  simp only [Bool.false_eq_true, if_false, List.cons.injEq, and_true] at h2
  subst h2
  exact ⟨xs, hs, hs2, lows_of fun x hx => wf32 (hs3 x hx)⟩

end Go.Abs

