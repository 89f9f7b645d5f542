/- Law of a row's function: ramps. Conditions: the laws of what it calls. -/
import Derived.Test.YtdlicidmkakooaaExactTravelFieldL08
namespace Go.Abs
set_option linter.unusedSimpArgs false
set_option linter.unusedVariables false
set_option maxHeartbeats 8000000

abbrev floatK : Bool × List CK := (false, [.float .f32])
theorem float_abs {σ : Heap} {v : Value} (h : argAbs σ false [.float .f32] v) : ∃ n, v = .float .f32 n ∧ (Lit.float .f32 n).wf = true := by
  obtain ⟨cs, h1, h2⟩ := h
  obtain ⟨_, _, rfl, ⟨n, rfl, hn⟩, g1⟩ := absAll_cons h1
  cases absAll_nil g1
  refine ⟨n, ?_, hn⟩
  simp only [Bool.false_eq_true, if_false, List.cons.injEq, and_true] at h2
  exact h2.symm

end Go.Abs

