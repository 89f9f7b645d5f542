/- Laws of single functions: how long a row takes. Conditions: the laws of what they call. -/
import Derived.Test.YtoijdkmkfhefjaaExactSliceFilmL04
namespace Go.Abs
set_option linter.unusedSimpArgs false
set_option linter.unusedVariables false
set_option maxHeartbeats 8000000
abbrev intK : Bool × List CK := (false, [.int .i64])
theorem int_abs {σ : Heap} {v : Value} (h : argAbs σ false [.int .i64] v) : ∃ n, v = .int .i64 n ∧ inK .i64 n := by
  obtain ⟨cs, h1, h2⟩ := h
  obtain ⟨_, _, rfl, ⟨n, rfl, hn⟩, g1⟩ := absAll_cons h1
  cases absAll_nil g1
  refine ⟨n, ?_, hn⟩
  simp only [Bool.false_eq_true, if_false, List.cons.injEq, and_true] at h2
  exact h2.symm

end Go.Abs

