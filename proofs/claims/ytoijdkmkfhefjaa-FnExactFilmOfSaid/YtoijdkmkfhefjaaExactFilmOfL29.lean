/- Law of a row's function: strips that are put. Conditions: the laws of what it calls. -/
import Derived.Test.YtoijdkmkfhefjaaExactFilmOfL27
namespace Go.Abs

set_option linter.unusedSimpArgs false
set_option linter.unusedVariables false
set_option maxHeartbeats 16000000
set_option maxRecDepth 100000


abbrev fieldK : Bool × List CK := (true, [.rowF .f32, .rowF .f32, .rowF .f32])
theorem field_abs {σ : Heap} {v : Value} (h : argAbs σ true [.rowF .f32, .rowF .f32, .rowF .f32] v) :
    ∃ ev xv yv e x y, v = fV ev xv yv ∧ FlR σ ev xv yv e x y ∧ e.length ≤ 9223372036854775807 ∧ x.length ≤ 9223372036854775807 ∧ y.length ≤ 9223372036854775807 := by
  obtain ⟨cs, h1, h2⟩ := h
  obtain ⟨_, _, rfl, ⟨e, he, he2, _⟩, g6⟩ := absAll_cons h1
  obtain ⟨_, _, rfl, ⟨x, hx, hx2, _⟩, g7⟩ := absAll_cons g6
  obtain ⟨_, _, rfl, ⟨y, hy, hy2, _⟩, g8⟩ := absAll_cons g7
  cases absAll_nil g8
  rw [maxLen_eq] at he2 hx2 hy2
  exact ⟨_, _, _, e, x, y, h2, ⟨he, hx, hy⟩, he2, hx2, hy2⟩
end Go.Abs

