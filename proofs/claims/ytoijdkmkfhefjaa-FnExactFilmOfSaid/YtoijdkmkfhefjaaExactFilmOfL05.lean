/- Laws of single functions: how long a row takes. Conditions: the laws of what they call. -/
import Derived.Test.YtoijdkmkfhefjaaExactFilmOfL04
namespace Go.Abs
set_option linter.unusedSimpArgs false
set_option linter.unusedVariables false
set_option maxHeartbeats 8000000
theorem atC_in {w h x y : Int} (x0 : 0 ≤ x) (x1 : x < w) (y0 : 0 ≤ y) (y1 : y < h) : atC w h x y = x + w * y := by
  unfold atC
  rw [Int.tmod_eq_emod_of_nonneg (by omega), Int.add_emod_right, Int.emod_eq_of_lt x0 x1, Int.tmod_eq_emod_of_nonneg (by omega), Int.add_emod_right, Int.emod_eq_of_lt y0 y1]
abbrev sheetK : Bool × List CK := (true, [.int .i64, .int .i64, .bool, .rowF .f32, .rowF .f32])
theorem sheet_abs {σ : Heap} {v : Value} (h : argAbs σ true [.int .i64, .int .i64, .bool, .rowF .f32, .rowF .f32] v) :
    ∃ w h wr sv lv sp lo, v = shV w h wr sv lv ∧ ShR σ sv lv sp lo ∧ sp.length ≤ 9223372036854775807 ∧ lo.length ≤ 9223372036854775807 ∧ inK .i64 w ∧ inK .i64 h := by
  obtain ⟨cs, h1, h2⟩ := h
  obtain ⟨_, _, rfl, ⟨w, rfl, hw⟩, g1⟩ := absAll_cons h1
  obtain ⟨_, _, rfl, ⟨h, rfl, hh⟩, g2⟩ := absAll_cons g1
  obtain ⟨_, _, rfl, ⟨wr, rfl⟩, g3⟩ := absAll_cons g2
  obtain ⟨_, _, rfl, ⟨sp, hs, hs2, _⟩, g4⟩ := absAll_cons g3
  obtain ⟨_, _, rfl, ⟨lo, hl, hl2, _⟩, g5⟩ := absAll_cons g4
  cases absAll_nil g5
  rw [maxLen_eq] at hs2 hl2
  exact ⟨w, h, wr, _, _, sp, lo, h2, ⟨hs, hl⟩, hs2, hl2, hw, hh⟩
abbrev intK : Bool × List CK := (false, [.int .i64])
theorem int_abs {σ : Heap} {v : Value} (h : argAbs σ false [.int .i64] v) : ∃ n, v = .int .i64 n ∧ inK .i64 n := by
  obtain ⟨cs, h1, h2⟩ := h
  obtain ⟨_, _, rfl, ⟨n, rfl, hn⟩, g1⟩ := absAll_cons h1
  cases absAll_nil g1
  refine ⟨n, ?_, hn⟩
  simp only [Bool.false_eq_true, if_false, List.cons.injEq, and_true] at h2
  exact h2.symm

end Go.Abs

