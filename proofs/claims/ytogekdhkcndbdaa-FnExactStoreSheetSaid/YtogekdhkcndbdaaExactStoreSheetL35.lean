/- Law of a row's function: cells that have a paint. Conditions: the laws of what it calls. -/
import Derived.Test.YtogekdhkcndbdaaExactStoreSheetL34
import Derived.Test.YtogekdhkcndbdaaExactStoreSheetL07
import Derived.Test.YtogekdhkcndbdaaExactStoreSheetL12
import Derived.Test.YtogekdhkcndbdaaWvH3
import Derived.Test.YtogekdhkcndbdaaExactStoreSheetL14
namespace Go.Abs

set_option linter.unusedSimpArgs false
set_option linter.unusedVariables false
set_option maxHeartbeats 8000000


theorem sheet_absW {σ : Heap} {v : Value} (h : argAbs σ true [.int .i64, .int .i64, .bool, .rowF .f32, .rowF .f32] v) :
    ∃ w h wr sv lv sp lo, v = shV w h wr sv lv ∧ ShR σ sv lv sp lo ∧ sp.length ≤ 9223372036854775807 ∧ lo.length ≤ 9223372036854775807 ∧ inK .i64 w ∧ inK .i64 h ∧ (∀ x ∈ sp, x < 4294967296) ∧ (∀ x ∈ lo, x < 4294967296) := by
  obtain ⟨cs, h1, h2⟩ := h
  obtain ⟨_, _, rfl, ⟨w, rfl, hw⟩, g1⟩ := absAll_cons h1
  obtain ⟨_, _, rfl, ⟨h, rfl, hh⟩, g2⟩ := absAll_cons g1
  obtain ⟨_, _, rfl, ⟨wr, rfl⟩, g3⟩ := absAll_cons g2
  obtain ⟨_, _, rfl, ⟨sp, hs, hs2, hs3⟩, g4⟩ := absAll_cons g3
  obtain ⟨_, _, rfl, ⟨lo, hl, hl2, hl3⟩, g5⟩ := absAll_cons g4
  cases absAll_nil g5
  rw [maxLen_eq] at hs2 hl2
  exact ⟨w, h, wr, _, _, sp, lo, h2, ⟨hs, hl⟩, hs2, hl2, hw, hh, fun x hx => wf32 (hs3 x hx), fun x hx => wf32 (hl3 x hx)⟩

end Go.Abs

