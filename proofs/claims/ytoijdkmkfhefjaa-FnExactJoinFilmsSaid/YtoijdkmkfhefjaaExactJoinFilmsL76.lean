/- Films as arguments, with numbers of 32 bits; films joined: sizes. Conditions: as at each theorem. -/
import Derived.Test.YtoijdkmkfhefjaaExactJoinFilmsL75
namespace Go.Abs
theorem film_absW {σ : Heap} {v : Value} (h : argAbs σ true [.int .i64, .int .i64, .bool, .rowF .f32, .rowF .f32, .rowFl] v) :
    ∃ w h wr sv lv fv sp lo fs, v = fmV w h wr sv lv fv ∧ ShR σ sv lv sp lo ∧ FlsR σ fv fs ∧ sp.length ≤ 9223372036854775807 ∧ lo.length ≤ 9223372036854775807 ∧ bigF fs ∧ in32 sp ∧ in32 lo := by
  obtain ⟨cs, h1, h2⟩ := h
  obtain ⟨_, _, rfl, ⟨w, rfl, hw⟩, g1⟩ := absAll_cons h1
  obtain ⟨_, _, rfl, ⟨h, rfl, hh⟩, g2⟩ := absAll_cons g1
  obtain ⟨_, _, rfl, ⟨wr, rfl⟩, g3⟩ := absAll_cons g2
  obtain ⟨_, _, rfl, ⟨sp, hs, hs2, hs3⟩, g4⟩ := absAll_cons g3
  obtain ⟨_, _, rfl, ⟨lo, hl, hl2, hl3⟩, g5⟩ := absAll_cons g4
  obtain ⟨_, _, rfl, ⟨fs, cs', hr, hf, hn⟩, g6⟩ := absAll_cons g5
  cases absAll_nil g6
  rw [maxLen_eq] at hs2 hl2 hn
  exact ⟨w, h, wr, _, _, _, sp, lo, fs.map fl3, h2, ⟨hs, hl⟩, ⟨cs', by rw [List.length_map]; exact hr, flsC_abs hf⟩, hs2, hl2, ⟨by rw [List.length_map]; exact hn, flsC_big hf⟩, fun x hx => wf32 (hs3 x hx), fun x hx => wf32 (hl3 x hx)⟩
theorem fitsF_join {w h : Int} {wr : Bool} {sp lo : List Nat} {fs : List Fld} {w' h' : Int} {wr' : Bool} {sp' lo' : List Nat} {fs' : List Fld} (hk : joinOk w h wr sp lo fs w' h' wr' sp' lo' fs' = true) (h1 : fitsF fs) (h2 : fitsF fs') : fitsF (fs ++ fs') := by
  simp only [joinOk, Bool.and_eq_true, decide_eq_true_eq] at hk
  refine ⟨by rw [List.length_append]; omega, fun g hg => ?_⟩
  rcases List.mem_append.1 hg with hg | hg
  · exact h1.2 g hg
  · exact h2.2 g hg
end Go.Abs

