/- Laws of functions: whether films are the same, by the program and by the reference. Conditions: the laws of what they call. -/
import Derived.Test.YtoijdkmkfhefjaaExactStoreFilmL89
import Derived.Test.YtoijdkmkfhefjaaExactStoreFilmL75
namespace Go.Abs

set_option linter.unusedSimpArgs false
set_option linter.unusedVariables false
set_option maxHeartbeats 8000000
set_option maxRecDepth 20000
theorem flsC_low {σ : Heap} : ∀ {fs : List Fl3} {cs : List Value}, flsAbs σ fs cs → lowF (fs.map fl3)
  | [], [], _ => fun f hf => by simp at hf
  | g :: _, _ :: _ :: _ :: _, h => fun f hf => by
    rw [List.map_cons, List.mem_cons] at hf
    rcases hf with rfl | hf
    · exact ⟨in32N_of fun x hx => wf32 (h.1.2.2 x hx), in32N_of fun x hx => wf32 (h.2.1.2.2 x hx), in32N_of fun x hx => wf32 (h.2.2.1.2.2 x hx)⟩
    · exact flsC_low h.2.2.2 f hf
  | [], _ :: _, h => h.elim
  | _ :: _, [], h => h.elim
  | _ :: _, [_], h => h.elim
  | _ :: _, [_, _], h => h.elim
theorem film_absL {σ : Heap} {v : Value} (h : argAbs σ true [.int .i64, .int .i64, .bool, .rowF .f32, .rowF .f32, .rowFl] v) :
    ∃ w h wr sv lv fv sp lo fs, v = fmV w h wr sv lv fv ∧ ShR σ sv lv sp lo ∧ FlsR σ fv fs ∧ sp.length ≤ 9223372036854775807 ∧ lo.length ≤ 9223372036854775807 ∧ bigF fs ∧ in32 sp ∧ in32 lo ∧ lowF fs := by
  obtain ⟨cs, h1, h2⟩ := h
  obtain ⟨_, _, rfl, ⟨w, rfl, hw⟩, g1⟩ := absAll_cons h1
  obtain ⟨_, _, rfl, ⟨h, rfl, hh⟩, g2⟩ := absAll_cons g1
  obtain ⟨_, _, rfl, ⟨wr, rfl⟩, g3⟩ := absAll_cons g2
  obtain ⟨_, _, rfl, ⟨sp, hs, hs2, hs3⟩, g4⟩ := absAll_cons g3
  obtain ⟨_, _, rfl, ⟨lo, hl, hl2, hl3⟩, g5⟩ := absAll_cons g4
  obtain ⟨_, _, rfl, ⟨fs, cs', hr, hf, hn⟩, g6⟩ := absAll_cons g5
  cases absAll_nil g6
  rw [maxLen_eq] at hs2 hl2 hn
  exact ⟨w, h, wr, _, _, _, sp, lo, fs.map fl3, h2, ⟨hs, hl⟩, ⟨cs', by rw [List.length_map]; exact hr, flsC_abs hf⟩, hs2, hl2, ⟨by rw [List.length_map]; exact hn, flsC_big hf⟩, fun x hx => wf32 (hs3 x hx), fun x hx => wf32 (hl3 x hx), flsC_low hf⟩
end Go.Abs

