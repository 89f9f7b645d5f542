/- Laws of functions: a film gets one field more, by the program and by the reference. Conditions: the laws of what they call. -/
import Derived.Test.YtoijdkmkfhefjaaExactStoreFilmL69
namespace Go.Abs

set_option linter.unusedSimpArgs false
set_option linter.unusedVariables false
set_option maxHeartbeats 8000000
set_option maxRecDepth 20000
theorem isFilm_len {w h : Int} {wr : Bool} {sp lo : List Nat} {fs : List Fld} (h : isFilm w h wr sp lo fs = true) : fs.length ≤ 16 := by
  unfold isFilm at h
  simp only [Bool.and_eq_true, decide_eq_true_eq] at h
  exact h.1.2
theorem isFilm_sheet {w h : Int} {wr : Bool} {sp lo : List Nat} {fs : List Fld} (h' : isFilm w h wr sp lo fs = true) : isSheet w h sp lo = true := by
  unfold isFilm at h'
  simp only [Bool.and_eq_true] at h'
  exact h'.1.1
end Go.Abs

