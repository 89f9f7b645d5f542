/- Laws of functions: strips are put into fields by the program. Conditions: the laws of what they call. -/
import Derived.Test.YtoijdkmkfhefjaaExactStoreFilmL26
namespace Go.Abs

set_option linter.unusedSimpArgs false
set_option linter.unusedVariables false
set_option maxHeartbeats 8000000


section
variable {C : Ctab} {F : Frame} {τ l : Heap}
end

theorem isField_len {w h : Int} {wr : Bool} {sp lo e x y : List Nat} (h1 : isField w h wr sp lo e x y = true) : isSheet w h sp lo = true ∧ (e.length : Int) = w * h ∧ (x.length : Int) = w * h ∧ (y.length : Int) = w * h := by
  simp only [isField, Bool.and_eq_true] at h1
  obtain ⟨hs, hf⟩ := h1
  obtain ⟨a1, a2, a3, a4, q1, q2⟩ := isSheet_sides hs
  obtain ⟨W, rfl⟩ := Int.eq_ofNat_of_zero_le (show 0 ≤ w by omega)
  obtain ⟨H, rfl⟩ := Int.eq_ofNat_of_zero_le (show 0 ≤ h by omega)
  have hWH : ((W * H : Nat) : Int) = (W : Int) * (H : Int) := Int.natCast_mul _ _
  refine ⟨hs, ?_⟩
  by_cases hl : e.length = W * H ∧ x.length = W * H ∧ y.length = W * H
  · omega
  · have := fits_len (wr := wr) hl
    rw [Int.toNat_natCast, Int.toNat_natCast, this] at hf
    cases hf
end Go.Abs

