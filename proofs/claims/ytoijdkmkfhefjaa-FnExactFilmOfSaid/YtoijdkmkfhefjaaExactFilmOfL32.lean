/- Laws of functions: cells by a predicate; outlines, by the program and by the reference. Conditions: the laws of what they call. -/
import Derived.Test.YtoijdkmkfhefjaaExactFilmOfL07
import Derived.Test.YtoijdkmkfhefjaaWvH3
import Derived.Test.YtoijdkmkfhefjaaExactFilmOfL31
import Derived.Test.YtoijdkmkfhefjaaWvX2
namespace Go.Abs

set_option linter.unusedSimpArgs false
set_option linter.unusedVariables false
set_option maxHeartbeats 8000000
theorem atC_bd {W H : Nat} {u v : Int} (hW : 3 ≤ W) (hH : 3 ≤ H) (u1 : -1 ≤ u) (u2 : u ≤ W) (v1 : -1 ≤ v) (v2 : v ≤ H) : 0 ≤ atC W H u v ∧ atC W H u v < ((W * H : Nat) : Int) := by
  unfold atC
  rw [wrapC (by omega) u1 u2, wrapC (by omega) v1 v2]
  obtain ⟨x, hx, ex⟩ : ∃ x : Nat, x < W ∧ (if u = -1 then (W : Int) - 1 else if u = W then 0 else u) = x := by
    refine ⟨(if u = -1 then (W : Int) - 1 else if u = W then 0 else u).toNat, ?_, ?_⟩ <;> split <;> (try split) <;> omega
  obtain ⟨y, hy, ey⟩ : ∃ y : Nat, y < H ∧ (if v = -1 then (H : Int) - 1 else if v = H then 0 else v) = y := by
    refine ⟨(if v = -1 then (H : Int) - 1 else if v = H then 0 else v).toNat, ?_, ?_⟩ <;> split <;> (try split) <;> omega
  rw [ex, ey]
  have := cell_lt hx hy
  have e : (W : Int) * (y : Int) = ((W * y : Nat) : Int) := (Int.natCast_mul _ _).symm
  omega
end Go.Abs

