/- The plain law of outlines: a cell has a neighbour that differs among the four beside it, if and only if it has one among all cells at one step. No program. -/
import Derived.Test.YtoijdkmkfhefjaaExactFilmOfL13
namespace Go.Abs
set_option maxHeartbeats 4000000

theorem wrapC {w u : Int} (hw : 3 ≤ w) (h1 : -1 ≤ u) (h2 : u ≤ w) : (u + w).tmod w = if u = -1 then w - 1 else if u = w then 0 else u := by
  rw [Int.tmod_eq_emod_of_nonneg (by omega), Int.add_emod_right]
  split
  · subst u
    rw [show (-1 : Int) = (w - 1) + w * (-1) from by omega, Int.add_mul_emod_self_left, Int.emod_eq_of_lt (by omega) (by omega)]
  · split
    · subst u; exact Int.emod_self
    · exact Int.emod_eq_of_lt (by omega) (by omega)

end Go.Abs

