/- The plain law of outlines: a cell has a neighbour that differs among the four beside it, if and only if it has one among all cells at one step. No program. -/
import Derived.Test.YtnibmlgdnhiglaaExactPaintedCellsL13
namespace Go.Abs
set_option maxHeartbeats 4000000

theorem wrapC {w u : Int} (hw : 3 ≤ w) (h1 : -1 ≤ u) (h2 : u ≤ w) : (u + w).tmod w = if u = -1 then w - 1 else if u = w then 0 else u := by
  rw [Int.tmod_eq_emod_of_nonneg (by omega), Int.add_emod_right]
  split
  · subst u
    rw [show (-1 : Int) = (w - 1) + w * (-1) from by omega, Int.add_mul_emod_self_left, Int.emod_eq_of_lt (by omega) (by omega)]
  · split
    · subst u; exact Int.emod_self
    · exact Int.emod_eq_of_lt (by omega) (by omega)

theorem atC_nat {W H x y : Nat} (hW : 3 ≤ W) (hH : 3 ≤ H) (hx : x < W) (hy : y < H) : (atC W H x y).toNat = W * y + x := by
  unfold atC
  rw [wrapC (by omega) (by omega) (by omega), wrapC (by omega) (by omega) (by omega), if_neg (by omega), if_neg (by omega), if_neg (by omega), if_neg (by omega)]
  have : (W : Int) * (y : Int) = ((W * y : Nat) : Int) := (Int.natCast_mul _ _).symm
  omega
end Go.Abs

