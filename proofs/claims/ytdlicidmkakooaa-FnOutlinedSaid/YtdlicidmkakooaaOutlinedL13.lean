/- Laws of single functions: whether a field is one of a sheet, by the reference. Conditions: the laws of what they call. -/
import Derived.Test.YtdlicidmkakooaaOutlinedL12
namespace Go.Abs

set_option linter.unusedSimpArgs false
set_option linter.unusedVariables false
set_option maxHeartbeats 8000000
theorem mod_at {W y x : Nat} (hx : x < W) : (W * y + x) % W = x := by rw [Nat.mul_add_mod, Nat.mod_eq_of_lt hx]
theorem div_at {W y x : Nat} (hx : x < W) : (W * y + x) / W = y := by
  rw [Nat.mul_add_div (by omega), Nat.div_eq_of_lt hx, Nat.add_zero]
theorem cell_lt {W H x y : Nat} (hx : x < W) (hy : y < H) : W * y + x < W * H := by
  calc W * y + x < W * y + W := by omega
    _ = W * (y + 1) := (Nat.mul_succ W y).symm
    _ ≤ W * H := Nat.mul_le_mul_left W hy
/-- What is to be known of a cell's index. -/
theorem cell_ix {W H x y : Nat} (hx : x < W) (hy : y < H) : (x : Int) + (W : Int) * (y : Int) < (W : Int) * (H : Int) ∧ 0 ≤ (W : Int) * (y : Int) ∧ ((x : Int) + (W : Int) * (y : Int)).toNat = W * y + x ∧ (W : Int) * (y : Int) ≤ (W : Int) * (H : Int) := by
  have h := cell_lt hx hy
  have e1 : ((W * y : Nat) : Int) = (W : Int) * (y : Int) := Int.natCast_mul _ _
  have e2 : ((W * H : Nat) : Int) = (W : Int) * (H : Int) := Int.natCast_mul _ _
  have h2 : W * y ≤ W * H := Nat.mul_le_mul_left W (Nat.le_of_lt hy)
  omega

end Go.Abs

