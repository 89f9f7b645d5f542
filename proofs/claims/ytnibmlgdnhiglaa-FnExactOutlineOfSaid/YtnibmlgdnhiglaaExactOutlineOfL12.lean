/- Laws of single functions: whether a field is one of a sheet. Conditions: the laws of what they call. -/
import Derived.Test.YtnibmlgdnhiglaaExactOutlineOfL10
import Derived.Test.YtnibmlgdnhiglaaWvH2
namespace Go.Abs
set_option linter.unusedSimpArgs false
set_option linter.unusedVariables false
set_option maxHeartbeats 8000000
attribute [push_cast] Int.toNat_natCast
theorem cell_bd2 {W H i : Nat} (h : i < W * H) (hW : 3 ≤ W) : 0 ≤ (i : Int) % W ∧ (i : Int) % W < W ∧ 0 ≤ (i : Int) / W ∧ (i : Int) / W < H := by
  have h1 : i % W < W := Nat.mod_lt _ (by omega)
  have h2 : i / W < H := Nat.div_lt_of_lt_mul h
  have h3 : 0 ≤ (i : Int) / (W : Int) := Int.ediv_nonneg (by omega) (by omega)
  have h4 : 0 ≤ (i : Int) % (W : Int) := Int.emod_nonneg _ (by omega)
  have e1 : ((i % W : Nat) : Int) = (i : Int) % W := Int.natCast_emod i W
  have e2 : ((i / W : Nat) : Int) = (i : Int) / W := Int.natCast_ediv i W
  omega

end Go.Abs

