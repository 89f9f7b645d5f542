/- Laws of functions: checks of bytes; the numbers of a field in one row. Conditions: the laws of what they call. -/
import Derived.Test.YtdlicidmkakooaaExactTravelFieldWvH3
import Derived.Test.YtdlicidmkakooaaExactTravelFieldL05
import Derived.Test.YtdlicidmkakooaaExactTravelFieldL36
import Derived.Test.YtdlicidmkakooaaExactTravelFieldL27
namespace Go.Abs

set_option linter.unusedSimpArgs false
set_option linter.unusedVariables false
set_option maxHeartbeats 8000000
set_option maxRecDepth 20000
/- loop.example/g01201/impl.zeroField -/
def impl_zeroField_r0 : List SOper := [
 ⟨some 1, none, .box (.tmp 0), 0⟩,
 ⟨some 2, none, .alloc [(.slice none 0 0), (.slice none 0 0), (.slice none 0 0)], 0⟩]
def impl_zeroField_r1 : List SOper := [
 ⟨some 4, none, .fieldAddr 0 (.tmp 1), 0⟩,
 ⟨some 5, none, .load1 (.tmp 4), 1⟩,
 ⟨some 6, none, .fieldAddr 1 (.tmp 1), 0⟩,
 ⟨some 7, none, .load1 (.tmp 6), 4⟩,
 ⟨some 8, none, .bin .mul .other (.tmp 5) (.tmp 7), 15⟩,
 ⟨some 3, none, .mov (.tmp 8), 31⟩]
def impl_zeroField_r2 : List SOper := [
 ⟨some 9, none, .mov (.tmp 3), 0⟩,
 ⟨some 10, none, .makeSlice 1 4 [(.float .f32 0)] (.tmp 9) (.tmp 9), 1⟩,
 ⟨some 11, none, .mov (.tmp 3), 0⟩,
 ⟨some 12, none, .makeSlice 1 4 [(.float .f32 0)] (.tmp 11) (.tmp 11), 4⟩,
 ⟨some 13, none, .mov (.tmp 3), 0⟩,
 ⟨some 14, none, .makeSlice 1 4 [(.float .f32 0)] (.tmp 13) (.tmp 13), 16⟩,
 ⟨some 15, none, .build [(.slice none 0 0), (.slice none 0 0), (.slice none 0 0)] [(0, 1, (.tmp 10)), (1, 1, (.tmp 12)), (2, 1, (.tmp 14))], 63⟩,
 ⟨none, none, .store 3 (.tmp 2) (.tmp 15), 127⟩]
def impl_zeroField : SFunc := ⟨16, [.cellN 2 3], (.kp [0] (.seq (.region impl_zeroField_r0 false) (.kp [1,2] (.seq (.region impl_zeroField_r1 false) (.kp [2,3] (.seq (.region impl_zeroField_r2 true) .ret))))))⟩
theorem impl_zeroField_r2_dr : (drawOkS impl_zeroField_r2 && storesOnly impl_zeroField_r2) = true := by kernel_rfl
attribute [push_cast] impl_zeroField_r2_dr
def impl_zeroField_ok (c : Contract) : Prop := ∀ (σ : Heap) (W H N : Nat) (wr : Bool) (sv lv : Value), cellOk sv = true → cellOk lv = true → W ≤ 16 → H ≤ 16 → W * H = N →
    Ret c [shV W H wr sv lv] σ fun v σ' => v = fV (slV σ.length N) (slV (σ.length + 1) N) (slV (σ.length + 2) N) ∧ σ' = σ ++ [rowO (List.replicate N 0), rowO (List.replicate N 0), rowO (List.replicate N 0)]
theorem impl_zeroField_law {C : Ctab} : impl_zeroField_ok (gcC C impl_zeroField true) := by
  intro σ W H N wr sv lv k1 k2 hW hH hN
  have hN2 : W * H ≤ 256 := Nat.mul_le_mul hW hH
  have hWH : (W : Int) * (H : Int) = (N : Int) := by rw [← hN, Int.natCast_mul]
  refine ret_gc rfl rfl ?_
  repeat' (first | refine ff ?_ | ((first | refine sR ?_ ?_ | refine sC ?_ ?_) <;> (intro hb; (try rw [hb]); (try simp only [bb] at hb); (try (exfalso; first | omega | exact hb trivial)))) | (apply endS trivial; rotate_left; (· exact eva); (· rfl); try refine ⟨?_, rfl⟩) | fail)
  rw [hWH, Int.toNat_natCast, show List.replicate N (Value.float .f32 0) = f32s (List.replicate N 0) from by simp [f32s]]
  (apply endR [2, 3, 4] trivial ⟨rfl, rfl⟩; (· exact eva); (· simp [gcTop, gcVal, gcLeaf, gcLeaves, gcVals, constOk, gc_lt, gc_lt0]); (· rfl); (· decide); (· simp [allConst, f32s, i64s, b8s, bools, constOk]))
end Go.Abs

