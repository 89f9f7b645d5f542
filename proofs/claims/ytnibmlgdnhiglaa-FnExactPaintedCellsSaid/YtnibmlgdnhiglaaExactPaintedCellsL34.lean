/- Laws of functions: bits of numbers and whether numbers are the same; the cells that have a paint. Conditions: the laws of what they call. -/
import Derived.Test.YtnibmlgdnhiglaaExactPaintedCellsL32
import Derived.Test.YtnibmlgdnhiglaaWvMF
import Derived.Test.YtnibmlgdnhiglaaExactPaintedCellsL17
namespace Go.Abs

set_option linter.unusedSimpArgs false
set_option linter.unusedVariables false
set_option maxHeartbeats 8000000
/- math.Signbit -/
def math_Signbit_r0 : List SOper := [
  ⟨(some 2), none, .mov (.const (.bool false)), 0⟩]
def math_Signbit_r1 (i_math_Float64bits : FuncId) : List SOper := [
  ⟨(some 3), none, .mov (.tmp 0), 0⟩,
  ⟨(some 4), none, .call (.func i_math_Float64bits) [(.tmp 3)], 1⟩,
  ⟨(some 5), none, .conv (.toInt .i64) (.tmp 4), 3⟩,
  ⟨(some 6), none, .bin .lss .other (.tmp 5) (.const (.int .i64 0)), 7⟩,
  ⟨(some 2), none, .mov (.tmp 6), 15⟩]
def math_Signbit (i_math_Float64bits : FuncId) : SFunc := ⟨7, [.tmp 2], (.kp [0] (.seq (.region math_Signbit_r0 false) (.kp [0] (.seq (.region (math_Signbit_r1 i_math_Float64bits) false) .ret))))⟩

/- loop.example/g01201/impl.SameNumber -/
def impl_SameNumber_r0 : List SOper := [
  ⟨(some 4), none, .mov (.const (.bool false)), 0⟩]
def impl_SameNumber_r1 : List SOper := [
  ⟨(some 5), none, .mov (.tmp 0), 0⟩,
  ⟨(some 6), none, .mov (.tmp 0), 0⟩,
  ⟨(some 7), none, .bin .neq .other (.tmp 5) (.tmp 6), 3⟩,
  ⟨(some 8), none, .mov (.tmp 7), 7⟩,
  ⟨(some 9), (some (8, false)), .mov (.tmp 1), 15⟩,
  ⟨(some 10), (some (8, false)), .mov (.tmp 1), 15⟩,
  ⟨(some 11), (some (8, false)), .bin .neq .other (.tmp 9) (.tmp 10), 63⟩,
  ⟨(some 12), none, .pick (.tmp 8) (.const (.bool true)) (.tmp 11), 127⟩]
def impl_SameNumber_r2 : List SOper := [
  ⟨(some 13), none, .mov (.tmp 0), 0⟩,
  ⟨(some 14), none, .mov (.tmp 0), 0⟩,
  ⟨(some 15), none, .bin .neq .other (.tmp 13) (.tmp 14), 3⟩,
  ⟨(some 16), none, .mov (.tmp 15), 7⟩,
  ⟨(some 17), (some (16, true)), .mov (.tmp 1), 15⟩,
  ⟨(some 18), (some (16, true)), .mov (.tmp 1), 15⟩,
  ⟨(some 19), (some (16, true)), .bin .neq .other (.tmp 17) (.tmp 18), 63⟩,
  ⟨(some 20), none, .pick (.tmp 16) (.tmp 19) (.const (.bool false)), 127⟩,
  ⟨(some 4), none, .mov (.tmp 20), 255⟩]
def impl_SameNumber_r3 (i_math_Signbit : FuncId) : List SOper := [
  ⟨(some 21), none, .mov (.tmp 0), 0⟩,
  ⟨(some 22), none, .mov (.tmp 1), 0⟩,
  ⟨(some 23), none, .bin .eql .other (.tmp 21) (.tmp 22), 3⟩,
  ⟨(some 24), none, .mov (.tmp 23), 7⟩,
  ⟨(some 25), (some (24, true)), .mov (.tmp 0), 15⟩,
  ⟨(some 26), (some (24, true)), .conv (.toFloat .f64) (.tmp 25), 31⟩,
  ⟨(some 27), (some (24, true)), .call (.func i_math_Signbit) [(.tmp 26)], 63⟩,
  ⟨(some 28), (some (24, true)), .mov (.tmp 1), 15⟩,
  ⟨(some 29), (some (24, true)), .conv (.toFloat .f64) (.tmp 28), 143⟩,
  ⟨(some 30), (some (24, true)), .call (.func i_math_Signbit) [(.tmp 29)], 511⟩,
  ⟨(some 31), (some (24, true)), .bin .eql .bool (.tmp 27) (.tmp 30), 1023⟩,
  ⟨(some 32), none, .pick (.tmp 24) (.tmp 31) (.const (.bool false)), 2047⟩,
  ⟨(some 4), none, .mov (.tmp 32), 4095⟩]
def impl_SameNumber (i_math_Signbit : FuncId) : SFunc := ⟨33, [.tmp 4], (.kp [0, 1] (.seq (.region impl_SameNumber_r0 false) (.kp [0, 1] (.seq (.seq (.region impl_SameNumber_r1 false) (.kp [0, 1, 12] (.cond (.tmp 12) (.seq (.region impl_SameNumber_r2 false) .ret) .skip))) (.kp [0, 1] (.seq (.region (impl_SameNumber_r3 i_math_Signbit) false) .ret))))))⟩

/- loop.example/g01201/spec.l01Bits -/
def spec_l01Bits_r0 : List SOper := [
  ⟨(some 2), none, .mov (.const (.int .i64 0)), 0⟩]
def spec_l01Bits_r1 : List SOper := [
  ⟨(some 3), none, .mov (.tmp 0), 0⟩,
  ⟨(some 4), none, .mov (.tmp 0), 0⟩,
  ⟨(some 5), none, .bin .neq .other (.tmp 3) (.tmp 4), 3⟩]
def spec_l01Bits_r2 : List SOper := [
  ⟨(some 2), none, .mov (.const (.int .i64 2143289344)), 0⟩]
def spec_l01Bits_r3 (i_math_Float32bits : FuncId) : List SOper := [
  ⟨(some 6), none, .mov (.tmp 0), 0⟩,
  ⟨(some 7), none, .call (.func i_math_Float32bits) [(.tmp 6)], 1⟩,
  ⟨(some 8), none, .conv (.toInt .i64) (.tmp 7), 3⟩,
  ⟨(some 2), none, .mov (.tmp 8), 7⟩]
def spec_l01Bits (i_math_Float32bits : FuncId) : SFunc := ⟨9, [.tmp 2], (.kp [0] (.seq (.region spec_l01Bits_r0 false) (.kp [0] (.seq (.seq (.region spec_l01Bits_r1 false) (.kp [0, 5] (.cond (.tmp 5) (.seq (.region spec_l01Bits_r2 false) .ret) .skip))) (.kp [0] (.seq (.region (spec_l01Bits_r3 i_math_Float32bits) false) .ret))))))⟩

/- loop.example/g01201/spec.l01Same -/
def spec_l01Same_r0 : List SOper := [
  ⟨(some 4), none, .mov (.const (.bool false)), 0⟩]
def spec_l01Same_r1 (i_spec_l01Bits : FuncId) : List SOper := [
  ⟨(some 5), none, .mov (.tmp 0), 0⟩,
  ⟨(some 6), none, .call (.func i_spec_l01Bits) [(.tmp 5)], 1⟩,
  ⟨(some 7), none, .mov (.tmp 1), 0⟩,
  ⟨(some 8), none, .call (.func i_spec_l01Bits) [(.tmp 7)], 7⟩,
  ⟨(some 9), none, .bin .eql .other (.tmp 6) (.tmp 8), 15⟩,
  ⟨(some 4), none, .mov (.tmp 9), 31⟩]
def spec_l01Same (i_spec_l01Bits : FuncId) : SFunc := ⟨10, [.tmp 4], (.kp [0, 1] (.seq (.region spec_l01Same_r0 false) (.kp [0, 1] (.seq (.region (spec_l01Same_r1 i_spec_l01Bits) false) .ret))))⟩

/- loop.example/g01201/impl.PaintedCells$1 -/
def impl_PaintedCellsC1_r0 : List SOper := [
  ⟨(some 6), none, .mov (.const (.bool false)), 0⟩]
def impl_PaintedCellsC1_r1 (i_impl_Sheet_at : FuncId) : List SOper := [
  ⟨(some 8), none, .loadN 5 (.tmp 2), 0⟩,
  ⟨(some 9), none, .mov (.tmp 0), 0⟩,
  ⟨(some 10), none, .mov (.tmp 1), 0⟩,
  ⟨(some 11), none, .call (.func i_impl_Sheet_at) [(.tmp 8), (.tmp 9), (.tmp 10)], 7⟩,
  ⟨(some 7), none, .mov (.tmp 11), 15⟩]
def impl_PaintedCellsC1_r2 (i_impl_SameNumber : FuncId) : List SOper := [
  ⟨(some 12), none, .fieldAddr 3 (.tmp 2), 0⟩,
  ⟨(some 13), none, .load1 (.tmp 12), 1⟩,
  ⟨(some 14), none, .mov (.tmp 7), 0⟩,
  ⟨(some 15), none, .indexAddrS 1 (.tmp 13) (.tmp 14), 7⟩,
  ⟨(some 16), none, .load1 (.tmp 15), 15⟩,
  ⟨(some 17), none, .fieldAddr 0 (.tmp 3), 0⟩,
  ⟨(some 18), none, .load1 (.tmp 17), 32⟩,
  ⟨(some 19), none, .call (.func i_impl_SameNumber) [(.tmp 16), (.tmp 18)], 127⟩,
  ⟨(some 20), none, .mov (.tmp 19), 255⟩,
  ⟨(some 21), (some (20, true)), .fieldAddr 4 (.tmp 2), 511⟩,
  ⟨(some 22), (some (20, true)), .load1 (.tmp 21), 1023⟩,
  ⟨(some 23), (some (20, true)), .mov (.tmp 7), 511⟩,
  ⟨(some 24), (some (20, true)), .indexAddrS 1 (.tmp 22) (.tmp 23), 4095⟩,
  ⟨(some 25), (some (20, true)), .load1 (.tmp 24), 8191⟩,
  ⟨(some 26), (some (20, true)), .fieldAddr 1 (.tmp 3), 511⟩,
  ⟨(some 27), (some (20, true)), .load1 (.tmp 26), 16895⟩,
  ⟨(some 28), (some (20, true)), .call (.func i_impl_SameNumber) [(.tmp 25), (.tmp 27)], 65535⟩,
  ⟨(some 29), none, .pick (.tmp 20) (.tmp 28) (.const (.bool false)), 131071⟩,
  ⟨(some 6), none, .mov (.tmp 29), 262143⟩]
def impl_PaintedCellsC1 (i_impl_Sheet_at i_impl_SameNumber : FuncId) : SFunc := ⟨30, [.tmp 6], (.kp [0, 1, 2, 3] (.seq (.region impl_PaintedCellsC1_r0 false) (.kp [0, 1, 2, 3] (.seq (.region (impl_PaintedCellsC1_r1 i_impl_Sheet_at) false) (.kp [2, 3, 7] (.seq (.region (impl_PaintedCellsC1_r2 i_impl_SameNumber) true) .ret))))))⟩
theorem impl_PaintedCellsC1_r2_dr {i_impl_SameNumber : FuncId} : drawOkW wStat (impl_PaintedCellsC1_r2 i_impl_SameNumber) = true := by kernel_rfl
attribute [push_cast] impl_PaintedCellsC1_r2_dr
/- loop.example/g01201/impl.PaintedCells -/
def impl_PaintedCells_r0 : List SOper := [
  ⟨(some 2), none, .box (.tmp 0), 0⟩,
  ⟨(some 3), none, .box (.tmp 1), 0⟩,
  ⟨(some 4), none, .mov (.const (.slice none 0 0)), 0⟩,
  ⟨(some 5), none, .mov (.const (.bool false)), 4⟩]
def impl_PaintedCells_r1 (i_impl_ValidSheet i_impl_IsPaint : FuncId) : List SOper := [
  ⟨(some 6), none, .loadN 5 (.tmp 2), 0⟩,
  ⟨(some 7), none, .call (.func i_impl_ValidSheet) [(.tmp 6)], 1⟩,
  ⟨(some 8), none, .un .not (.tmp 7), 3⟩,
  ⟨(some 9), none, .mov (.tmp 8), 7⟩,
  ⟨(some 10), (some (9, false)), .loadN 2 (.tmp 3), 15⟩,
  ⟨(some 11), (some (9, false)), .call (.func i_impl_IsPaint) [(.tmp 10)], 31⟩,
  ⟨(some 12), (some (9, false)), .un .not (.tmp 11), 63⟩,
  ⟨(some 13), none, .pick (.tmp 9) (.const (.bool true)) (.tmp 12), 127⟩]
def impl_PaintedCells_r2 : List SOper := [
  ⟨(some 4), none, .mov (.const (.slice none 0 0)), 0⟩,
  ⟨(some 5), none, .mov (.const (.bool false)), 1⟩]
def impl_PaintedCells_r3 (i_impl_PaintedCellsC1 i_impl_cellsBy : FuncId) : List SOper := [
  ⟨(some 14), none, .loadN 5 (.tmp 2), 0⟩,
  ⟨(some 15), none, .makeFunc i_impl_PaintedCellsC1 [] [(.tmp 2), (.tmp 3)], 0⟩,
  ⟨(some 16), none, .call (.func i_impl_cellsBy) [(.tmp 14), (.tmp 15)], 3⟩,
  ⟨(some 4), none, .mov (.tmp 16), 7⟩,
  ⟨(some 5), none, .mov (.const (.bool true)), 15⟩]
def impl_PaintedCells (i_impl_ValidSheet i_impl_IsPaint i_impl_PaintedCellsC1 i_impl_cellsBy : FuncId) : SFunc := ⟨17, [.tmp 4, .tmp 5], (.kp [0, 1] (.seq (.region impl_PaintedCells_r0 false) (.kp [2, 3] (.seq (.seq (.region (impl_PaintedCells_r1 i_impl_ValidSheet i_impl_IsPaint) false) (.kp [2, 3, 13] (.cond (.tmp 13) (.seq (.region impl_PaintedCells_r2 false) .ret) .skip))) (.kp [2, 3] (.seq (.region (impl_PaintedCells_r3 i_impl_PaintedCellsC1 i_impl_cellsBy) false) .ret))))))⟩

/- loop.example/g01201/spec.PaintedCells -/
def spec_PaintedCells_r0 : List SOper := [
  ⟨(some 2), none, .box (.tmp 0), 0⟩,
  ⟨(some 3), none, .box (.tmp 1), 0⟩,
  ⟨(some 4), none, .mov (.const (.slice none 0 0)), 0⟩,
  ⟨(some 5), none, .mov (.const (.bool false)), 4⟩]
def spec_PaintedCells_r1 (i_spec_l02Is i_spec_l09Is : FuncId) : List SOper := [
  ⟨(some 8), none, .call (.func i_spec_l02Is) [(.tmp 2)], 0⟩,
  ⟨(some 9), none, .un .not (.tmp 8), 1⟩,
  ⟨(some 10), none, .mov (.tmp 9), 3⟩,
  ⟨(some 11), (some (10, false)), .call (.func i_spec_l09Is) [(.tmp 3)], 7⟩,
  ⟨(some 12), (some (10, false)), .un .not (.tmp 11), 15⟩,
  ⟨(some 13), none, .pick (.tmp 10) (.const (.bool true)) (.tmp 12), 31⟩]
def spec_PaintedCells_r2 : List SOper := [
  ⟨(some 4), none, .mov (.const (.slice none 0 0)), 0⟩,
  ⟨(some 5), none, .mov (.const (.bool false)), 1⟩]
def spec_PaintedCells_r3 : List SOper := [
  ⟨(some 14), none, .buildSlice 1 0 [] [], 0⟩,
  ⟨(some 6), none, .mov (.tmp 14), 1⟩]
def spec_PaintedCells_r4 : List SOper := [
  ⟨(some 15), none, .fieldAddr 3 (.tmp 2), 0⟩,
  ⟨(some 16), none, .load1 (.tmp 15), 1⟩,
  ⟨(some 17), none, .len false (.tmp 16), 3⟩,
  ⟨(some 18), none, .mov (.const (.int .i64 0)), 0⟩]
def spec_PaintedCells_r5 : List SOper := [
  ⟨(some 19), none, .bin .lss .other (.tmp 18) (.tmp 17), 0⟩]
def spec_PaintedCells_r6 : List SOper := [
  ⟨(some 20), none, .mov (.tmp 18), 0⟩,
  ⟨(some 7), none, .mov (.tmp 20), 1⟩]
def spec_PaintedCells_r7 (i_spec_l01Same : FuncId) : List SOper := [
  ⟨(some 21), none, .fieldAddr 3 (.tmp 2), 0⟩,
  ⟨(some 22), none, .load1 (.tmp 21), 1⟩,
  ⟨(some 23), none, .mov (.tmp 7), 0⟩,
  ⟨(some 24), none, .indexAddrS 1 (.tmp 22) (.tmp 23), 7⟩,
  ⟨(some 25), none, .load1 (.tmp 24), 15⟩,
  ⟨(some 26), none, .fieldAddr 0 (.tmp 3), 0⟩,
  ⟨(some 27), none, .load1 (.tmp 26), 32⟩,
  ⟨(some 28), none, .call (.func i_spec_l01Same) [(.tmp 25), (.tmp 27)], 127⟩,
  ⟨(some 29), none, .mov (.tmp 28), 255⟩,
  ⟨(some 30), (some (29, true)), .fieldAddr 4 (.tmp 2), 511⟩,
  ⟨(some 31), (some (29, true)), .load1 (.tmp 30), 1023⟩,
  ⟨(some 32), (some (29, true)), .mov (.tmp 7), 511⟩,
  ⟨(some 33), (some (29, true)), .indexAddrS 1 (.tmp 31) (.tmp 32), 4095⟩,
  ⟨(some 34), (some (29, true)), .load1 (.tmp 33), 8191⟩,
  ⟨(some 35), (some (29, true)), .fieldAddr 1 (.tmp 3), 511⟩,
  ⟨(some 36), (some (29, true)), .load1 (.tmp 35), 16895⟩,
  ⟨(some 37), (some (29, true)), .call (.func i_spec_l01Same) [(.tmp 34), (.tmp 36)], 65535⟩,
  ⟨(some 38), none, .pick (.tmp 29) (.tmp 37) (.const (.bool false)), 131071⟩]
def spec_PaintedCells_r8 : List SOper := [
  ⟨(some 39), none, .mov (.tmp 6), 0⟩,
  ⟨(some 40), none, .mov (.tmp 7), 0⟩,
  ⟨(some 41), none, .buildSlice 1 1 [(.int .i64 0)] [(0, 1, (.tmp 40))], 2⟩,
  ⟨(some 42), none, .append 1 8 (.tmp 39) (.tmp 41), 7⟩,
  ⟨(some 6), none, .mov (.tmp 42), 15⟩]
def spec_PaintedCells_r9 : List SOper := [
  ⟨(some 43), none, .bin .add .other (.tmp 18) (.const (.int .i64 1)), 0⟩,
  ⟨(some 18), none, .mov (.tmp 43), 1⟩]
def spec_PaintedCells_l10 (i_spec_l01Same : FuncId) : SCode := (.kp [2, 3, 6, 17, 18] (.seq (.region spec_PaintedCells_r5 false) (.kp [2, 3, 6, 17, 18, 19] (.seq (.cond (.tmp 19) .skip (.exit 0)) (.kp [2, 3, 6, 17, 18] (.seq (.block 1 (.seq (.region spec_PaintedCells_r6 false) (.kp [2, 3, 6, 7, 17, 18] (.seq (.region (spec_PaintedCells_r7 i_spec_l01Same) true) (.kp [2, 3, 6, 7, 17, 18, 38] (.cond (.tmp 38) (.region spec_PaintedCells_r8 false) .skip)))))) (.kp [2, 3, 6, 17, 18] (.region spec_PaintedCells_r9 false))))))))
def spec_PaintedCells_r11 : List SOper := [
  ⟨(some 44), none, .mov (.tmp 6), 0⟩,
  ⟨(some 4), none, .mov (.tmp 44), 1⟩,
  ⟨(some 5), none, .mov (.const (.bool true)), 3⟩]
def spec_PaintedCells (i_spec_l02Is i_spec_l09Is i_spec_l01Same : FuncId) : SFunc := ⟨45, [.tmp 4, .tmp 5], (.kp [0, 1] (.seq (.region spec_PaintedCells_r0 false) (.kp [2, 3] (.seq (.seq (.region (spec_PaintedCells_r1 i_spec_l02Is i_spec_l09Is) false) (.kp [2, 3, 13] (.cond (.tmp 13) (.seq (.region spec_PaintedCells_r2 false) .ret) .skip))) (.kp [2, 3] (.seq (.region spec_PaintedCells_r3 false) (.kp [2, 3, 6] (.seq (.seq (.region spec_PaintedCells_r4 false) (.kp [2, 3, 6, 17, 18] (.block 0 (.loop (spec_PaintedCells_l10 i_spec_l01Same))))) (.kp [6] (.seq (.region spec_PaintedCells_r11 false) .ret))))))))))⟩
theorem spec_PaintedCells_r7_dr {i_spec_l01Same : FuncId} : drawOkW wStat (spec_PaintedCells_r7 i_spec_l01Same) = true := by kernel_rfl
attribute [push_cast] spec_PaintedCells_r7_dr
theorem wf32 {x : Nat} (h : (Lit.float .f32 x).wf = true) : x < 4294967296 := by simpa [Lit.wf] using h
def math_Float64bits_ok (c : Contract) : Prop := ∀ (σ : Heap) (b : Nat), isNaN .f64 b = false → Ret c [.float .f64 b] σ fun v σ' => v = .int .u64 b ∧ σ' = σ
theorem math_Float64bits_law : math_Float64bits_ok (pureC gBits64) := fun σ b h => ret_bits64 σ h
def math_Float32bits_ok (c : Contract) : Prop := ∀ (σ : Heap) (b : Nat), isNaN .f32 b = false → Ret c [.float .f32 b] σ fun v σ' => v = .int .u32 b ∧ σ' = σ
theorem math_Float32bits_law : math_Float32bits_ok (pureC gBits32) := fun σ b h => ret_bits32 σ h
theorem wrap_neg {b : Nat} (hb : b < 18446744073709551616) : decide (IntKind.i64.wrap (b : Int) < 0) = sgn64 b := by
  unfold sgn64
  rw [decide_eq_decide]
  simp only [IntKind.wrap]
  simp [IntKind.bits, IntKind.signed]
  omega
def math_Signbit_ok (c : Contract) : Prop := ∀ (σ : Heap) (b : Nat), isNaN .f64 b = false → b < 18446744073709551616 → Ret c [.float .f64 b] σ fun v σ' => v = .bool (sgn64 b) ∧ σ' = σ
theorem math_Signbit_law {C : Ctab} {i : FuncId} {c : Contract} (h1 : Has C i c math_Float64bits_ok) : math_Signbit_ok (gcC C (math_Signbit i) true) := by
  intro σ b hn hb
  refine ret_gc rfl rfl ?_
  repeat' (first | apply Ev.sq | apply Ev.rg | refine Ev.aKp ?_ | apply thenQ.n | apply thenQ.e | apply thenQ.r | apply blkQ.n | apply blkQ.e | refine blkQ.x ?_ rfl | apply blkQ.r | refine Ev.aT ?_ | refine Ev.aF ?_ | apply Ev.skip | apply Ev.exit | apply Ev.ret | apply Ev.bk | refine EvR.mv ?_ | refine EvR.fa ?_ | refine EvR.l1 ?_ | refine EvR.aNotSF ?_ | refine EvR.aNotST ?_ | refine EvR.aMetT ?_ | refine EvR.aMetF ?_ | refine EvR.aUS ?_ | refine EvR.mvc ?_ | refine EvR.lv ?_ | refine EvR.lp ?_ | refine EvR.lNp ?_ | refine EvR.pkT ?_ | refine EvR.pkF ?_ | refine EvR.lN ?_ | refine EvR.ix ?_ | refine EvR.le ?_ | refine EvR.ixo ?_ | refine EvR.l1o ?_ | refine EvR.lei ?_ | refine EvR.leb ?_ | refine EvR.lnr ?_ | refine EvR.lns ?_ | refine EvR.nt ?_ | refine EvR.lt ?_ | refine EvR.le_ ?_ | refine EvR.gt ?_ | refine EvR.ge ?_ | refine EvR.eqi ?_ | refine EvR.nei ?_ | refine EvR.add ?_ | refine EvR.sub ?_ | refine EvR.mul ?_ | refine EvR.rem ?_ | refine EvR.quo ?_ | refine EvR.nc ?_ | refine EvR.ex ?_ | refine EvR.f1 ?_ | refine EvR.fadd ?_ | refine EvR.fsub ?_ | refine EvR.fmul ?_ | refine EvR.fquo ?_ | refine EvR.flt_ ?_ | refine EvR.fle_ ?_ | refine EvR.fgt_ ?_ | refine EvR.fge_ ?_ | refine EvR.feq_ ?_ | refine EvR.fne_ ?_ | refine EvR.cv ?_ | refine EvR.cvu ?_ | refine EvR.cvf ?_ | refine EvR.cvw ?_ | refine EvR.bx ?_ | refine EvR.aNotNT ?_ | refine EvR.aNotNF ?_ | refine EvR.aUN ?_ | refine EvR.nl ?_ | refine EvR.so ?_ | (apply EvR.aCall h1.at_; (· exact eva); (· apply h1.ok <;> exact sid); (rintro _ _ ⟨rfl, rfl⟩; refine EvR.nrm ?_)) | (apply Ev.regionQ drk; (· exact quie)) | (apply Ev.regionN0 drk; (· exact quie)) | (apply Ev.regionA drk (by assumption); (· exact quie)) | (apply Ev.regionNA drk (by assumption); (· exact quie)) | (apply Ev.regionS0 drk; (· exact quie)) | (refine EvR.aSplB ?_ ?_ <;> (intro hb; rw [hb]; (try simp only [Bool.not_eq_true', Bool.not_eq_false', Bool.not_eq_eq_eq_not, Bool.not_true, Bool.not_false, decide_eq_true_eq, decide_eq_false_iff_not, Bool.and_eq_true, Bool.and_eq_false_iff, Bool.or_eq_true, Bool.or_eq_false_iff] at hb); (try (exfalso; omega)))) | (refine Ev.aSplB ?_ ?_ <;> (intro hb; (try rw [hb]); (try simp only [Bool.not_eq_true', Bool.not_eq_false', Bool.not_eq_eq_eq_not, Bool.not_true, Bool.not_false, decide_eq_true_eq, decide_eq_false_iff_not, Bool.and_eq_true, Bool.and_eq_false_iff, Bool.or_eq_true, Bool.or_eq_false_iff] at hb); (try (exfalso; omega)))) | (apply EvR.aS0; (· exact evc)) | (apply EvR.aN0; (· exact evc)) | (apply endS trivial; rotate_left; (· exact eva); (· rfl); try refine ⟨?_, rfl⟩) | fail)
  rw [wrap_neg hb]

def impl_SameNumber_ok (c : Contract) : Prop := ∀ (σ : Heap) (a b : Nat), a < 4294967296 → b < 4294967296 → isNaN .f32 a = false → isNaN .f32 b = false → Ret c [.float .f32 a, .float .f32 b] σ fun v σ' => v = .bool (decide (a = b)) ∧ σ' = σ
theorem impl_SameNumber_law {C : Ctab} {i : FuncId} {c : Contract} (h1 : Has C i c math_Signbit_ok) : impl_SameNumber_ok (gcC C (impl_SameNumber i) true) := by
  intro σ a b ha hb hna hnb
  have sa : feq .f32 a a = true := by rw [feq_self, hna]; rfl
  have sb : feq .f32 b b = true := by rw [feq_self, hnb]; rfl
  obtain ⟨wa1, wa2, wa3⟩ := wide_sign ha hna
  obtain ⟨wb1, wb2, wb3⟩ := wide_sign hb hnb
  have hs := same_bits ha hb hna hnb
  rw [← wa2, ← wb2] at hs
  rw [← hs]
  refine ret_gc rfl rfl ?_
  repeat' (first | apply Ev.sq | apply Ev.rg | refine Ev.aKp ?_ | apply thenQ.n | apply thenQ.e | apply thenQ.r | apply blkQ.n | apply blkQ.e | refine blkQ.x ?_ rfl | apply blkQ.r | refine Ev.aT ?_ | refine Ev.aF ?_ | apply Ev.skip | apply Ev.exit | apply Ev.ret | apply Ev.bk | refine EvR.mv ?_ | refine EvR.fa ?_ | refine EvR.l1 ?_ | refine EvR.aNotSF ?_ | refine EvR.aNotST ?_ | refine EvR.aMetT ?_ | refine EvR.aMetF ?_ | refine EvR.aUS ?_ | refine EvR.mvc ?_ | refine EvR.lv ?_ | refine EvR.lp ?_ | refine EvR.lNp ?_ | refine EvR.pkT ?_ | refine EvR.pkF ?_ | refine EvR.lN ?_ | refine EvR.ix ?_ | refine EvR.le ?_ | refine EvR.ixo ?_ | refine EvR.l1o ?_ | refine EvR.lei ?_ | refine EvR.leb ?_ | refine EvR.lnr ?_ | refine EvR.lns ?_ | refine EvR.nt ?_ | refine EvR.lt ?_ | refine EvR.le_ ?_ | refine EvR.gt ?_ | refine EvR.ge ?_ | refine EvR.eqi ?_ | refine EvR.nei ?_ | refine EvR.add ?_ | refine EvR.sub ?_ | refine EvR.mul ?_ | refine EvR.rem ?_ | refine EvR.quo ?_ | refine EvR.nc ?_ | refine EvR.ex ?_ | refine EvR.f1 ?_ | refine EvR.fadd ?_ | refine EvR.fsub ?_ | refine EvR.fmul ?_ | refine EvR.fquo ?_ | refine EvR.flt_ ?_ | refine EvR.fle_ ?_ | refine EvR.fgt_ ?_ | refine EvR.fge_ ?_ | refine EvR.feq_ ?_ | refine EvR.fne_ ?_ | refine EvR.cv ?_ | refine EvR.cvu ?_ | refine EvR.cvf ?_ | refine EvR.cvw ?_ | refine EvR.bx ?_ | refine EvR.aNotNT ?_ | refine EvR.aNotNF ?_ | refine EvR.aUN ?_ | refine EvR.nl ?_ | refine EvR.so ?_ | (apply EvR.aCall h1.at_; (· exact eva); (· apply h1.ok <;> exact sid); (rintro _ _ ⟨rfl, rfl⟩; refine EvR.nrm ?_)) | (apply Ev.regionQ drk; (· exact quie)) | (apply Ev.regionN0 drk; (· exact quie)) | (apply Ev.regionA drk (by assumption); (· exact quie)) | (apply Ev.regionNA drk (by assumption); (· exact quie)) | (apply Ev.regionS0 drk; (· exact quie)) | (refine EvR.aSplB ?_ ?_ <;> (intro hb; rw [hb]; (try simp only [Bool.not_eq_true', Bool.not_eq_false', Bool.not_eq_eq_eq_not, Bool.not_true, Bool.not_false, decide_eq_true_eq, decide_eq_false_iff_not, Bool.and_eq_true, Bool.and_eq_false_iff, Bool.or_eq_true, Bool.or_eq_false_iff] at hb); (try (exfalso; omega)))) | (refine Ev.aSplB ?_ ?_ <;> (intro hb; (try rw [hb]); (try simp only [Bool.not_eq_true', Bool.not_eq_false', Bool.not_eq_eq_eq_not, Bool.not_true, Bool.not_false, decide_eq_true_eq, decide_eq_false_iff_not, Bool.and_eq_true, Bool.and_eq_false_iff, Bool.or_eq_true, Bool.or_eq_false_iff] at hb); (try (exfalso; omega)))) | (apply EvR.aS0; (· exact evc)) | (apply EvR.aN0; (· exact evc)) | (apply endS trivial; rotate_left; (· exact eva); (· rfl); try refine ⟨?_, rfl⟩) | fail)
  all_goals simp_all

def spec_l01Bits_ok (c : Contract) : Prop := ∀ (σ : Heap) (a : Nat), a < 4294967296 → isNaN .f32 a = false → Ret c [.float .f32 a] σ fun v σ' => v = .int .i64 a ∧ σ' = σ
theorem spec_l01Bits_law {C : Ctab} {i : FuncId} {c : Contract} (h1 : Has C i c math_Float32bits_ok) : spec_l01Bits_ok (gcC C (spec_l01Bits i) true) := by
  intro σ a ha hna
  have sa : feq .f32 a a = true := by rw [feq_self, hna]; rfl
  refine ret_gc rfl rfl ?_
  repeat' (first | apply Ev.sq | apply Ev.rg | refine Ev.aKp ?_ | apply thenQ.n | apply thenQ.e | apply thenQ.r | apply blkQ.n | apply blkQ.e | refine blkQ.x ?_ rfl | apply blkQ.r | refine Ev.aT ?_ | refine Ev.aF ?_ | apply Ev.skip | apply Ev.exit | apply Ev.ret | apply Ev.bk | refine EvR.mv ?_ | refine EvR.fa ?_ | refine EvR.l1 ?_ | refine EvR.aNotSF ?_ | refine EvR.aNotST ?_ | refine EvR.aMetT ?_ | refine EvR.aMetF ?_ | refine EvR.aUS ?_ | refine EvR.mvc ?_ | refine EvR.lv ?_ | refine EvR.lp ?_ | refine EvR.lNp ?_ | refine EvR.pkT ?_ | refine EvR.pkF ?_ | refine EvR.lN ?_ | refine EvR.ix ?_ | refine EvR.le ?_ | refine EvR.ixo ?_ | refine EvR.l1o ?_ | refine EvR.lei ?_ | refine EvR.leb ?_ | refine EvR.lnr ?_ | refine EvR.lns ?_ | refine EvR.nt ?_ | refine EvR.lt ?_ | refine EvR.le_ ?_ | refine EvR.gt ?_ | refine EvR.ge ?_ | refine EvR.eqi ?_ | refine EvR.nei ?_ | refine EvR.add ?_ | refine EvR.sub ?_ | refine EvR.mul ?_ | refine EvR.rem ?_ | refine EvR.quo ?_ | refine EvR.nc ?_ | refine EvR.ex ?_ | refine EvR.f1 ?_ | refine EvR.fadd ?_ | refine EvR.fsub ?_ | refine EvR.fmul ?_ | refine EvR.fquo ?_ | refine EvR.flt_ ?_ | refine EvR.fle_ ?_ | refine EvR.fgt_ ?_ | refine EvR.fge_ ?_ | refine EvR.feq_ ?_ | refine EvR.fne_ ?_ | refine EvR.cv ?_ | refine EvR.cvu ?_ | refine EvR.cvf ?_ | refine EvR.cvw ?_ | refine EvR.bx ?_ | refine EvR.aNotNT ?_ | refine EvR.aNotNF ?_ | refine EvR.aUN ?_ | refine EvR.nl ?_ | refine EvR.so ?_ | (apply EvR.aCall h1.at_; (· exact eva); (· apply h1.ok <;> exact sid); (rintro _ _ ⟨rfl, rfl⟩; refine EvR.nrm ?_)) | (apply Ev.regionQ drk; (· exact quie)) | (apply Ev.regionN0 drk; (· exact quie)) | (apply Ev.regionA drk (by assumption); (· exact quie)) | (apply Ev.regionNA drk (by assumption); (· exact quie)) | (apply Ev.regionS0 drk; (· exact quie)) | (refine EvR.aSplB ?_ ?_ <;> (intro hb; rw [hb]; (try simp only [Bool.not_eq_true', Bool.not_eq_false', Bool.not_eq_eq_eq_not, Bool.not_true, Bool.not_false, decide_eq_true_eq, decide_eq_false_iff_not, Bool.and_eq_true, Bool.and_eq_false_iff, Bool.or_eq_true, Bool.or_eq_false_iff] at hb); (try (exfalso; omega)))) | (refine Ev.aSplB ?_ ?_ <;> (intro hb; (try rw [hb]); (try simp only [Bool.not_eq_true', Bool.not_eq_false', Bool.not_eq_eq_eq_not, Bool.not_true, Bool.not_false, decide_eq_true_eq, decide_eq_false_iff_not, Bool.and_eq_true, Bool.and_eq_false_iff, Bool.or_eq_true, Bool.or_eq_false_iff] at hb); (try (exfalso; omega)))) | (apply EvR.aS0; (· exact evc)) | (apply EvR.aN0; (· exact evc)) | (apply endS trivial; rotate_left; (· exact eva); (· rfl); try refine ⟨?_, rfl⟩) | fail)
  all_goals simp_all
abbrev spec_l01Same_ok := impl_SameNumber_ok
theorem spec_l01Same_law {C : Ctab} {i : FuncId} {c : Contract} (h1 : Has C i c spec_l01Bits_ok) : spec_l01Same_ok (gcC C (spec_l01Same i) true) := by
  intro σ a b ha hb hna hnb
  refine ret_gc rfl rfl ?_
  repeat' (first | apply Ev.sq | apply Ev.rg | refine Ev.aKp ?_ | apply thenQ.n | apply thenQ.e | apply thenQ.r | apply blkQ.n | apply blkQ.e | refine blkQ.x ?_ rfl | apply blkQ.r | refine Ev.aT ?_ | refine Ev.aF ?_ | apply Ev.skip | apply Ev.exit | apply Ev.ret | apply Ev.bk | refine EvR.mv ?_ | refine EvR.fa ?_ | refine EvR.l1 ?_ | refine EvR.aNotSF ?_ | refine EvR.aNotST ?_ | refine EvR.aMetT ?_ | refine EvR.aMetF ?_ | refine EvR.aUS ?_ | refine EvR.mvc ?_ | refine EvR.lv ?_ | refine EvR.lp ?_ | refine EvR.lNp ?_ | refine EvR.pkT ?_ | refine EvR.pkF ?_ | refine EvR.lN ?_ | refine EvR.ix ?_ | refine EvR.le ?_ | refine EvR.ixo ?_ | refine EvR.l1o ?_ | refine EvR.lei ?_ | refine EvR.leb ?_ | refine EvR.lnr ?_ | refine EvR.lns ?_ | refine EvR.nt ?_ | refine EvR.lt ?_ | refine EvR.le_ ?_ | refine EvR.gt ?_ | refine EvR.ge ?_ | refine EvR.eqi ?_ | refine EvR.nei ?_ | refine EvR.add ?_ | refine EvR.sub ?_ | refine EvR.mul ?_ | refine EvR.rem ?_ | refine EvR.quo ?_ | refine EvR.nc ?_ | refine EvR.ex ?_ | refine EvR.f1 ?_ | refine EvR.fadd ?_ | refine EvR.fsub ?_ | refine EvR.fmul ?_ | refine EvR.fquo ?_ | refine EvR.flt_ ?_ | refine EvR.fle_ ?_ | refine EvR.fgt_ ?_ | refine EvR.fge_ ?_ | refine EvR.feq_ ?_ | refine EvR.fne_ ?_ | refine EvR.cv ?_ | refine EvR.cvu ?_ | refine EvR.cvf ?_ | refine EvR.cvw ?_ | refine EvR.bx ?_ | refine EvR.aNotNT ?_ | refine EvR.aNotNF ?_ | refine EvR.aUN ?_ | refine EvR.nl ?_ | refine EvR.so ?_ | (apply EvR.aCall h1.at_; (· exact eva); (· apply h1.ok <;> exact sid); (rintro _ _ ⟨rfl, rfl⟩; refine EvR.nrm ?_)) | (apply Ev.regionQ drk; (· exact quie)) | (apply Ev.regionN0 drk; (· exact quie)) | (apply Ev.regionA drk (by assumption); (· exact quie)) | (apply Ev.regionNA drk (by assumption); (· exact quie)) | (apply Ev.regionS0 drk; (· exact quie)) | (refine EvR.aSplB ?_ ?_ <;> (intro hb; rw [hb]; (try simp only [Bool.not_eq_true', Bool.not_eq_false', Bool.not_eq_eq_eq_not, Bool.not_true, Bool.not_false, decide_eq_true_eq, decide_eq_false_iff_not, Bool.and_eq_true, Bool.and_eq_false_iff, Bool.or_eq_true, Bool.or_eq_false_iff] at hb); (try (exfalso; omega)))) | (refine Ev.aSplB ?_ ?_ <;> (intro hb; (try rw [hb]); (try simp only [Bool.not_eq_true', Bool.not_eq_false', Bool.not_eq_eq_eq_not, Bool.not_true, Bool.not_false, decide_eq_true_eq, decide_eq_false_iff_not, Bool.and_eq_true, Bool.and_eq_false_iff, Bool.or_eq_true, Bool.or_eq_false_iff] at hb); (try (exfalso; omega)))) | (apply EvR.aS0; (· exact evc)) | (apply EvR.aN0; (· exact evc)) | (apply endS trivial; rotate_left; (· exact eva); (· rfl); try refine ⟨?_, rfl⟩) | fail)
  rw [decide_eq_decide.2 (Int.ofNat_inj (m := a) (n := b))]

/-- Numbers that are no NaN, in 32 bits. -/
def nums (xs : List Nat) : Prop := ∀ i, i < xs.length → xs.getD i 0 < 4294967296 ∧ isNaN .f32 (xs.getD i 0) = false
theorem nums_of {xs : List Nat} {b : Nat} (h1 : ∀ x ∈ xs, x < 4294967296) (h2 : xs.all (fun x => share x b) = true) : nums xs := by
  intro i hi
  have hm : xs.getD i 0 ∈ xs := by rw [List.getD_eq_getElem?_getD, List.getElem?_eq_getElem hi]; simp
  refine ⟨h1 _ hm, ?_⟩
  have := List.all_eq_true.1 h2 _ hm
  simp only [share, Bool.and_eq_true] at this
  exact (fge_nan this.1).1
def paintedQ (sp lo : List Nat) (s l i : Nat) : Bool := decide (sp.getD i 0 = s) && decide (lo.getD i 0 = l)

def impl_PaintedCellsC1_ok (c : Contract) : Prop := ∀ (σ : Heap) (b p : Nat) (W H : Nat) (wr : Bool) (sv lv : Value) (sp lo : List Nat) (s l : Nat) (u1 u2 : Bool) (x y : Nat), σ[b]? = some ⟨[.int .i64 W, .int .i64 H, .bool wr, sv, lv], 0, u1⟩ → σ[p]? = some ⟨[.float .f32 s, .float .f32 l], 0, u2⟩ → ShR σ sv lv sp lo → 3 ≤ W → W ≤ 16 → 3 ≤ H → H ≤ 16 → sp.length = W * H → lo.length = W * H → nums sp → nums lo →
    s < 4294967296 → isNaN .f32 s = false → l < 4294967296 → isNaN .f32 l = false → x < W → y < H →
    Ret c [.int .i64 x, .int .i64 y, .pointer (some ⟨b, 0, none⟩), .pointer (some ⟨p, 0, none⟩)] σ fun v σ' => v = .bool (paintedQ sp lo s l (W * y + x)) ∧ σ' = σ
theorem impl_PaintedCellsC1_law {C : Ctab} {i1 i2 : FuncId} {c1 c2 : Contract} (h1 : Has C i1 c1 impl_Sheet_at_ok) (h2 : Has C i2 c2 impl_SameNumber_ok) : impl_PaintedCellsC1_ok (gcC C (impl_PaintedCellsC1 i1 i2) true) := by
  intro σ b p W H wr sv lv sp lo s l u1 u2 x y hb hp ⟨r1, r2⟩ a1 a2 a3 a4 hl1 hl2 n1 n2 s1 s2 l1 l2 hx hy
  have p1 := PtAt.whole hb
  have p2 := PtAt.whole hp
  have k1 := r1.ok
  have k2 := r2.ok
  have q0 := atC_bd (u := x) (v := y) a1 a3 (by omega) (by omega) (by omega) (by omega)
  have hc := cell_lt hx hy
  have hat : atC W H x y = ((W * y + x : Nat) : Int) := by
    have := atC_nat a1 a3 hx hy
    omega
  obtain ⟨e1, e2⟩ := n1 (W * y + x) (by omega)
  obtain ⟨e3, e4⟩ := n2 (W * y + x) (by omega)
  have hpq : ∀ t, decide (sp.getD (W * y + x) 0 = s) = t → paintedQ sp lo s l (W * y + x) = (t && decide (lo.getD (W * y + x) 0 = l)) := by rintro t rfl; rfl
  refine ret_gc rfl rfl ?_
  repeat' (first | apply Ev.sq | apply Ev.rg | refine Ev.aKp ?_ | apply thenQ.n | apply thenQ.e | apply thenQ.r | apply blkQ.n | apply blkQ.e | refine blkQ.x ?_ rfl | apply blkQ.r | refine Ev.aT ?_ | refine Ev.aF ?_ | apply Ev.skip | apply Ev.exit | apply Ev.ret | apply Ev.bk | refine EvR.mv ?_ | refine EvR.fa ?_ | refine EvR.l1 ?_ | refine EvR.aNotSF ?_ | refine EvR.aNotST ?_ | refine EvR.aMetT ?_ | refine EvR.aMetF ?_ | refine EvR.aUS ?_ | refine EvR.mvc ?_ | refine EvR.lv ?_ | refine EvR.lp ?_ | refine EvR.lNp ?_ | refine EvR.pkT ?_ | refine EvR.pkF ?_ | refine EvR.lN ?_ | refine EvR.ix ?_ | refine EvR.le ?_ | refine EvR.ixo ?_ | refine EvR.l1o ?_ | refine EvR.lei ?_ | refine EvR.leb ?_ | refine EvR.lnr ?_ | refine EvR.lns ?_ | refine EvR.nt ?_ | refine EvR.lt ?_ | refine EvR.le_ ?_ | refine EvR.gt ?_ | refine EvR.ge ?_ | refine EvR.eqi ?_ | refine EvR.nei ?_ | refine EvR.add ?_ | refine EvR.sub ?_ | refine EvR.mul ?_ | refine EvR.rem ?_ | refine EvR.quo ?_ | refine EvR.nc ?_ | refine EvR.ex ?_ | refine EvR.f1 ?_ | refine EvR.fadd ?_ | refine EvR.fsub ?_ | refine EvR.fmul ?_ | refine EvR.fquo ?_ | refine EvR.flt_ ?_ | refine EvR.fle_ ?_ | refine EvR.fgt_ ?_ | refine EvR.fge_ ?_ | refine EvR.feq_ ?_ | refine EvR.fne_ ?_ | refine EvR.cv ?_ | refine EvR.cvu ?_ | refine EvR.cvf ?_ | refine EvR.cvw ?_ | refine EvR.bx ?_ | refine EvR.aNotNT ?_ | refine EvR.aNotNF ?_ | refine EvR.aUN ?_ | refine EvR.nl ?_ | refine EvR.so ?_ | (apply EvR.aCall h1.at_; (· exact eva); (· apply h1.ok <;> exact sid); (rintro _ _ ⟨rfl, rfl⟩; refine EvR.nrm ?_; try simp only [hat])) | (apply EvR.aCall h2.at_; (· exact eva); (· apply h2.ok <;> exact sid); (rintro _ _ ⟨rfl, rfl⟩; refine EvR.nrm ?_; try simp only [hat])) | (apply Ev.regionQ drk; (· exact quie)) | (apply Ev.regionN0 drk; (· exact quie)) | (apply Ev.regionA drk (by assumption); (· exact quie)) | (apply Ev.regionNA drk (by assumption); (· exact quie)) | (apply Ev.regionS0 drk; (· exact quie)) | (refine EvR.aSplB ?_ ?_ <;> (intro hb; rw [hb]; (try simp only [Bool.not_eq_true', Bool.not_eq_false', Bool.not_eq_eq_eq_not, Bool.not_true, Bool.not_false, decide_eq_true_eq, decide_eq_false_iff_not, Bool.and_eq_true, Bool.and_eq_false_iff, Bool.or_eq_true, Bool.or_eq_false_iff] at hb); (try (exfalso; omega)))) | (refine Ev.aSplB ?_ ?_ <;> (intro hb; (try rw [hb]); (try simp only [Bool.not_eq_true', Bool.not_eq_false', Bool.not_eq_eq_eq_not, Bool.not_true, Bool.not_false, decide_eq_true_eq, decide_eq_false_iff_not, Bool.and_eq_true, Bool.and_eq_false_iff, Bool.or_eq_true, Bool.or_eq_false_iff] at hb); (try (exfalso; omega)))) | (apply EvR.aS0; (· exact evc)) | (apply EvR.aN0; (· exact evc)) | (apply endS trivial; rotate_left; (· exact eva); (· rfl); try refine ⟨?_, rfl⟩) | fail)
  all_goals simp_all [paintedQ]

def PaintedCells_ok (c : Contract) : Prop := ∀ (σ : Heap) (w h : Int) (wr : Bool) (sv lv : Value) (sp lo : List Nat) (s l : Nat), ShR σ sv lv sp lo → sp.length ≤ 1048576 → lo.length ≤ 1048576 → (∀ x ∈ sp, x < 4294967296) → (∀ x ∈ lo, x < 4294967296) → s < 4294967296 → l < 4294967296 →
    Ret c [shV w h wr sv lv, .agg #[.float .f32 s, .float .f32 l]] σ fun v σ' => v = ciRes (paintOk w h sp lo s l) σ.length (cellsN (paintedQ sp lo s l) sp.length) ∧ σ' = σ ++ ciRows (paintOk w h sp lo s l) (cellsN (paintedQ sp lo s l) sp.length)
abbrev impl_PaintedCells_ok := PaintedCells_ok
abbrev spec_PaintedCells_ok := PaintedCells_ok
theorem paint_nums {w h : Int} {sp lo : List Nat} {s l : Nat} (hs : isSheet w h sp lo = true) (hp : isPaint s l = true) (h1 : ∀ x ∈ sp, x < 4294967296) (h2 : ∀ x ∈ lo, x < 4294967296) : nums sp ∧ nums lo ∧ isNaN .f32 s = false ∧ isNaN .f32 l = false := by
  simp only [isSheet, Bool.and_eq_true] at hs
  simp only [isPaint, share, Bool.and_eq_true] at hp
  exact ⟨nums_of h1 hs.1.2, nums_of h2 hs.2, (fge_nan hp.1.1).1, (fge_nan hp.2.1).1⟩
theorem impl_PaintedCells_law {C : Ctab} {i1 i2 i3 i4 : FuncId} {c1 c2 c3 c4 : Contract} (h1 : Has C i1 c1 impl_ValidSheet_ok) (h2 : Has C i2 c2 impl_IsPaint_ok) (h3 : impl_PaintedCellsC1_ok c3) (h4 : Has C i4 c4 (impl_cellsBy_ok i3 c3)) : impl_PaintedCells_ok (gcC C (impl_PaintedCells i1 i2 i3 i4) true) := by
  intro σ w h wr sv lv sp lo s l ⟨r1, r2⟩ hn1 hn2 b1 b2 b3 b4
  cases hs : isSheet w h sp lo
  · rw [show paintOk w h sp lo s l = false from by simp [paintOk, hs], ciRes_f, ciRows_f]
    refine ret_gc rfl rfl ?_
    repeat' (first | apply Ev.sq | apply Ev.rg | refine Ev.aKp ?_ | apply thenQ.n | apply thenQ.e | apply thenQ.r | apply blkQ.n | apply blkQ.e | refine blkQ.x ?_ rfl | apply blkQ.r | refine Ev.aT ?_ | refine Ev.aF ?_ | apply Ev.skip | apply Ev.exit | apply Ev.ret | apply Ev.bk | refine EvR.mv ?_ | refine EvR.fa ?_ | refine EvR.l1 ?_ | refine EvR.aNotSF ?_ | refine EvR.aNotST ?_ | refine EvR.aMetT ?_ | refine EvR.aMetF ?_ | refine EvR.aUS ?_ | refine EvR.mvc ?_ | refine EvR.lv ?_ | refine EvR.lp ?_ | refine EvR.lNp ?_ | refine EvR.pkT ?_ | refine EvR.pkF ?_ | refine EvR.lN ?_ | refine EvR.ix ?_ | refine EvR.le ?_ | refine EvR.ixo ?_ | refine EvR.l1o ?_ | refine EvR.lei ?_ | refine EvR.leb ?_ | refine EvR.lnr ?_ | refine EvR.lns ?_ | refine EvR.nt ?_ | refine EvR.lt ?_ | refine EvR.le_ ?_ | refine EvR.gt ?_ | refine EvR.ge ?_ | refine EvR.eqi ?_ | refine EvR.nei ?_ | refine EvR.add ?_ | refine EvR.sub ?_ | refine EvR.mul ?_ | refine EvR.rem ?_ | refine EvR.quo ?_ | refine EvR.nc ?_ | refine EvR.ex ?_ | refine EvR.f1 ?_ | refine EvR.fadd ?_ | refine EvR.fsub ?_ | refine EvR.fmul ?_ | refine EvR.fquo ?_ | refine EvR.flt_ ?_ | refine EvR.fle_ ?_ | refine EvR.fgt_ ?_ | refine EvR.fge_ ?_ | refine EvR.feq_ ?_ | refine EvR.fne_ ?_ | refine EvR.cv ?_ | refine EvR.cvu ?_ | refine EvR.cvf ?_ | refine EvR.cvw ?_ | refine EvR.bx ?_ | refine EvR.aNotNT ?_ | refine EvR.aNotNF ?_ | refine EvR.aUN ?_ | refine EvR.nl ?_ | refine EvR.so ?_ | (apply EvR.aCall h1.at_; (· exact eva); (· apply h1.ok <;> exact sid); (rintro _ _ ⟨rfl, rfl⟩; refine EvR.nrm ?_; try simp only [hs])) | (apply EvR.aCall h2.at_; (· exact eva); (· apply h2.ok <;> exact sid); (rintro _ _ ⟨rfl, rfl⟩; refine EvR.nrm ?_; try simp only [hs])) | (apply Ev.regionQ drk; (· exact quie)) | (apply Ev.regionN0 drk; (· exact quie)) | (apply Ev.regionA drk (by assumption); (· exact quie)) | (apply Ev.regionNA drk (by assumption); (· exact quie)) | (apply Ev.regionS0 drk; (· exact quie)) | (refine EvR.aSplB ?_ ?_ <;> (intro hb; rw [hb]; (try simp only [Bool.not_eq_true', Bool.not_eq_false', Bool.not_eq_eq_eq_not, Bool.not_true, Bool.not_false, decide_eq_true_eq, decide_eq_false_iff_not, Bool.and_eq_true, Bool.and_eq_false_iff, Bool.or_eq_true, Bool.or_eq_false_iff] at hb); (try (exfalso; omega)))) | (refine Ev.aSplB ?_ ?_ <;> (intro hb; (try rw [hb]); (try simp only [Bool.not_eq_true', Bool.not_eq_false', Bool.not_eq_eq_eq_not, Bool.not_true, Bool.not_false, decide_eq_true_eq, decide_eq_false_iff_not, Bool.and_eq_true, Bool.and_eq_false_iff, Bool.or_eq_true, Bool.or_eq_false_iff] at hb); (try (exfalso; omega)))) | (apply EvR.aS0; (· exact evc)) | (apply EvR.aN0; (· exact evc)) | (apply endS trivial; rotate_left; (· exact eva); (· rfl); try refine ⟨?_, rfl⟩) | fail)
    simp
  cases hp : isPaint s l
  · rw [show paintOk w h sp lo s l = false from by simp [paintOk, hp], ciRes_f, ciRows_f]
    refine ret_gc rfl rfl ?_
    repeat' (first | apply Ev.sq | apply Ev.rg | refine Ev.aKp ?_ | apply thenQ.n | apply thenQ.e | apply thenQ.r | apply blkQ.n | apply blkQ.e | refine blkQ.x ?_ rfl | apply blkQ.r | refine Ev.aT ?_ | refine Ev.aF ?_ | apply Ev.skip | apply Ev.exit | apply Ev.ret | apply Ev.bk | refine EvR.mv ?_ | refine EvR.fa ?_ | refine EvR.l1 ?_ | refine EvR.aNotSF ?_ | refine EvR.aNotST ?_ | refine EvR.aMetT ?_ | refine EvR.aMetF ?_ | refine EvR.aUS ?_ | refine EvR.mvc ?_ | refine EvR.lv ?_ | refine EvR.lp ?_ | refine EvR.lNp ?_ | refine EvR.pkT ?_ | refine EvR.pkF ?_ | refine EvR.lN ?_ | refine EvR.ix ?_ | refine EvR.le ?_ | refine EvR.ixo ?_ | refine EvR.l1o ?_ | refine EvR.lei ?_ | refine EvR.leb ?_ | refine EvR.lnr ?_ | refine EvR.lns ?_ | refine EvR.nt ?_ | refine EvR.lt ?_ | refine EvR.le_ ?_ | refine EvR.gt ?_ | refine EvR.ge ?_ | refine EvR.eqi ?_ | refine EvR.nei ?_ | refine EvR.add ?_ | refine EvR.sub ?_ | refine EvR.mul ?_ | refine EvR.rem ?_ | refine EvR.quo ?_ | refine EvR.nc ?_ | refine EvR.ex ?_ | refine EvR.f1 ?_ | refine EvR.fadd ?_ | refine EvR.fsub ?_ | refine EvR.fmul ?_ | refine EvR.fquo ?_ | refine EvR.flt_ ?_ | refine EvR.fle_ ?_ | refine EvR.fgt_ ?_ | refine EvR.fge_ ?_ | refine EvR.feq_ ?_ | refine EvR.fne_ ?_ | refine EvR.cv ?_ | refine EvR.cvu ?_ | refine EvR.cvf ?_ | refine EvR.cvw ?_ | refine EvR.bx ?_ | refine EvR.aNotNT ?_ | refine EvR.aNotNF ?_ | refine EvR.aUN ?_ | refine EvR.nl ?_ | refine EvR.so ?_ | (apply EvR.aCall h1.at_; (· exact eva); (· apply h1.ok <;> exact sid); (rintro _ _ ⟨rfl, rfl⟩; refine EvR.nrm ?_; try simp only [hs, hp])) | (apply EvR.aCall h2.at_; (· exact eva); (· apply h2.ok <;> exact sid); (rintro _ _ ⟨rfl, rfl⟩; refine EvR.nrm ?_; try simp only [hs, hp])) | (apply Ev.regionQ drk; (· exact quie)) | (apply Ev.regionN0 drk; (· exact quie)) | (apply Ev.regionA drk (by assumption); (· exact quie)) | (apply Ev.regionNA drk (by assumption); (· exact quie)) | (apply Ev.regionS0 drk; (· exact quie)) | (refine EvR.aSplB ?_ ?_ <;> (intro hb; rw [hb]; (try simp only [Bool.not_eq_true', Bool.not_eq_false', Bool.not_eq_eq_eq_not, Bool.not_true, Bool.not_false, decide_eq_true_eq, decide_eq_false_iff_not, Bool.and_eq_true, Bool.and_eq_false_iff, Bool.or_eq_true, Bool.or_eq_false_iff] at hb); (try (exfalso; omega)))) | (refine Ev.aSplB ?_ ?_ <;> (intro hb; (try rw [hb]); (try simp only [Bool.not_eq_true', Bool.not_eq_false', Bool.not_eq_eq_eq_not, Bool.not_true, Bool.not_false, decide_eq_true_eq, decide_eq_false_iff_not, Bool.and_eq_true, Bool.and_eq_false_iff, Bool.or_eq_true, Bool.or_eq_false_iff] at hb); (try (exfalso; omega)))) | (apply EvR.aS0; (· exact evc)) | (apply EvR.aN0; (· exact evc)) | (apply endS trivial; rotate_left; (· exact eva); (· rfl); try refine ⟨?_, rfl⟩) | fail)
    simp
  rw [show paintOk w h sp lo s l = true from by simp [paintOk, hs, hp], ciRes_t, ciRows_t]
  obtain ⟨a1, a2, a3, a4, q1, q2⟩ := isSheet_sides hs
  obtain ⟨n1, n2, n3, n4⟩ := paint_nums hs hp b1 b2
  obtain ⟨W, rfl⟩ := Int.eq_ofNat_of_zero_le (show 0 ≤ w by omega)
  obtain ⟨H, rfl⟩ := Int.eq_ofNat_of_zero_le (show 0 ≤ h by omega)
  have hWH : ((W * H : Nat) : Int) = (W : Int) * (H : Int) := Int.natCast_mul _ _
  have hl : sp.length = W * H := by omega
  have hl2 : lo.length = W * H := by omega
  have hcells : cellsN (onCell (fun x y => paintedQ sp lo s l (W * y.toNat + x.toNat)) W) (W * H) = cellsN (paintedQ sp lo s l) (W * H) := by
    refine cellsN_congr fun i hi => ?_
    show paintedQ sp lo s l (W * ((i / W : Nat) : Int).toNat + ((i % W : Nat) : Int).toNat) = _
    rw [Int.toNat_natCast, Int.toNat_natCast, Nat.div_add_mod]
  rw [hl, ← hcells]
  refine ret_gc rfl rfl ?_
  repeat' (first | apply Ev.sq | apply Ev.rg | refine Ev.aKp ?_ | apply thenQ.n | apply thenQ.e | apply thenQ.r | apply blkQ.n | apply blkQ.e | refine blkQ.x ?_ rfl | apply blkQ.r | refine Ev.aT ?_ | refine Ev.aF ?_ | apply Ev.skip | apply Ev.exit | apply Ev.ret | apply Ev.bk | refine EvR.mv ?_ | refine EvR.fa ?_ | refine EvR.l1 ?_ | refine EvR.aNotSF ?_ | refine EvR.aNotST ?_ | refine EvR.aMetT ?_ | refine EvR.aMetF ?_ | refine EvR.aUS ?_ | refine EvR.mvc ?_ | refine EvR.lv ?_ | refine EvR.lp ?_ | refine EvR.lNp ?_ | refine EvR.pkT ?_ | refine EvR.pkF ?_ | refine EvR.lN ?_ | refine EvR.ix ?_ | refine EvR.le ?_ | refine EvR.ixo ?_ | refine EvR.l1o ?_ | refine EvR.lei ?_ | refine EvR.leb ?_ | refine EvR.lnr ?_ | refine EvR.lns ?_ | refine EvR.nt ?_ | refine EvR.lt ?_ | refine EvR.le_ ?_ | refine EvR.gt ?_ | refine EvR.ge ?_ | refine EvR.eqi ?_ | refine EvR.nei ?_ | refine EvR.add ?_ | refine EvR.sub ?_ | refine EvR.mul ?_ | refine EvR.rem ?_ | refine EvR.quo ?_ | refine EvR.nc ?_ | refine EvR.ex ?_ | refine EvR.f1 ?_ | refine EvR.fadd ?_ | refine EvR.fsub ?_ | refine EvR.fmul ?_ | refine EvR.fquo ?_ | refine EvR.flt_ ?_ | refine EvR.fle_ ?_ | refine EvR.fgt_ ?_ | refine EvR.fge_ ?_ | refine EvR.feq_ ?_ | refine EvR.fne_ ?_ | refine EvR.cv ?_ | refine EvR.cvu ?_ | refine EvR.cvf ?_ | refine EvR.cvw ?_ | refine EvR.bx ?_ | refine EvR.aNotNT ?_ | refine EvR.aNotNF ?_ | refine EvR.aUN ?_ | refine EvR.nl ?_ | refine EvR.so ?_ | (apply EvR.aCall h1.at_; (· exact eva); (· apply h1.ok <;> exact sid); (rintro _ _ ⟨rfl, rfl⟩; refine EvR.nrm ?_; try simp only [hs, hp])) | (apply EvR.aCall h2.at_; (· exact eva); (· apply h2.ok <;> exact sid); (rintro _ _ ⟨rfl, rfl⟩; refine EvR.nrm ?_; try simp only [hs, hp])) | (apply Ev.regionQ drk; (· exact quie)) | (apply Ev.regionN0 drk; (· exact quie)) | (apply Ev.regionA drk (by assumption); (· exact quie)) | (apply Ev.regionNA drk (by assumption); (· exact quie)) | (apply Ev.regionS0 drk; (· exact quie)) | (refine EvR.aSplB ?_ ?_ <;> (intro hb; rw [hb]; (try simp only [Bool.not_eq_true', Bool.not_eq_false', Bool.not_eq_eq_eq_not, Bool.not_true, Bool.not_false, decide_eq_true_eq, decide_eq_false_iff_not, Bool.and_eq_true, Bool.and_eq_false_iff, Bool.or_eq_true, Bool.or_eq_false_iff] at hb); (try (exfalso; omega)))) | (refine Ev.aSplB ?_ ?_ <;> (intro hb; (try rw [hb]); (try simp only [Bool.not_eq_true', Bool.not_eq_false', Bool.not_eq_eq_eq_not, Bool.not_true, Bool.not_false, decide_eq_true_eq, decide_eq_false_iff_not, Bool.and_eq_true, Bool.and_eq_false_iff, Bool.or_eq_true, Bool.or_eq_false_iff] at hb); (try (exfalso; omega)))) | (apply EvR.aS0; (· exact evc)) | (apply EvR.aN0; (· exact evc)) | (apply endS trivial; rotate_left; (· exact eva); (· rfl); try refine ⟨?_, rfl⟩) | fail)
  (apply EvR.aCall h4.at_; (· exact eva); (· exact  h4.ok _ W H wr sv lv _ (fun x y => paintedQ sp lo s l (W * y.toNat + x.toNat)) r1.ok r2.ok (by omega) (by omega) (by omega) (by omega) (by intro x y hx hy τ; exact h3 _ (σ.length + 0) (σ.length + 1) W H wr sv lv sp lo s l true true x y (by rw [List.append_assoc, hget]; rfl) (by rw [List.append_assoc, hget]; rfl) ⟨(r1.ext _).ext _, (r2.ext _).ext _⟩ (by omega) (by omega) (by omega) (by omega) hl hl2 n1 n2 b3 n3 b4 n4 hx hy)); (rintro _ _ ⟨rfl, rfl⟩; refine EvR.nrm ?_))
  repeat' (first | apply Ev.sq | apply Ev.rg | refine Ev.aKp ?_ | apply thenQ.n | apply thenQ.e | apply thenQ.r | apply blkQ.n | apply blkQ.e | refine blkQ.x ?_ rfl | apply blkQ.r | refine Ev.aT ?_ | refine Ev.aF ?_ | apply Ev.skip | apply Ev.exit | apply Ev.ret | apply Ev.bk | refine EvR.mv ?_ | refine EvR.fa ?_ | refine EvR.l1 ?_ | refine EvR.aNotSF ?_ | refine EvR.aNotST ?_ | refine EvR.aMetT ?_ | refine EvR.aMetF ?_ | refine EvR.aUS ?_ | refine EvR.mvc ?_ | refine EvR.lv ?_ | refine EvR.lp ?_ | refine EvR.lNp ?_ | refine EvR.pkT ?_ | refine EvR.pkF ?_ | refine EvR.lN ?_ | refine EvR.ix ?_ | refine EvR.le ?_ | refine EvR.ixo ?_ | refine EvR.l1o ?_ | refine EvR.lei ?_ | refine EvR.leb ?_ | refine EvR.lnr ?_ | refine EvR.lns ?_ | refine EvR.nt ?_ | refine EvR.lt ?_ | refine EvR.le_ ?_ | refine EvR.gt ?_ | refine EvR.ge ?_ | refine EvR.eqi ?_ | refine EvR.nei ?_ | refine EvR.add ?_ | refine EvR.sub ?_ | refine EvR.mul ?_ | refine EvR.rem ?_ | refine EvR.quo ?_ | refine EvR.nc ?_ | refine EvR.ex ?_ | refine EvR.f1 ?_ | refine EvR.fadd ?_ | refine EvR.fsub ?_ | refine EvR.fmul ?_ | refine EvR.fquo ?_ | refine EvR.flt_ ?_ | refine EvR.fle_ ?_ | refine EvR.fgt_ ?_ | refine EvR.fge_ ?_ | refine EvR.feq_ ?_ | refine EvR.fne_ ?_ | refine EvR.cv ?_ | refine EvR.cvu ?_ | refine EvR.cvf ?_ | refine EvR.cvw ?_ | refine EvR.bx ?_ | refine EvR.aNotNT ?_ | refine EvR.aNotNF ?_ | refine EvR.aUN ?_ | refine EvR.nl ?_ | refine EvR.so ?_ | (apply Ev.regionQ drk; (· exact quie)) | (apply Ev.regionN0 drk; (· exact quie)) | (apply Ev.regionA drk (by assumption); (· exact quie)) | (apply Ev.regionNA drk (by assumption); (· exact quie)) | (apply Ev.regionS0 drk; (· exact quie)) | (refine EvR.aSplB ?_ ?_ <;> (intro hb; rw [hb]; (try simp only [Bool.not_eq_true', Bool.not_eq_false', Bool.not_eq_eq_eq_not, Bool.not_true, Bool.not_false, decide_eq_true_eq, decide_eq_false_iff_not, Bool.and_eq_true, Bool.and_eq_false_iff, Bool.or_eq_true, Bool.or_eq_false_iff] at hb); (try (exfalso; omega)))) | (refine Ev.aSplB ?_ ?_ <;> (intro hb; (try rw [hb]); (try simp only [Bool.not_eq_true', Bool.not_eq_false', Bool.not_eq_eq_eq_not, Bool.not_true, Bool.not_false, decide_eq_true_eq, decide_eq_false_iff_not, Bool.and_eq_true, Bool.and_eq_false_iff, Bool.or_eq_true, Bool.or_eq_false_iff] at hb); (try (exfalso; omega)))) | (apply EvR.aS0; (· exact evc)) | (apply EvR.aN0; (· exact evc)) | (apply endS trivial; rotate_left; (· exact eva); (· rfl); try refine ⟨?_, rfl⟩) | fail)
  (apply endR [2] trivial ⟨rfl, rfl⟩; (· exact eva); (· simp [gcTop, gcVal, gcLeaf, gcLeaves, gcVals, constOk, gc_lt, gc_lt0]); (· rfl); (· decide); (· simp [allConst, f32s, i64s, b8s, bools, constOk]))

theorem spec_PaintedCells_law {C : Ctab} {i1 i2 i3 : FuncId} {c1 c2 c3 : Contract} (h1 : Has C i1 c1 spec_l02Is_ok) (h2 : Has C i2 c2 spec_l09Is_ok) (h3 : Has C i3 c3 spec_l01Same_ok) : spec_PaintedCells_ok (gcC C (spec_PaintedCells i1 i2 i3) true) := by
  intro σ w h wr sv lv sp lo s l ⟨r1, r2⟩ hn1 hn2 b1 b2 b3 b4
  have hpt : ∀ τ : Heap, (σ ++ (⟨[.int .i64 w, .int .i64 h, .bool wr, sv, lv], 0, true⟩ :: ⟨[.float .f32 s, .float .f32 l], 0, true⟩ :: τ))[σ.length + 1]? = some ⟨[.float .f32 s, .float .f32 l], 0, true⟩ := fun τ => by rw [hget]; rfl
  cases hs : isSheet w h sp lo
  · rw [show paintOk w h sp lo s l = false from by simp [paintOk, hs], ciRes_f, ciRows_f]
    refine ret_gc rfl rfl ?_
    repeat' (first | apply Ev.sq | apply Ev.rg | refine Ev.aKp ?_ | apply thenQ.n | apply thenQ.e | apply thenQ.r | apply blkQ.n | apply blkQ.e | refine blkQ.x ?_ rfl | apply blkQ.r | refine Ev.aT ?_ | refine Ev.aF ?_ | apply Ev.skip | apply Ev.exit | apply Ev.ret | apply Ev.bk | refine EvR.mv ?_ | refine EvR.fa ?_ | refine EvR.l1 ?_ | refine EvR.aNotSF ?_ | refine EvR.aNotST ?_ | refine EvR.aMetT ?_ | refine EvR.aMetF ?_ | refine EvR.aUS ?_ | refine EvR.mvc ?_ | refine EvR.lv ?_ | refine EvR.lp ?_ | refine EvR.lNp ?_ | refine EvR.pkT ?_ | refine EvR.pkF ?_ | refine EvR.lN ?_ | refine EvR.ix ?_ | refine EvR.le ?_ | refine EvR.ixo ?_ | refine EvR.l1o ?_ | refine EvR.lei ?_ | refine EvR.leb ?_ | refine EvR.lnr ?_ | refine EvR.lns ?_ | refine EvR.nt ?_ | refine EvR.lt ?_ | refine EvR.le_ ?_ | refine EvR.gt ?_ | refine EvR.ge ?_ | refine EvR.eqi ?_ | refine EvR.nei ?_ | refine EvR.add ?_ | refine EvR.sub ?_ | refine EvR.mul ?_ | refine EvR.rem ?_ | refine EvR.quo ?_ | refine EvR.nc ?_ | refine EvR.ex ?_ | refine EvR.f1 ?_ | refine EvR.fadd ?_ | refine EvR.fsub ?_ | refine EvR.fmul ?_ | refine EvR.fquo ?_ | refine EvR.flt_ ?_ | refine EvR.fle_ ?_ | refine EvR.fgt_ ?_ | refine EvR.fge_ ?_ | refine EvR.feq_ ?_ | refine EvR.fne_ ?_ | refine EvR.cv ?_ | refine EvR.cvu ?_ | refine EvR.cvf ?_ | refine EvR.cvw ?_ | refine EvR.bx ?_ | refine EvR.aNotNT ?_ | refine EvR.aNotNF ?_ | refine EvR.aUN ?_ | refine EvR.nl ?_ | refine EvR.so ?_ | (apply EvR.aCall h1.at_; (· exact eva); (· apply h1.ok <;> exact sid); (rintro _ _ ⟨rfl, rfl⟩; refine EvR.nrm ?_; try simp only [hs])) | (apply Ev.regionQ drk; (· exact quie)) | (apply Ev.regionN0 drk; (· exact quie)) | (apply Ev.regionA drk (by assumption); (· exact quie)) | (apply Ev.regionNA drk (by assumption); (· exact quie)) | (apply Ev.regionS0 drk; (· exact quie)) | (refine EvR.aSplB ?_ ?_ <;> (intro hb; rw [hb]; (try simp only [Bool.not_eq_true', Bool.not_eq_false', Bool.not_eq_eq_eq_not, Bool.not_true, Bool.not_false, decide_eq_true_eq, decide_eq_false_iff_not, Bool.and_eq_true, Bool.and_eq_false_iff, Bool.or_eq_true, Bool.or_eq_false_iff] at hb); (try (exfalso; omega)))) | (refine Ev.aSplB ?_ ?_ <;> (intro hb; (try rw [hb]); (try simp only [Bool.not_eq_true', Bool.not_eq_false', Bool.not_eq_eq_eq_not, Bool.not_true, Bool.not_false, decide_eq_true_eq, decide_eq_false_iff_not, Bool.and_eq_true, Bool.and_eq_false_iff, Bool.or_eq_true, Bool.or_eq_false_iff] at hb); (try (exfalso; omega)))) | (apply EvR.aS0; (· exact evc)) | (apply EvR.aN0; (· exact evc)) | (apply endS trivial; rotate_left; (· exact eva); (· rfl); try refine ⟨?_, rfl⟩) | fail)
    simp
  cases hp : isPaint s l
  · rw [show paintOk w h sp lo s l = false from by simp [paintOk, hp], ciRes_f, ciRows_f]
    refine ret_gc rfl rfl ?_
    repeat' (first | apply Ev.sq | apply Ev.rg | refine Ev.aKp ?_ | apply thenQ.n | apply thenQ.e | apply thenQ.r | apply blkQ.n | apply blkQ.e | refine blkQ.x ?_ rfl | apply blkQ.r | refine Ev.aT ?_ | refine Ev.aF ?_ | apply Ev.skip | apply Ev.exit | apply Ev.ret | apply Ev.bk | refine EvR.mv ?_ | refine EvR.fa ?_ | refine EvR.l1 ?_ | refine EvR.aNotSF ?_ | refine EvR.aNotST ?_ | refine EvR.aMetT ?_ | refine EvR.aMetF ?_ | refine EvR.aUS ?_ | refine EvR.mvc ?_ | refine EvR.lv ?_ | refine EvR.lp ?_ | refine EvR.lNp ?_ | refine EvR.pkT ?_ | refine EvR.pkF ?_ | refine EvR.lN ?_ | refine EvR.ix ?_ | refine EvR.le ?_ | refine EvR.ixo ?_ | refine EvR.l1o ?_ | refine EvR.lei ?_ | refine EvR.leb ?_ | refine EvR.lnr ?_ | refine EvR.lns ?_ | refine EvR.nt ?_ | refine EvR.lt ?_ | refine EvR.le_ ?_ | refine EvR.gt ?_ | refine EvR.ge ?_ | refine EvR.eqi ?_ | refine EvR.nei ?_ | refine EvR.add ?_ | refine EvR.sub ?_ | refine EvR.mul ?_ | refine EvR.rem ?_ | refine EvR.quo ?_ | refine EvR.nc ?_ | refine EvR.ex ?_ | refine EvR.f1 ?_ | refine EvR.fadd ?_ | refine EvR.fsub ?_ | refine EvR.fmul ?_ | refine EvR.fquo ?_ | refine EvR.flt_ ?_ | refine EvR.fle_ ?_ | refine EvR.fgt_ ?_ | refine EvR.fge_ ?_ | refine EvR.feq_ ?_ | refine EvR.fne_ ?_ | refine EvR.cv ?_ | refine EvR.cvu ?_ | refine EvR.cvf ?_ | refine EvR.cvw ?_ | refine EvR.bx ?_ | refine EvR.aNotNT ?_ | refine EvR.aNotNF ?_ | refine EvR.aUN ?_ | refine EvR.nl ?_ | refine EvR.so ?_ | (apply EvR.aCall h1.at_; (· exact eva); (· apply h1.ok <;> exact sid); (rintro _ _ ⟨rfl, rfl⟩; refine EvR.nrm ?_; try simp only [hs])) | (apply Ev.regionQ drk; (· exact quie)) | (apply Ev.regionN0 drk; (· exact quie)) | (apply Ev.regionA drk (by assumption); (· exact quie)) | (apply Ev.regionNA drk (by assumption); (· exact quie)) | (apply Ev.regionS0 drk; (· exact quie)) | (refine EvR.aSplB ?_ ?_ <;> (intro hb; rw [hb]; (try simp only [Bool.not_eq_true', Bool.not_eq_false', Bool.not_eq_eq_eq_not, Bool.not_true, Bool.not_false, decide_eq_true_eq, decide_eq_false_iff_not, Bool.and_eq_true, Bool.and_eq_false_iff, Bool.or_eq_true, Bool.or_eq_false_iff] at hb); (try (exfalso; omega)))) | (refine Ev.aSplB ?_ ?_ <;> (intro hb; (try rw [hb]); (try simp only [Bool.not_eq_true', Bool.not_eq_false', Bool.not_eq_eq_eq_not, Bool.not_true, Bool.not_false, decide_eq_true_eq, decide_eq_false_iff_not, Bool.and_eq_true, Bool.and_eq_false_iff, Bool.or_eq_true, Bool.or_eq_false_iff] at hb); (try (exfalso; omega)))) | (apply EvR.aS0; (· exact evc)) | (apply EvR.aN0; (· exact evc)) | (apply endS trivial; rotate_left; (· exact eva); (· rfl); try refine ⟨?_, rfl⟩) | fail)
    (apply EvR.aCall h2.at_; (· exact eva); (· exact  h2.ok _ (σ.length + 1) s l true (hpt _)); (rintro _ _ ⟨rfl, rfl⟩; refine EvR.nrm ?_))
    rw [hp]
    repeat' (first | apply Ev.sq | apply Ev.rg | refine Ev.aKp ?_ | apply thenQ.n | apply thenQ.e | apply thenQ.r | apply blkQ.n | apply blkQ.e | refine blkQ.x ?_ rfl | apply blkQ.r | refine Ev.aT ?_ | refine Ev.aF ?_ | apply Ev.skip | apply Ev.exit | apply Ev.ret | apply Ev.bk | refine EvR.mv ?_ | refine EvR.fa ?_ | refine EvR.l1 ?_ | refine EvR.aNotSF ?_ | refine EvR.aNotST ?_ | refine EvR.aMetT ?_ | refine EvR.aMetF ?_ | refine EvR.aUS ?_ | refine EvR.mvc ?_ | refine EvR.lv ?_ | refine EvR.lp ?_ | refine EvR.lNp ?_ | refine EvR.pkT ?_ | refine EvR.pkF ?_ | refine EvR.lN ?_ | refine EvR.ix ?_ | refine EvR.le ?_ | refine EvR.ixo ?_ | refine EvR.l1o ?_ | refine EvR.lei ?_ | refine EvR.leb ?_ | refine EvR.lnr ?_ | refine EvR.lns ?_ | refine EvR.nt ?_ | refine EvR.lt ?_ | refine EvR.le_ ?_ | refine EvR.gt ?_ | refine EvR.ge ?_ | refine EvR.eqi ?_ | refine EvR.nei ?_ | refine EvR.add ?_ | refine EvR.sub ?_ | refine EvR.mul ?_ | refine EvR.rem ?_ | refine EvR.quo ?_ | refine EvR.nc ?_ | refine EvR.ex ?_ | refine EvR.f1 ?_ | refine EvR.fadd ?_ | refine EvR.fsub ?_ | refine EvR.fmul ?_ | refine EvR.fquo ?_ | refine EvR.flt_ ?_ | refine EvR.fle_ ?_ | refine EvR.fgt_ ?_ | refine EvR.fge_ ?_ | refine EvR.feq_ ?_ | refine EvR.fne_ ?_ | refine EvR.cv ?_ | refine EvR.cvu ?_ | refine EvR.cvf ?_ | refine EvR.cvw ?_ | refine EvR.bx ?_ | refine EvR.aNotNT ?_ | refine EvR.aNotNF ?_ | refine EvR.aUN ?_ | refine EvR.nl ?_ | refine EvR.so ?_ | (apply Ev.regionQ drk; (· exact quie)) | (apply Ev.regionN0 drk; (· exact quie)) | (apply Ev.regionA drk (by assumption); (· exact quie)) | (apply Ev.regionNA drk (by assumption); (· exact quie)) | (apply Ev.regionS0 drk; (· exact quie)) | (refine EvR.aSplB ?_ ?_ <;> (intro hb; rw [hb]; (try simp only [Bool.not_eq_true', Bool.not_eq_false', Bool.not_eq_eq_eq_not, Bool.not_true, Bool.not_false, decide_eq_true_eq, decide_eq_false_iff_not, Bool.and_eq_true, Bool.and_eq_false_iff, Bool.or_eq_true, Bool.or_eq_false_iff] at hb); (try (exfalso; omega)))) | (refine Ev.aSplB ?_ ?_ <;> (intro hb; (try rw [hb]); (try simp only [Bool.not_eq_true', Bool.not_eq_false', Bool.not_eq_eq_eq_not, Bool.not_true, Bool.not_false, decide_eq_true_eq, decide_eq_false_iff_not, Bool.and_eq_true, Bool.and_eq_false_iff, Bool.or_eq_true, Bool.or_eq_false_iff] at hb); (try (exfalso; omega)))) | (apply EvR.aS0; (· exact evc)) | (apply EvR.aN0; (· exact evc)) | (apply endS trivial; rotate_left; (· exact eva); (· rfl); try refine ⟨?_, rfl⟩) | fail)
    simp
  rw [show paintOk w h sp lo s l = true from by simp [paintOk, hs, hp], ciRes_t, ciRows_t]
  obtain ⟨a1, a2, a3, a4, q1, q2⟩ := isSheet_sides hs
  obtain ⟨n1, n2, n3, n4⟩ := paint_nums hs hp b1 b2
  have hl2 : lo.length = sp.length := by omega
  obtain ⟨Q, hQ⟩ : ∃ Q, Q = paintedQ sp lo s l := ⟨_, rfl⟩
  rw [← hQ]
  refine ret_gc rfl rfl ?_
  repeat' (first | apply Ev.sq | apply Ev.rg | refine Ev.aKp ?_ | apply thenQ.n | apply thenQ.e | apply thenQ.r | apply blkQ.n | apply blkQ.e | refine blkQ.x ?_ rfl | apply blkQ.r | refine Ev.aT ?_ | refine Ev.aF ?_ | apply Ev.skip | apply Ev.exit | apply Ev.ret | apply Ev.bk | refine EvR.mv ?_ | refine EvR.fa ?_ | refine EvR.l1 ?_ | refine EvR.aNotSF ?_ | refine EvR.aNotST ?_ | refine EvR.aMetT ?_ | refine EvR.aMetF ?_ | refine EvR.aUS ?_ | refine EvR.mvc ?_ | refine EvR.lv ?_ | refine EvR.lp ?_ | refine EvR.lNp ?_ | refine EvR.pkT ?_ | refine EvR.pkF ?_ | refine EvR.lN ?_ | refine EvR.ix ?_ | refine EvR.le ?_ | refine EvR.ixo ?_ | refine EvR.l1o ?_ | refine EvR.lei ?_ | refine EvR.leb ?_ | refine EvR.lnr ?_ | refine EvR.lns ?_ | refine EvR.nt ?_ | refine EvR.lt ?_ | refine EvR.le_ ?_ | refine EvR.gt ?_ | refine EvR.ge ?_ | refine EvR.eqi ?_ | refine EvR.nei ?_ | refine EvR.add ?_ | refine EvR.sub ?_ | refine EvR.mul ?_ | refine EvR.rem ?_ | refine EvR.quo ?_ | refine EvR.nc ?_ | refine EvR.ex ?_ | refine EvR.f1 ?_ | refine EvR.fadd ?_ | refine EvR.fsub ?_ | refine EvR.fmul ?_ | refine EvR.fquo ?_ | refine EvR.flt_ ?_ | refine EvR.fle_ ?_ | refine EvR.fgt_ ?_ | refine EvR.fge_ ?_ | refine EvR.feq_ ?_ | refine EvR.fne_ ?_ | refine EvR.cv ?_ | refine EvR.cvu ?_ | refine EvR.cvf ?_ | refine EvR.cvw ?_ | refine EvR.bx ?_ | refine EvR.aNotNT ?_ | refine EvR.aNotNF ?_ | refine EvR.aUN ?_ | refine EvR.nl ?_ | refine EvR.so ?_ | (apply EvR.aCall h1.at_; (· exact eva); (· apply h1.ok <;> exact sid); (rintro _ _ ⟨rfl, rfl⟩; refine EvR.nrm ?_; try simp only [hs])) | (apply Ev.regionQ drk; (· exact quie)) | (apply Ev.regionN0 drk; (· exact quie)) | (apply Ev.regionA drk (by assumption); (· exact quie)) | (apply Ev.regionNA drk (by assumption); (· exact quie)) | (apply Ev.regionS0 drk; (· exact quie)) | (refine EvR.aSplB ?_ ?_ <;> (intro hb; rw [hb]; (try simp only [Bool.not_eq_true', Bool.not_eq_false', Bool.not_eq_eq_eq_not, Bool.not_true, Bool.not_false, decide_eq_true_eq, decide_eq_false_iff_not, Bool.and_eq_true, Bool.and_eq_false_iff, Bool.or_eq_true, Bool.or_eq_false_iff] at hb); (try (exfalso; omega)))) | (refine Ev.aSplB ?_ ?_ <;> (intro hb; (try rw [hb]); (try simp only [Bool.not_eq_true', Bool.not_eq_false', Bool.not_eq_eq_eq_not, Bool.not_true, Bool.not_false, decide_eq_true_eq, decide_eq_false_iff_not, Bool.and_eq_true, Bool.and_eq_false_iff, Bool.or_eq_true, Bool.or_eq_false_iff] at hb); (try (exfalso; omega)))) | (apply EvR.aS0; (· exact evc)) | (apply EvR.aN0; (· exact evc)) | (apply endS trivial; rotate_left; (· exact eva); (· rfl); try refine ⟨?_, rfl⟩) | fail)
  (apply EvR.aCall h2.at_; (· exact eva); (· exact  h2.ok _ (σ.length + 1) s l true (hpt _)); (rintro _ _ ⟨rfl, rfl⟩; refine EvR.nrm ?_))
  rw [hp]
  repeat' (first | apply Ev.sq | apply Ev.rg | refine Ev.aKp ?_ | apply thenQ.n | apply thenQ.e | apply thenQ.r | apply blkQ.n | apply blkQ.e | refine blkQ.x ?_ rfl | apply blkQ.r | refine Ev.aT ?_ | refine Ev.aF ?_ | apply Ev.skip | apply Ev.exit | apply Ev.ret | apply Ev.bk | refine EvR.mv ?_ | refine EvR.fa ?_ | refine EvR.l1 ?_ | refine EvR.aNotSF ?_ | refine EvR.aNotST ?_ | refine EvR.aMetT ?_ | refine EvR.aMetF ?_ | refine EvR.aUS ?_ | refine EvR.mvc ?_ | refine EvR.lv ?_ | refine EvR.lp ?_ | refine EvR.lNp ?_ | refine EvR.pkT ?_ | refine EvR.pkF ?_ | refine EvR.lN ?_ | refine EvR.ix ?_ | refine EvR.le ?_ | refine EvR.ixo ?_ | refine EvR.l1o ?_ | refine EvR.lei ?_ | refine EvR.leb ?_ | refine EvR.lnr ?_ | refine EvR.lns ?_ | refine EvR.nt ?_ | refine EvR.lt ?_ | refine EvR.le_ ?_ | refine EvR.gt ?_ | refine EvR.ge ?_ | refine EvR.eqi ?_ | refine EvR.nei ?_ | refine EvR.add ?_ | refine EvR.sub ?_ | refine EvR.mul ?_ | refine EvR.rem ?_ | refine EvR.quo ?_ | refine EvR.nc ?_ | refine EvR.ex ?_ | refine EvR.f1 ?_ | refine EvR.fadd ?_ | refine EvR.fsub ?_ | refine EvR.fmul ?_ | refine EvR.fquo ?_ | refine EvR.flt_ ?_ | refine EvR.fle_ ?_ | refine EvR.fgt_ ?_ | refine EvR.fge_ ?_ | refine EvR.feq_ ?_ | refine EvR.fne_ ?_ | refine EvR.cv ?_ | refine EvR.cvu ?_ | refine EvR.cvf ?_ | refine EvR.cvw ?_ | refine EvR.bx ?_ | refine EvR.aNotNT ?_ | refine EvR.aNotNF ?_ | refine EvR.aUN ?_ | refine EvR.nl ?_ | refine EvR.so ?_ | (apply Ev.regionQ drk; (· exact quie)) | (apply Ev.regionN0 drk; (· exact quie)) | (apply Ev.regionA drk (by assumption); (· exact quie)) | (apply Ev.regionNA drk (by assumption); (· exact quie)) | (apply Ev.regionS0 drk; (· exact quie)) | (refine EvR.aSplB ?_ ?_ <;> (intro hb; rw [hb]; (try simp only [Bool.not_eq_true', Bool.not_eq_false', Bool.not_eq_eq_eq_not, Bool.not_true, Bool.not_false, decide_eq_true_eq, decide_eq_false_iff_not, Bool.and_eq_true, Bool.and_eq_false_iff, Bool.or_eq_true, Bool.or_eq_false_iff] at hb); (try (exfalso; omega)))) | (refine Ev.aSplB ?_ ?_ <;> (intro hb; (try rw [hb]); (try simp only [Bool.not_eq_true', Bool.not_eq_false', Bool.not_eq_eq_eq_not, Bool.not_true, Bool.not_false, decide_eq_true_eq, decide_eq_false_iff_not, Bool.and_eq_true, Bool.and_eq_false_iff, Bool.or_eq_true, Bool.or_eq_false_iff] at hb); (try (exfalso; omega)))) | (apply EvR.aS0; (· exact evc)) | (apply EvR.aN0; (· exact evc)) | (apply endS trivial; rotate_left; (· exact eva); (· rfl); try refine ⟨?_, rfl⟩) | fail)
  refine Ev.whlH (S := Nat × Heap) (fun st => sp.length - st.1) (fun st => [(6, .slice (some ⟨σ.length + 2, 0, none⟩) (cellsN Q st.1).length (cellsN Q st.1).length), (18, .int .i64 st.1)])
    (fun st => σ ++ (⟨[.int .i64 w, .int .i64 h, .bool wr, sv, lv], 0, true⟩ :: ⟨[.float .f32 s, .float .f32 l], 0, true⟩ :: rowI (cellsN Q st.1) :: st.2)) (fun st => st.1 ≤ sp.length) (0, []) (by (simp only [List.cons_append, List.nil_append, ↓fget_cons, push_cast, Nat.reduceEqDiff, reduceIte] <;> rfl)) rfl (Nat.zero_le _) ?_
  rintro ⟨i, rub⟩ F hF hi
  dsimp only at hi hF ⊢
  (simp only [List.cons_append, List.nil_append, ↓fget_cons, fkeep_cons, fkeep_nil, Nat.reduceEqDiff, reduceIte] at hF; subst hF)
  have hlen := cellsN_len Q i
  by_cases hlt : i < sp.length
  · obtain ⟨e1, e2⟩ := n1 i hlt
    obtain ⟨e3, e4⟩ := n2 i (by omega)
    have eq : Q i = (decide (sp.getD i 0 = s) && decide (lo.getD i 0 = l)) := by rw [hQ]; rfl
    have ct : Q i = true → cellsN Q (i + 1) = cellsN Q i ++ [(i : Int)] := cellsN_t
    have cf : Q i = false → cellsN Q (i + 1) = cellsN Q i := cellsN_f
    repeat' (first | apply Ev.sq | apply Ev.rg | refine Ev.aKp ?_ | apply thenQ.n | apply thenQ.e | apply thenQ.r | apply blkQ.n | apply blkQ.e | refine blkQ.x ?_ rfl | apply blkQ.r | refine Ev.aT ?_ | refine Ev.aF ?_ | apply Ev.skip | apply Ev.exit | apply Ev.ret | apply Ev.bk | refine EvR.mv ?_ | refine EvR.fa ?_ | refine EvR.l1 ?_ | refine EvR.aNotSF ?_ | refine EvR.aNotST ?_ | refine EvR.aMetT ?_ | refine EvR.aMetF ?_ | refine EvR.aUS ?_ | refine EvR.mvc ?_ | refine EvR.lv ?_ | refine EvR.lp ?_ | refine EvR.lNp ?_ | refine EvR.pkT ?_ | refine EvR.pkF ?_ | refine EvR.lN ?_ | refine EvR.ix ?_ | refine EvR.le ?_ | refine EvR.ixo ?_ | refine EvR.l1o ?_ | refine EvR.lei ?_ | refine EvR.leb ?_ | refine EvR.lnr ?_ | refine EvR.lns ?_ | refine EvR.nt ?_ | refine EvR.lt ?_ | refine EvR.le_ ?_ | refine EvR.gt ?_ | refine EvR.ge ?_ | refine EvR.eqi ?_ | refine EvR.nei ?_ | refine EvR.add ?_ | refine EvR.sub ?_ | refine EvR.mul ?_ | refine EvR.rem ?_ | refine EvR.quo ?_ | refine EvR.nc ?_ | refine EvR.ex ?_ | refine EvR.f1 ?_ | refine EvR.fadd ?_ | refine EvR.fsub ?_ | refine EvR.fmul ?_ | refine EvR.fquo ?_ | refine EvR.flt_ ?_ | refine EvR.fle_ ?_ | refine EvR.fgt_ ?_ | refine EvR.fge_ ?_ | refine EvR.feq_ ?_ | refine EvR.fne_ ?_ | refine EvR.cv ?_ | refine EvR.cvu ?_ | refine EvR.cvf ?_ | refine EvR.cvw ?_ | refine EvR.bx ?_ | refine EvR.aNotNT ?_ | refine EvR.aNotNF ?_ | refine EvR.aUN ?_ | refine EvR.nl ?_ | refine EvR.so ?_ | (apply EvR.aCall h3.at_; (· exact eva); (· apply h3.ok <;> exact sid); (rintro _ _ ⟨rfl, rfl⟩; refine EvR.nrm ?_)) | (apply Ev.regionQ drk; (· exact quie)) | (apply Ev.regionN0 drk; (· exact quie)) | (apply Ev.regionA drk (by assumption); (· exact quie)) | (apply Ev.regionNA drk (by assumption); (· exact quie)) | (apply Ev.regionS0 drk; (· exact quie)) | (refine EvR.aSplB ?_ ?_ <;> (intro hb; rw [hb]; (try simp only [Bool.not_eq_true', Bool.not_eq_false', Bool.not_eq_eq_eq_not, Bool.not_true, Bool.not_false, decide_eq_true_eq, decide_eq_false_iff_not, Bool.and_eq_true, Bool.and_eq_false_iff, Bool.or_eq_true, Bool.or_eq_false_iff] at hb); (try (exfalso; omega)))) | (refine Ev.aSplB ?_ ?_ <;> (intro hb; (try rw [hb]); (try simp only [Bool.not_eq_true', Bool.not_eq_false', Bool.not_eq_eq_eq_not, Bool.not_true, Bool.not_false, decide_eq_true_eq, decide_eq_false_iff_not, Bool.and_eq_true, Bool.and_eq_false_iff, Bool.or_eq_true, Bool.or_eq_false_iff] at hb); (try (exfalso; omega)))) | (apply EvR.aS0; (· exact evc)) | (apply EvR.aN0; (· exact evc)) | (apply endS trivial; rotate_left; (· exact eva); (· rfl); try refine ⟨?_, rfl⟩) | fail)
    all_goals first
      | (have e := ct (by rw [eq]; simp_all)
         have e2 : (cellsN Q (i + 1)).length = (cellsN Q i).length + 1 := by rw [e]; simp
         exact ⟨(i + 1, rub ++ [rowI [(i : Int)]]), by dsimp only; omega, by rw [e2]; (simp only [List.cons_append, List.nil_append, ↓fget_cons, push_cast, Nat.reduceEqDiff, reduceIte] <;> rfl), by dsimp only; rw [e]; rfl, by dsimp only; omega⟩)
      | (have e := cf (by rw [eq]; simp_all)
         exact ⟨(i + 1, rub), by dsimp only; omega, by rw [e]; (simp only [List.cons_append, List.nil_append, ↓fget_cons, push_cast, Nat.reduceEqDiff, reduceIte] <;> rfl), by dsimp only; rw [e], by dsimp only; omega⟩)
  · obtain rfl : i = sp.length := by omega
    repeat' (first | apply Ev.sq | apply Ev.rg | refine Ev.aKp ?_ | apply thenQ.n | apply thenQ.e | apply thenQ.r | apply blkQ.n | apply blkQ.e | refine blkQ.x ?_ rfl | apply blkQ.r | refine Ev.aT ?_ | refine Ev.aF ?_ | apply Ev.skip | apply Ev.exit | apply Ev.ret | apply Ev.bk | refine EvR.mv ?_ | refine EvR.fa ?_ | refine EvR.l1 ?_ | refine EvR.aNotSF ?_ | refine EvR.aNotST ?_ | refine EvR.aMetT ?_ | refine EvR.aMetF ?_ | refine EvR.aUS ?_ | refine EvR.mvc ?_ | refine EvR.lv ?_ | refine EvR.lp ?_ | refine EvR.lNp ?_ | refine EvR.pkT ?_ | refine EvR.pkF ?_ | refine EvR.lN ?_ | refine EvR.ix ?_ | refine EvR.le ?_ | refine EvR.ixo ?_ | refine EvR.l1o ?_ | refine EvR.lei ?_ | refine EvR.leb ?_ | refine EvR.lnr ?_ | refine EvR.lns ?_ | refine EvR.nt ?_ | refine EvR.lt ?_ | refine EvR.le_ ?_ | refine EvR.gt ?_ | refine EvR.ge ?_ | refine EvR.eqi ?_ | refine EvR.nei ?_ | refine EvR.add ?_ | refine EvR.sub ?_ | refine EvR.mul ?_ | refine EvR.rem ?_ | refine EvR.quo ?_ | refine EvR.nc ?_ | refine EvR.ex ?_ | refine EvR.f1 ?_ | refine EvR.fadd ?_ | refine EvR.fsub ?_ | refine EvR.fmul ?_ | refine EvR.fquo ?_ | refine EvR.flt_ ?_ | refine EvR.fle_ ?_ | refine EvR.fgt_ ?_ | refine EvR.fge_ ?_ | refine EvR.feq_ ?_ | refine EvR.fne_ ?_ | refine EvR.cv ?_ | refine EvR.cvu ?_ | refine EvR.cvf ?_ | refine EvR.cvw ?_ | refine EvR.bx ?_ | refine EvR.aNotNT ?_ | refine EvR.aNotNF ?_ | refine EvR.aUN ?_ | refine EvR.nl ?_ | refine EvR.so ?_ | (apply Ev.regionQ drk; (· exact quie)) | (apply Ev.regionN0 drk; (· exact quie)) | (apply Ev.regionA drk (by assumption); (· exact quie)) | (apply Ev.regionNA drk (by assumption); (· exact quie)) | (apply Ev.regionS0 drk; (· exact quie)) | (refine EvR.aSplB ?_ ?_ <;> (intro hb; rw [hb]; (try simp only [Bool.not_eq_true', Bool.not_eq_false', Bool.not_eq_eq_eq_not, Bool.not_true, Bool.not_false, decide_eq_true_eq, decide_eq_false_iff_not, Bool.and_eq_true, Bool.and_eq_false_iff, Bool.or_eq_true, Bool.or_eq_false_iff] at hb); (try (exfalso; omega)))) | (refine Ev.aSplB ?_ ?_ <;> (intro hb; (try rw [hb]); (try simp only [Bool.not_eq_true', Bool.not_eq_false', Bool.not_eq_eq_eq_not, Bool.not_true, Bool.not_false, decide_eq_true_eq, decide_eq_false_iff_not, Bool.and_eq_true, Bool.and_eq_false_iff, Bool.or_eq_true, Bool.or_eq_false_iff] at hb); (try (exfalso; omega)))) | (apply EvR.aS0; (· exact evc)) | (apply EvR.aN0; (· exact evc)) | (apply endS trivial; rotate_left; (· exact eva); (· rfl); try refine ⟨?_, rfl⟩) | fail)
    (apply endR [2] trivial ⟨rfl, rfl⟩; (· exact eva); (· simp [gcTop, gcVal, gcLeaf, gcLeaves, gcVals, constOk, gc_lt, gc_lt0]); (· rfl); (· decide); (· simp [allConst, f32s, i64s, b8s, bools, constOk]))
end Go.Abs

