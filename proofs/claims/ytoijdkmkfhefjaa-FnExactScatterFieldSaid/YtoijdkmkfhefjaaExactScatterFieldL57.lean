/- Laws of functions: fields that are scaled and added, by the reference. Conditions: the laws of what they call. -/
import Derived.Test.YtoijdkmkfhefjaaExactScatterFieldL56
namespace Go.Abs

set_option linter.unusedSimpArgs false
set_option linter.unusedVariables false
set_option maxHeartbeats 8000000
set_option maxRecDepth 20000
/- loop.example/g01201/spec.l02Give -/
def spec_l02Give_r0 : List SOper := [
  ⟨(some 3), none, .box (.tmp 1), 0⟩,
  ⟨(some 4), none, .alloc [(.slice none 0 0), (.slice none 0 0), (.slice none 0 0)], 0⟩,
  ⟨(some 5), none, .mov (.const (.bool false)), 0⟩]
def spec_l02Give_r1 (i_spec_l02Fits : FuncId) : List SOper := [
  ⟨(some 6), none, .mov (.tmp 0), 0⟩,
  ⟨(some 7), none, .call (.func i_spec_l02Fits) [(.tmp 6), (.tmp 3)], 1⟩,
  ⟨(some 8), none, .un .not (.tmp 7), 3⟩]
def spec_l02Give_r2 : List SOper := [
  ⟨(some 9), none, .build [(.slice none 0 0), (.slice none 0 0), (.slice none 0 0)] [], 0⟩,
  ⟨none, none, .store 3 (.tmp 4) (.tmp 9), 1⟩,
  ⟨(some 5), none, .mov (.const (.bool false)), 3⟩]
def spec_l02Give_r3 : List SOper := [
  ⟨(some 10), none, .loadN 3 (.tmp 3), 0⟩,
  ⟨none, none, .store 3 (.tmp 4) (.tmp 10), 1⟩,
  ⟨(some 5), none, .mov (.const (.bool true)), 3⟩]
def spec_l02Give (i_spec_l02Fits : FuncId) : SFunc := ⟨11, [.cellN 4 3, .tmp 5], (.kp [0, 1] (.seq (.region spec_l02Give_r0 false) (.kp [0, 3, 4] (.seq (.seq (.region (spec_l02Give_r1 i_spec_l02Fits) false) (.kp [3, 4, 8] (.cond (.tmp 8) (.seq (.region spec_l02Give_r2 false) .ret) .skip))) (.kp [3, 4] (.seq (.region spec_l02Give_r3 false) .ret))))))⟩

/- loop.example/g01201/spec.ScaleField -/
def spec_ScaleField_r0 : List SOper := [
  ⟨(some 3), none, .box (.tmp 0), 0⟩,
  ⟨(some 4), none, .box (.tmp 1), 0⟩,
  ⟨(some 6), none, .alloc [(.slice none 0 0), (.slice none 0 0), (.slice none 0 0)], 0⟩,
  ⟨(some 7), none, .mov (.const (.bool false)), 0⟩]
def spec_ScaleField_r1 (i_spec_l02Is i_spec_l02Fits : FuncId) : List SOper := [
  ⟨(some 10), none, .call (.func i_spec_l02Is) [(.tmp 3)], 0⟩,
  ⟨(some 11), none, .un .not (.tmp 10), 1⟩,
  ⟨(some 12), none, .mov (.tmp 11), 3⟩,
  ⟨(some 13), (some (12, false)), .call (.func i_spec_l02Fits) [(.tmp 3), (.tmp 4)], 7⟩,
  ⟨(some 14), (some (12, false)), .un .not (.tmp 13), 15⟩,
  ⟨(some 15), none, .pick (.tmp 12) (.const (.bool true)) (.tmp 14), 31⟩]
def spec_ScaleField_r2 : List SOper := [
  ⟨(some 16), none, .build [(.slice none 0 0), (.slice none 0 0), (.slice none 0 0)] [], 0⟩,
  ⟨none, none, .store 3 (.tmp 6) (.tmp 16), 1⟩,
  ⟨(some 7), none, .mov (.const (.bool false)), 3⟩]
def spec_ScaleField_r3 (i_spec_l02Own : FuncId) : List SOper := [
  ⟨(some 17), none, .call (.func i_spec_l02Own) [(.tmp 4)], 0⟩,
  ⟨(some 8), none, .alloc [(.slice none 0 0), (.slice none 0 0), (.slice none 0 0)], 0⟩,
  ⟨none, none, .store 3 (.tmp 8) (.tmp 17), 3⟩]
def spec_ScaleField_r4 : List SOper := [
  ⟨(some 9), none, .mov (.const (.int .i64 0)), 0⟩]
def spec_ScaleField_r5 : List SOper := [
  ⟨(some 18), none, .mov (.tmp 9), 0⟩,
  ⟨(some 19), none, .fieldAddr 0 (.tmp 8), 0⟩,
  ⟨(some 20), none, .load1 (.tmp 19), 2⟩,
  ⟨(some 21), none, .len false (.tmp 20), 6⟩,
  ⟨(some 22), none, .bin .lss .other (.tmp 18) (.tmp 21), 15⟩]
def spec_ScaleField_r6 : List SOper := [
  ⟨(some 25), none, .fieldAddr 0 (.tmp 8), 0⟩,
  ⟨(some 26), none, .load1 (.tmp 25), 1⟩,
  ⟨(some 27), none, .mov (.tmp 9), 0⟩,
  ⟨(some 28), none, .fieldAddr 0 (.tmp 8), 0⟩,
  ⟨(some 29), none, .load1 (.tmp 28), 8⟩,
  ⟨(some 30), none, .mov (.tmp 9), 0⟩,
  ⟨(some 31), none, .indexAddrS 1 (.tmp 29) (.tmp 30), 56⟩,
  ⟨(some 32), none, .load1 (.tmp 31), 120⟩,
  ⟨(some 33), none, .mov (.tmp 2), 0⟩,
  ⟨(some 34), none, .bin .mul .other (.tmp 32) (.tmp 33), 504⟩,
  ⟨(some 35), none, .indexAddrS 1 (.tmp 26) (.tmp 27), 1023⟩,
  ⟨none, none, .store 1 (.tmp 35) (.tmp 34), 2047⟩]
def spec_ScaleField_r7 : List SOper := [
  ⟨(some 36), none, .fieldAddr 1 (.tmp 8), 0⟩,
  ⟨(some 37), none, .load1 (.tmp 36), 1⟩,
  ⟨(some 38), none, .mov (.tmp 9), 0⟩,
  ⟨(some 39), none, .fieldAddr 1 (.tmp 8), 0⟩,
  ⟨(some 40), none, .load1 (.tmp 39), 8⟩,
  ⟨(some 41), none, .mov (.tmp 9), 0⟩,
  ⟨(some 42), none, .indexAddrS 1 (.tmp 40) (.tmp 41), 56⟩,
  ⟨(some 43), none, .load1 (.tmp 42), 120⟩,
  ⟨(some 44), none, .mov (.tmp 2), 0⟩,
  ⟨(some 45), none, .bin .mul .other (.tmp 43) (.tmp 44), 504⟩,
  ⟨(some 46), none, .indexAddrS 1 (.tmp 37) (.tmp 38), 1023⟩,
  ⟨none, none, .store 1 (.tmp 46) (.tmp 45), 2047⟩]
def spec_ScaleField_r8 : List SOper := [
  ⟨(some 47), none, .fieldAddr 2 (.tmp 8), 0⟩,
  ⟨(some 48), none, .load1 (.tmp 47), 1⟩,
  ⟨(some 49), none, .mov (.tmp 9), 0⟩,
  ⟨(some 50), none, .fieldAddr 2 (.tmp 8), 0⟩,
  ⟨(some 51), none, .load1 (.tmp 50), 8⟩,
  ⟨(some 52), none, .mov (.tmp 9), 0⟩,
  ⟨(some 53), none, .indexAddrS 1 (.tmp 51) (.tmp 52), 56⟩,
  ⟨(some 54), none, .load1 (.tmp 53), 120⟩,
  ⟨(some 55), none, .mov (.tmp 2), 0⟩,
  ⟨(some 56), none, .bin .mul .other (.tmp 54) (.tmp 55), 504⟩,
  ⟨(some 57), none, .indexAddrS 1 (.tmp 48) (.tmp 49), 1023⟩,
  ⟨none, none, .store 1 (.tmp 57) (.tmp 56), 2047⟩]
def spec_ScaleField_r9 : List SOper := [
  ⟨(some 23), none, .mov (.tmp 9), 0⟩,
  ⟨(some 24), none, .bin .add .other (.tmp 23) (.const (.int .i64 1)), 1⟩,
  ⟨(some 9), none, .mov (.tmp 24), 3⟩]
def spec_ScaleField_l10 : SCode := (.kp [2, 3, 6, 8, 9] (.seq (.seq (.region spec_ScaleField_r5 false) (.kp [2, 3, 6, 8, 9, 22] (.cond (.tmp 22) .skip (.exit 0)))) (.kp [2, 3, 6, 8, 9] (.seq (.block 1 (.seq (.region spec_ScaleField_r6 true) (.kp [2, 3, 6, 8, 9] (.seq (.region spec_ScaleField_r7 true) (.kp [2, 3, 6, 8, 9] (.region spec_ScaleField_r8 true)))))) (.kp [2, 3, 6, 8, 9] (.region spec_ScaleField_r9 false))))))
def spec_ScaleField_r11 (i_spec_l02Give : FuncId) : List SOper := [
  ⟨(some 58), none, .loadN 3 (.tmp 8), 0⟩,
  ⟨(some 59), none, .call (.func i_spec_l02Give) [(.tmp 3), (.tmp 58)], 1⟩,
  ⟨(some 60), none, .extract (.tmp 59) 0, 3⟩,
  ⟨(some 61), none, .extract (.tmp 59) 1, 3⟩,
  ⟨none, none, .store 3 (.tmp 6) (.tmp 60), 15⟩,
  ⟨(some 7), none, .mov (.tmp 61), 31⟩]
def spec_ScaleField (i_spec_l02Is i_spec_l02Fits i_spec_l02Own i_spec_l02Give : FuncId) : SFunc := ⟨62, [.cellN 6 3, .tmp 7], (.kp [0, 1, 2] (.seq (.region spec_ScaleField_r0 false) (.kp [2, 3, 4, 6] (.seq (.seq (.region (spec_ScaleField_r1 i_spec_l02Is i_spec_l02Fits) false) (.kp [2, 3, 4, 6, 15] (.cond (.tmp 15) (.seq (.region spec_ScaleField_r2 false) .ret) .skip))) (.kp [2, 3, 4, 6] (.seq (.region (spec_ScaleField_r3 i_spec_l02Own) false) (.kp [2, 3, 6, 8] (.seq (.seq (.region spec_ScaleField_r4 false) (.kp [2, 3, 6, 8, 9] (.block 0 (.loop spec_ScaleField_l10)))) (.kp [3, 6, 8] (.seq (.region (spec_ScaleField_r11 i_spec_l02Give) false) .ret))))))))))⟩
theorem spec_ScaleField_r6_dr : drawOkW wStat spec_ScaleField_r6 = true := by kernel_rfl
attribute [push_cast] spec_ScaleField_r6_dr
theorem spec_ScaleField_r7_dr : drawOkW wStat spec_ScaleField_r7 = true := by kernel_rfl
attribute [push_cast] spec_ScaleField_r7_dr
theorem spec_ScaleField_r8_dr : drawOkW wStat spec_ScaleField_r8 = true := by kernel_rfl
attribute [push_cast] spec_ScaleField_r8_dr
/- loop.example/g01201/spec.l02Sum -/
def spec_l02Sum_r0 : List SOper := [
  ⟨(some 4), none, .alloc [(.slice none 0 0), (.slice none 0 0), (.slice none 0 0)], 0⟩]
def spec_l02Sum_r1 (i_spec_l02Own : FuncId) : List SOper := [
  ⟨(some 7), none, .mov (.tmp 0), 0⟩,
  ⟨(some 8), none, .call (.func i_spec_l02Own) [(.tmp 7)], 1⟩,
  ⟨(some 5), none, .alloc [(.slice none 0 0), (.slice none 0 0), (.slice none 0 0)], 0⟩,
  ⟨none, none, .store 3 (.tmp 5) (.tmp 8), 7⟩]
def spec_l02Sum_r2 : List SOper := [
  ⟨(some 6), none, .mov (.const (.int .i64 0)), 0⟩]
def spec_l02Sum_r3 : List SOper := [
  ⟨(some 9), none, .mov (.tmp 6), 0⟩,
  ⟨(some 10), none, .fieldAddr 0 (.tmp 5), 0⟩,
  ⟨(some 11), none, .load1 (.tmp 10), 2⟩,
  ⟨(some 12), none, .len false (.tmp 11), 6⟩,
  ⟨(some 13), none, .bin .lss .other (.tmp 9) (.tmp 12), 15⟩]
def spec_l02Sum_r4 : List SOper := [
  ⟨(some 16), none, .fieldAddr 0 (.tmp 5), 0⟩,
  ⟨(some 17), none, .load1 (.tmp 16), 1⟩,
  ⟨(some 18), none, .mov (.tmp 6), 0⟩,
  ⟨(some 19), none, .fieldAddr 0 (.tmp 5), 0⟩,
  ⟨(some 20), none, .load1 (.tmp 19), 8⟩,
  ⟨(some 21), none, .mov (.tmp 6), 0⟩,
  ⟨(some 22), none, .indexAddrS 1 (.tmp 20) (.tmp 21), 56⟩,
  ⟨(some 23), none, .load1 (.tmp 22), 120⟩,
  ⟨(some 24), none, .mov (.tmp 1), 0⟩,
  ⟨(some 25), none, .nilCheck (.tmp 24), 256⟩,
  ⟨(some 26), none, .fieldAddr 0 (.tmp 25), 768⟩,
  ⟨(some 27), none, .load1 (.tmp 26), 1792⟩,
  ⟨(some 28), none, .mov (.tmp 6), 0⟩,
  ⟨(some 29), none, .indexAddrS 1 (.tmp 27) (.tmp 28), 7936⟩,
  ⟨(some 30), none, .load1 (.tmp 29), 16128⟩,
  ⟨(some 31), none, .bin .add .other (.tmp 23) (.tmp 30), 32760⟩,
  ⟨(some 32), none, .indexAddrS 1 (.tmp 17) (.tmp 18), 65535⟩,
  ⟨none, none, .store 1 (.tmp 32) (.tmp 31), 131071⟩]
def spec_l02Sum_r5 : List SOper := [
  ⟨(some 33), none, .fieldAddr 1 (.tmp 5), 0⟩,
  ⟨(some 34), none, .load1 (.tmp 33), 1⟩,
  ⟨(some 35), none, .mov (.tmp 6), 0⟩,
  ⟨(some 36), none, .fieldAddr 1 (.tmp 5), 0⟩,
  ⟨(some 37), none, .load1 (.tmp 36), 8⟩,
  ⟨(some 38), none, .mov (.tmp 6), 0⟩,
  ⟨(some 39), none, .indexAddrS 1 (.tmp 37) (.tmp 38), 56⟩,
  ⟨(some 40), none, .load1 (.tmp 39), 120⟩,
  ⟨(some 41), none, .mov (.tmp 1), 0⟩,
  ⟨(some 42), none, .nilCheck (.tmp 41), 256⟩,
  ⟨(some 43), none, .fieldAddr 1 (.tmp 42), 768⟩,
  ⟨(some 44), none, .load1 (.tmp 43), 1792⟩,
  ⟨(some 45), none, .mov (.tmp 6), 0⟩,
  ⟨(some 46), none, .indexAddrS 1 (.tmp 44) (.tmp 45), 7936⟩,
  ⟨(some 47), none, .load1 (.tmp 46), 16128⟩,
  ⟨(some 48), none, .bin .add .other (.tmp 40) (.tmp 47), 32760⟩,
  ⟨(some 49), none, .indexAddrS 1 (.tmp 34) (.tmp 35), 65535⟩,
  ⟨none, none, .store 1 (.tmp 49) (.tmp 48), 131071⟩]
def spec_l02Sum_r6 : List SOper := [
  ⟨(some 50), none, .fieldAddr 2 (.tmp 5), 0⟩,
  ⟨(some 51), none, .load1 (.tmp 50), 1⟩,
  ⟨(some 52), none, .mov (.tmp 6), 0⟩,
  ⟨(some 53), none, .fieldAddr 2 (.tmp 5), 0⟩,
  ⟨(some 54), none, .load1 (.tmp 53), 8⟩,
  ⟨(some 55), none, .mov (.tmp 6), 0⟩,
  ⟨(some 56), none, .indexAddrS 1 (.tmp 54) (.tmp 55), 56⟩,
  ⟨(some 57), none, .load1 (.tmp 56), 120⟩,
  ⟨(some 58), none, .mov (.tmp 1), 0⟩,
  ⟨(some 59), none, .nilCheck (.tmp 58), 256⟩,
  ⟨(some 60), none, .fieldAddr 2 (.tmp 59), 768⟩,
  ⟨(some 61), none, .load1 (.tmp 60), 1792⟩,
  ⟨(some 62), none, .mov (.tmp 6), 0⟩,
  ⟨(some 63), none, .indexAddrS 1 (.tmp 61) (.tmp 62), 7936⟩,
  ⟨(some 64), none, .load1 (.tmp 63), 16128⟩,
  ⟨(some 65), none, .bin .add .other (.tmp 57) (.tmp 64), 32760⟩,
  ⟨(some 66), none, .indexAddrS 1 (.tmp 51) (.tmp 52), 65535⟩,
  ⟨none, none, .store 1 (.tmp 66) (.tmp 65), 131071⟩]
def spec_l02Sum_r7 : List SOper := [
  ⟨(some 14), none, .mov (.tmp 6), 0⟩,
  ⟨(some 15), none, .bin .add .other (.tmp 14) (.const (.int .i64 1)), 1⟩,
  ⟨(some 6), none, .mov (.tmp 15), 3⟩]
def spec_l02Sum_l8 : SCode := (.kp [1, 4, 5, 6] (.seq (.seq (.region spec_l02Sum_r3 false) (.kp [1, 4, 5, 6, 13] (.cond (.tmp 13) .skip (.exit 0)))) (.kp [1, 4, 5, 6] (.seq (.block 1 (.seq (.region spec_l02Sum_r4 true) (.kp [1, 4, 5, 6] (.seq (.region spec_l02Sum_r5 true) (.kp [1, 4, 5, 6] (.region spec_l02Sum_r6 true)))))) (.kp [1, 4, 5, 6] (.region spec_l02Sum_r7 false))))))
def spec_l02Sum_r9 : List SOper := [
  ⟨(some 67), none, .loadN 3 (.tmp 5), 0⟩,
  ⟨none, none, .store 3 (.tmp 4) (.tmp 67), 1⟩]
def spec_l02Sum (i_spec_l02Own : FuncId) : SFunc := ⟨68, [.cellN 4 3], (.kp [0, 1] (.seq (.region spec_l02Sum_r0 false) (.kp [0, 1, 4] (.seq (.region (spec_l02Sum_r1 i_spec_l02Own) false) (.kp [1, 4, 5] (.seq (.seq (.region spec_l02Sum_r2 false) (.kp [1, 4, 5, 6] (.block 0 (.loop spec_l02Sum_l8)))) (.kp [4, 5] (.seq (.region spec_l02Sum_r9 false) .ret))))))))⟩
theorem spec_l02Sum_r4_dr : drawOkW wStat spec_l02Sum_r4 = true := by kernel_rfl
attribute [push_cast] spec_l02Sum_r4_dr
theorem spec_l02Sum_r5_dr : drawOkW wStat spec_l02Sum_r5 = true := by kernel_rfl
attribute [push_cast] spec_l02Sum_r5_dr
theorem spec_l02Sum_r6_dr : drawOkW wStat spec_l02Sum_r6 = true := by kernel_rfl
attribute [push_cast] spec_l02Sum_r6_dr
/- loop.example/g01201/spec.AddFields -/
def spec_AddFields_r0 : List SOper := [
  ⟨(some 3), none, .box (.tmp 0), 0⟩,
  ⟨(some 4), none, .box (.tmp 1), 0⟩,
  ⟨(some 5), none, .box (.tmp 2), 0⟩,
  ⟨(some 6), none, .alloc [(.slice none 0 0), (.slice none 0 0), (.slice none 0 0)], 0⟩,
  ⟨(some 7), none, .mov (.const (.bool false)), 0⟩]
def spec_AddFields_r1 (i_spec_l02Is i_spec_l02Fits : FuncId) : List SOper := [
  ⟨(some 8), none, .call (.func i_spec_l02Is) [(.tmp 3)], 0⟩,
  ⟨(some 9), none, .un .not (.tmp 8), 1⟩,
  ⟨(some 10), none, .mov (.tmp 9), 3⟩,
  ⟨(some 11), (some (10, false)), .call (.func i_spec_l02Fits) [(.tmp 3), (.tmp 4)], 7⟩,
  ⟨(some 12), (some (10, false)), .un .not (.tmp 11), 15⟩,
  ⟨(some 13), none, .pick (.tmp 10) (.const (.bool true)) (.tmp 12), 31⟩,
  ⟨(some 14), none, .mov (.tmp 13), 63⟩,
  ⟨(some 15), (some (14, false)), .call (.func i_spec_l02Fits) [(.tmp 3), (.tmp 5)], 127⟩,
  ⟨(some 16), (some (14, false)), .un .not (.tmp 15), 255⟩,
  ⟨(some 17), none, .pick (.tmp 14) (.const (.bool true)) (.tmp 16), 511⟩]
def spec_AddFields_r2 : List SOper := [
  ⟨(some 18), none, .build [(.slice none 0 0), (.slice none 0 0), (.slice none 0 0)] [], 0⟩,
  ⟨none, none, .store 3 (.tmp 6) (.tmp 18), 1⟩,
  ⟨(some 7), none, .mov (.const (.bool false)), 3⟩]
def spec_AddFields_r3 (i_spec_l02Sum i_spec_l02Give : FuncId) : List SOper := [
  ⟨(some 19), none, .call (.func i_spec_l02Sum) [(.tmp 4), (.tmp 5)], 0⟩,
  ⟨(some 20), none, .call (.func i_spec_l02Give) [(.tmp 3), (.tmp 19)], 1⟩,
  ⟨(some 21), none, .extract (.tmp 20) 0, 3⟩,
  ⟨(some 22), none, .extract (.tmp 20) 1, 3⟩,
  ⟨none, none, .store 3 (.tmp 6) (.tmp 21), 15⟩,
  ⟨(some 7), none, .mov (.tmp 22), 31⟩]
def spec_AddFields (i_spec_l02Is i_spec_l02Fits i_spec_l02Sum i_spec_l02Give : FuncId) : SFunc := ⟨23, [.cellN 6 3, .tmp 7], (.kp [0, 1, 2] (.seq (.region spec_AddFields_r0 false) (.kp [3, 4, 5, 6] (.seq (.seq (.region (spec_AddFields_r1 i_spec_l02Is i_spec_l02Fits) false) (.kp [3, 4, 5, 6, 17] (.cond (.tmp 17) (.seq (.region spec_AddFields_r2 false) .ret) .skip))) (.kp [3, 4, 5, 6] (.seq (.region (spec_AddFields_r3 i_spec_l02Sum i_spec_l02Give) false) .ret))))))⟩


def spec_l02Give_ok (c : Contract) : Prop := ∀ (σ : Heap) (s o W H : Nat) (wr : Bool) (sv lv : Value) (a b d N : Nat) (e x y : List Nat), PtAt σ s o [.int .i64 W, .int .i64 H, .bool wr, sv, lv] → e.length = N → x.length = N → y.length = N → σ[a]? = some (rowO e) → σ[b]? = some (rowO x) → σ[d]? = some (rowO y) → 3 ≤ W → W ≤ 16 → 3 ≤ H → H ≤ 16 → (W : Int) * (H : Int) ≤ 256 → N ≤ 1048576 →
    Ret c [.pointer (some ⟨s, o, none⟩), fV (slV a N) (slV b N) (slV d N)] σ fun v σ' => v = (if fits W H wr e x y = true then .tuple #[fV (slV a N) (slV b N) (slV d N), .bool true] else .tuple #[noField, .bool false]) ∧ σ' = σ
theorem spec_l02Give_law {C : Ctab} {i1 : FuncId} {c1 : Contract} (h1 : Has C i1 c1 spec_l02Fits_ok) : spec_l02Give_ok (gcC C (spec_l02Give i1) true) := by
  intro σ s o W H wr sv lv a b d N e x y hs e1 e2 e3 ha hb hd a1 a2 a3 a4 a5 hN
  have l1 : a < σ.length := (List.getElem?_eq_some_iff.1 ha).1
  have l2 : b < σ.length := (List.getElem?_eq_some_iff.1 hb).1
  have l3 : d < σ.length := (List.getElem?_eq_some_iff.1 hd).1
  have r3 : Row σ 1 (slV a N) e.length (f32s e) := by rw [← e1]; exact Row.whole ha (by omega) (by rw [f32s_length]; omega)
  have r4 : Row σ 1 (slV b N) x.length (f32s x) := by rw [← e2]; exact Row.whole hb (by omega) (by rw [f32s_length]; omega)
  have r5 : Row σ 1 (slV d N) y.length (f32s y) := by rw [← e3]; exact Row.whole hd (by omega) (by rw [f32s_length]; omega)
  refine ret_gc rfl rfl ?_
  repeat' (first | refine ff ?_ | ((first | refine EvR.aSplB ?_ ?_ | refine Ev.aSplB ?_ ?_) <;> (intro hb; (try rw [hb]); (try simp only [Bool.not_eq_true', Bool.not_eq_false', Bool.not_eq_eq_eq_not, Bool.not_true, Bool.not_false, decide_eq_true_eq, decide_eq_false_iff_not, Bool.and_eq_true, Bool.and_eq_false_iff, Bool.or_eq_true, Bool.or_eq_false_iff] at hb); (try (exfalso; first | omega | exact hb trivial)))) | (apply endS trivial; rotate_left; (· exact eva); (· rfl); try refine ⟨?_, rfl⟩) | fail)
  (apply EvR.aCall h1.at_; (· exact eva); (· exact  h1.ok _ s o (σ.length + 0) 0 W H wr sv lv (slV a N) (slV b N) (slV d N) e x y (hs.ext _) (PtAt.own rfl) ⟨r3.ext _, r4.ext _, r5.ext _⟩ (by omega) (by omega) (by omega) a1 a2 a3 a4 a5); (rintro _ _ ⟨rfl, rfl⟩; refine EvR.nrm ?_))
  cases hV : fits W H wr e x y
  · rw [if_neg (by simp)]
    repeat' (first | refine ff ?_ | ((first | refine EvR.aSplB ?_ ?_ | refine Ev.aSplB ?_ ?_) <;> (intro hb; (try rw [hb]); (try simp only [Bool.not_eq_true', Bool.not_eq_false', Bool.not_eq_eq_eq_not, Bool.not_true, Bool.not_false, decide_eq_true_eq, decide_eq_false_iff_not, Bool.and_eq_true, Bool.and_eq_false_iff, Bool.or_eq_true, Bool.or_eq_false_iff] at hb); (try (exfalso; first | omega | exact hb trivial)))) | (apply endS trivial; rotate_left; (· exact eva); (· rfl); try refine ⟨?_, rfl⟩) | fail)
    all_goals simp
  · rw [if_pos rfl]
    repeat' (first | refine ff ?_ | ((first | refine EvR.aSplB ?_ ?_ | refine Ev.aSplB ?_ ?_) <;> (intro hb; (try rw [hb]); (try simp only [Bool.not_eq_true', Bool.not_eq_false', Bool.not_eq_eq_eq_not, Bool.not_true, Bool.not_false, decide_eq_true_eq, decide_eq_false_iff_not, Bool.and_eq_true, Bool.and_eq_false_iff, Bool.or_eq_true, Bool.or_eq_false_iff] at hb); (try (exfalso; first | omega | exact hb trivial)))) | (apply endS trivial; rotate_left; (· exact eva); (· rfl); try refine ⟨?_, rfl⟩) | fail)
    apply endS trivial
    rotate_left
    · exact eva
    · simp [gcTop, gcVals, gcVal, gcLeaf, gcLeaves, constOk, l1, l2, l3]
    · exact ⟨rfl, rfl⟩

theorem isField_fits {W H : Nat} {wr : Bool} {sp lo e x y : List Nat} (hs : isSheet W H sp lo = true) : isField W H wr sp lo e x y = fits W H wr e x y := by simp [isField, hs]

theorem spec_ScaleField_law {C : Ctab} {i1 i2 i3 i4 : FuncId} {c1 c2 c3 c4 : Contract} (h1 : Has C i1 c1 spec_l02Is_ok) (h2 : Has C i2 c2 spec_l02Fits_ok) (h3 : Has C i3 c3 spec_l02Own_ok) (h4 : Has C i4 c4 spec_l02Give_ok) : spec_ScaleField_ok (gcC C (spec_ScaleField i1 i2 i3 i4) true) := by
  intro σ w h wr sv lv sp lo ev xv yv e x y b ⟨r1, r2⟩ n1 n2 ⟨r3, r4, r5⟩ m1 m2 m3
  have k1 := r1.ok
  have k2 := r2.ok
  cases hs : isSheet w h sp lo
  · rw [show scOk w h wr sp lo e x y b = false from by unfold scOk; rw [isField_bad hs]; rfl, flRes_f, flRows_f]
    refine ret_gc rfl rfl ?_
    repeat' (first | refine ff ?_ | ((first | refine EvR.aSplB ?_ ?_ | refine Ev.aSplB ?_ ?_) <;> (intro hb; (try rw [hb]); (try simp only [Bool.not_eq_true', Bool.not_eq_false', Bool.not_eq_eq_eq_not, Bool.not_true, Bool.not_false, decide_eq_true_eq, decide_eq_false_iff_not, Bool.and_eq_true, Bool.and_eq_false_iff, Bool.or_eq_true, Bool.or_eq_false_iff] at hb); (try (exfalso; first | omega | exact hb trivial)))) | (apply endS trivial; rotate_left; (· exact eva); (· rfl); try refine ⟨?_, rfl⟩) | fail)
    (apply EvR.aCall h1.at_; (· exact eva); (· exact  h1.ok _ (σ.length + 0) 0 w h wr sv lv sp lo (PtAt.own rfl) ⟨r1.ext _, r2.ext _⟩ n1 n2); (rintro _ _ ⟨rfl, rfl⟩; refine EvR.nrm ?_))
    rw [hs]
    repeat' (first | refine ff ?_ | ((first | refine EvR.aSplB ?_ ?_ | refine Ev.aSplB ?_ ?_) <;> (intro hb; (try rw [hb]); (try simp only [Bool.not_eq_true', Bool.not_eq_false', Bool.not_eq_eq_eq_not, Bool.not_true, Bool.not_false, decide_eq_true_eq, decide_eq_false_iff_not, Bool.and_eq_true, Bool.and_eq_false_iff, Bool.or_eq_true, Bool.or_eq_false_iff] at hb); (try (exfalso; first | omega | exact hb trivial)))) | (apply endS trivial; rotate_left; (· exact eva); (· rfl); try refine ⟨?_, rfl⟩) | fail)
    all_goals simp
  obtain ⟨a1, a2, a3, a4, q1, q2⟩ := isSheet_sides hs
  obtain ⟨W, rfl⟩ := Int.eq_ofNat_of_zero_le (show 0 ≤ w by omega)
  obtain ⟨H, rfl⟩ := Int.eq_ofNat_of_zero_le (show 0 ≤ h by omega)
  have hN2 : W * H ≤ 256 := Nat.mul_le_mul (show W ≤ 16 by omega) (show H ≤ 16 by omega)
  have hWH : ((W * H : Nat) : Int) = (W : Int) * (H : Int) := Int.natCast_mul _ _
  cases hFi : fits W H wr e x y
  · rw [show scOk W H wr sp lo e x y b = false from by unfold scOk; rw [isField_fits hs, hFi]; rfl, flRes_f, flRows_f]
    refine ret_gc rfl rfl ?_
    repeat' (first | refine ff ?_ | ((first | refine EvR.aSplB ?_ ?_ | refine Ev.aSplB ?_ ?_) <;> (intro hb; (try rw [hb]); (try simp only [Bool.not_eq_true', Bool.not_eq_false', Bool.not_eq_eq_eq_not, Bool.not_true, Bool.not_false, decide_eq_true_eq, decide_eq_false_iff_not, Bool.and_eq_true, Bool.and_eq_false_iff, Bool.or_eq_true, Bool.or_eq_false_iff] at hb); (try (exfalso; first | omega | exact hb trivial)))) | (apply endS trivial; rotate_left; (· exact eva); (· rfl); try refine ⟨?_, rfl⟩) | fail)
    (apply EvR.aCall h1.at_; (· exact eva); (· exact  h1.ok _ (σ.length + 0) 0 W H wr sv lv sp lo (PtAt.own rfl) ⟨r1.ext _, r2.ext _⟩ n1 n2); (rintro _ _ ⟨rfl, rfl⟩; refine EvR.nrm ?_))
    rw [hs]
    repeat' (first | refine ff ?_ | ((first | refine EvR.aSplB ?_ ?_ | refine Ev.aSplB ?_ ?_) <;> (intro hb; (try rw [hb]); (try simp only [Bool.not_eq_true', Bool.not_eq_false', Bool.not_eq_eq_eq_not, Bool.not_true, Bool.not_false, decide_eq_true_eq, decide_eq_false_iff_not, Bool.and_eq_true, Bool.and_eq_false_iff, Bool.or_eq_true, Bool.or_eq_false_iff] at hb); (try (exfalso; first | omega | exact hb trivial)))) | (apply endS trivial; rotate_left; (· exact eva); (· rfl); try refine ⟨?_, rfl⟩) | fail)
    (apply EvR.aCall h2.at_; (· exact eva); (· exact  h2.ok _ (σ.length + 0) 0 (σ.length + 1) 0 W H wr sv lv ev xv yv e x y (PtAt.own rfl) (PtAt.own rfl) ⟨r3.ext _, r4.ext _, r5.ext _⟩ m1 m2 m3 (by omega) (by omega) (by omega) (by omega) (by omega)); (rintro _ _ ⟨rfl, rfl⟩; refine EvR.nrm ?_))
    rw [hFi]
    repeat' (first | refine ff ?_ | ((first | refine EvR.aSplB ?_ ?_ | refine Ev.aSplB ?_ ?_) <;> (intro hb; (try rw [hb]); (try simp only [Bool.not_eq_true', Bool.not_eq_false', Bool.not_eq_eq_eq_not, Bool.not_true, Bool.not_false, decide_eq_true_eq, decide_eq_false_iff_not, Bool.and_eq_true, Bool.and_eq_false_iff, Bool.or_eq_true, Bool.or_eq_false_iff] at hb); (try (exfalso; first | omega | exact hb trivial)))) | (apply endS trivial; rotate_left; (· exact eva); (· rfl); try refine ⟨?_, rfl⟩) | fail)
    all_goals simp
  obtain ⟨N, hN⟩ : ∃ N, W * H = N := ⟨_, rfl⟩
  obtain ⟨e1, e2, e3⟩ := fits_lens hFi
  rw [hN] at e1 e2 e3
  have l1 : (scaleL b e).length = N := by rw [newM_length]; exact e1
  have l2 : (scaleL b x).length = N := by rw [newM_length]; exact e2
  have l3 : (scaleL b y).length = N := by rw [newM_length]; exact e3
  obtain ⟨g1, eg1⟩ : ∃ g, g = fun i => fbin .mul .f32 (e.getD i 0) b := ⟨_, rfl⟩
  obtain ⟨g2, eg2⟩ : ∃ g, g = fun i => fbin .mul .f32 (x.getD i 0) b := ⟨_, rfl⟩
  obtain ⟨g3, eg3⟩ : ∃ g, g = fun i => fbin .mul .f32 (y.getD i 0) b := ⟨_, rfl⟩
  refine ret_gc rfl rfl ?_
  repeat' (first | refine ff ?_ | ((first | refine EvR.aSplB ?_ ?_ | refine Ev.aSplB ?_ ?_) <;> (intro hb; (try rw [hb]); (try simp only [Bool.not_eq_true', Bool.not_eq_false', Bool.not_eq_eq_eq_not, Bool.not_true, Bool.not_false, decide_eq_true_eq, decide_eq_false_iff_not, Bool.and_eq_true, Bool.and_eq_false_iff, Bool.or_eq_true, Bool.or_eq_false_iff] at hb); (try (exfalso; first | omega | exact hb trivial)))) | (apply endS trivial; rotate_left; (· exact eva); (· rfl); try refine ⟨?_, rfl⟩) | fail)
  (apply EvR.aCall h1.at_; (· exact eva); (· exact  h1.ok _ (σ.length + 0) 0 W H wr sv lv sp lo (PtAt.own rfl) ⟨r1.ext _, r2.ext _⟩ n1 n2); (rintro _ _ ⟨rfl, rfl⟩; refine EvR.nrm ?_))
  rw [hs]
  repeat' (first | refine ff ?_ | ((first | refine EvR.aSplB ?_ ?_ | refine Ev.aSplB ?_ ?_) <;> (intro hb; (try rw [hb]); (try simp only [Bool.not_eq_true', Bool.not_eq_false', Bool.not_eq_eq_eq_not, Bool.not_true, Bool.not_false, decide_eq_true_eq, decide_eq_false_iff_not, Bool.and_eq_true, Bool.and_eq_false_iff, Bool.or_eq_true, Bool.or_eq_false_iff] at hb); (try (exfalso; first | omega | exact hb trivial)))) | (apply endS trivial; rotate_left; (· exact eva); (· rfl); try refine ⟨?_, rfl⟩) | fail)
  (apply EvR.aCall h2.at_; (· exact eva); (· exact  h2.ok _ (σ.length + 0) 0 (σ.length + 1) 0 W H wr sv lv ev xv yv e x y (PtAt.own rfl) (PtAt.own rfl) ⟨r3.ext _, r4.ext _, r5.ext _⟩ m1 m2 m3 (by omega) (by omega) (by omega) (by omega) (by omega)); (rintro _ _ ⟨rfl, rfl⟩; refine EvR.nrm ?_))
  rw [hFi]
  repeat' (first | refine ff ?_ | ((first | refine EvR.aSplB ?_ ?_ | refine Ev.aSplB ?_ ?_) <;> (intro hb; (try rw [hb]); (try simp only [Bool.not_eq_true', Bool.not_eq_false', Bool.not_eq_eq_eq_not, Bool.not_true, Bool.not_false, decide_eq_true_eq, decide_eq_false_iff_not, Bool.and_eq_true, Bool.and_eq_false_iff, Bool.or_eq_true, Bool.or_eq_false_iff] at hb); (try (exfalso; first | omega | exact hb trivial)))) | (apply endS trivial; rotate_left; (· exact eva); (· rfl); try refine ⟨?_, rfl⟩) | fail)
  (apply EvR.aCall h3.at_; (· exact eva); (· exact  h3.ok _ (σ.length + 1) ev xv yv e x y (PtAt.own rfl) ⟨r3.ext _, r4.ext _, r5.ext _⟩ m1 m2 m3); (rintro _ _ ⟨rfl, rfl⟩; refine EvR.nrm ?_))
  rw [e1, e2, e3]
  repeat' (first | refine ff ?_ | ((first | refine EvR.aSplB ?_ ?_ | refine Ev.aSplB ?_ ?_) <;> (intro hb; (try rw [hb]); (try simp only [Bool.not_eq_true', Bool.not_eq_false', Bool.not_eq_eq_eq_not, Bool.not_true, Bool.not_false, decide_eq_true_eq, decide_eq_false_iff_not, Bool.and_eq_true, Bool.and_eq_false_iff, Bool.or_eq_true, Bool.or_eq_false_iff] at hb); (try (exfalso; first | omega | exact hb trivial)))) | (apply endS trivial; rotate_left; (· exact eva); (· rfl); try refine ⟨?_, rfl⟩) | fail)
  refine Ev.whlH (S := Nat) (fun i => N - i) (fun i => [(9, .int .i64 i)]) (fun i => σ ++ [⟨[.int .i64 W, .int .i64 H, .bool wr, sv, lv], 0, true⟩, ⟨[ev, xv, yv], 0, true⟩, ⟨[.slice none 0 0, .slice none 0 0, .slice none 0 0], 0, true⟩, rowO (preM g1 e i), rowO (preM g2 x i), rowO (preM g3 y i),
    ⟨[slV (σ.length + 3) N, slV (σ.length + 4) N, slV (σ.length + 5) N], 0, true⟩]) (fun i => i ≤ N) 0 (by (simp only [List.cons_append, List.nil_append, ↓fget_cons, push_cast, Nat.reduceEqDiff, reduceIte] <;> rfl)) (by rw [preM_zero, preM_zero, preM_zero]) (Nat.zero_le _) ?_
  rintro i F hF hi
  (simp only [List.cons_append, List.nil_append, ↓fget_cons, fkeep_cons, fkeep_nil, Nat.reduceEqDiff, reduceIte] at hF; subst hF)
  by_cases hlt : i < N
  · have p1 := preM_length (g := g1) (xs := e) (j := i) (by omega)
    have p2 := preM_length (g := g2) (xs := x) (j := i) (by omega)
    have p3 := preM_length (g := g3) (xs := y) (j := i) (by omega)
    have u1 := preM_get (g := g1) (xs := e) (j := i) (by omega)
    have u2 := preM_get (g := g2) (xs := x) (j := i) (by omega)
    have u3 := preM_get (g := g3) (xs := y) (j := i) (by omega)
    have v1 := preM_set (g := g1) (xs := e) (j := i) (by omega)
    have v2 := preM_set (g := g2) (xs := x) (j := i) (by omega)
    have v3 := preM_set (g := g3) (xs := y) (j := i) (by omega)
    have w1 : fbin .mul .f32 (e.getD i 0) b = g1 i := by rw [eg1]
    have w2 : fbin .mul .f32 (x.getD i 0) b = g2 i := by rw [eg2]
    have w3 : fbin .mul .f32 (y.getD i 0) b = g3 i := by rw [eg3]
    repeat' (first | refine ff ?_ | ((first | refine EvR.aSplB ?_ ?_ | refine Ev.aSplB ?_ ?_) <;> (intro hb; (try rw [hb]); (try simp only [Bool.not_eq_true', Bool.not_eq_false', Bool.not_eq_eq_eq_not, Bool.not_true, Bool.not_false, decide_eq_true_eq, decide_eq_false_iff_not, Bool.and_eq_true, Bool.and_eq_false_iff, Bool.or_eq_true, Bool.or_eq_false_iff] at hb); (try (exfalso; first | omega | exact hb trivial)))) | (apply endS trivial; rotate_left; (· exact eva); (· rfl); try refine ⟨?_, rfl⟩) | fail)
    rw [u1, w1, v1, u2, w2, v2, u3, w3, v3]
    exact ⟨i + 1, by omega, by (simp only [List.cons_append, List.nil_append, ↓fget_cons, push_cast, Nat.reduceEqDiff, reduceIte] <;> rfl), rfl, by omega⟩
  · obtain rfl : i = N := by omega
    rw [show preM g1 e i = scaleL b e from by rw [← e1, preM_end, eg1], show preM g2 x i = scaleL b x from by rw [← e2, preM_end, eg2], show preM g3 y i = scaleL b y from by rw [← e3, preM_end, eg3]]
    repeat' (first | refine ff ?_ | ((first | refine EvR.aSplB ?_ ?_ | refine Ev.aSplB ?_ ?_) <;> (intro hb; (try rw [hb]); (try simp only [Bool.not_eq_true', Bool.not_eq_false', Bool.not_eq_eq_eq_not, Bool.not_true, Bool.not_false, decide_eq_true_eq, decide_eq_false_iff_not, Bool.and_eq_true, Bool.and_eq_false_iff, Bool.or_eq_true, Bool.or_eq_false_iff] at hb); (try (exfalso; first | omega | exact hb trivial)))) | (apply endS trivial; rotate_left; (· exact eva); (· rfl); try refine ⟨?_, rfl⟩) | fail)
    (apply EvR.aCall h4.at_; (· exact eva); (· exact  h4.ok _ (σ.length + 0) 0 W H wr sv lv (σ.length + 3) (σ.length + 4) (σ.length + 5) i (scaleL b e) (scaleL b x) (scaleL b y) (PtAt.own rfl) l1 l2 l3 (hget _ _ 3) (hget _ _ 4) (hget _ _ 5) (by omega) (by omega) (by omega) (by omega) (by omega) (by omega)); (rintro _ _ ⟨rfl, rfl⟩; refine EvR.nrm ?_))
    cases hV : fits W H wr (scaleL b e) (scaleL b x) (scaleL b y)
    · rw [if_neg (by simp), show scOk W H wr sp lo e x y b = false from by unfold scOk; rw [isField_fits hs, isField_fits hs, hV]; simp, flRes_f, flRows_f]
      repeat' (first | refine ff ?_ | ((first | refine EvR.aSplB ?_ ?_ | refine Ev.aSplB ?_ ?_) <;> (intro hb; (try rw [hb]); (try simp only [Bool.not_eq_true', Bool.not_eq_false', Bool.not_eq_eq_eq_not, Bool.not_true, Bool.not_false, decide_eq_true_eq, decide_eq_false_iff_not, Bool.and_eq_true, Bool.and_eq_false_iff, Bool.or_eq_true, Bool.or_eq_false_iff] at hb); (try (exfalso; first | omega | exact hb trivial)))) | (apply endS trivial; rotate_left; (· exact eva); (· rfl); try refine ⟨?_, rfl⟩) | fail)
      all_goals simp
    · rw [if_pos rfl, show scOk W H wr sp lo e x y b = true from by unfold scOk; rw [isField_fits hs, isField_fits hs, hV, hFi]; rfl, flRes_t, flRows_t, l1, l2, l3]
      repeat' (first | refine ff ?_ | ((first | refine EvR.aSplB ?_ ?_ | refine Ev.aSplB ?_ ?_) <;> (intro hb; (try rw [hb]); (try simp only [Bool.not_eq_true', Bool.not_eq_false', Bool.not_eq_eq_eq_not, Bool.not_true, Bool.not_false, decide_eq_true_eq, decide_eq_false_iff_not, Bool.and_eq_true, Bool.and_eq_false_iff, Bool.or_eq_true, Bool.or_eq_false_iff] at hb); (try (exfalso; first | omega | exact hb trivial)))) | (apply endS trivial; rotate_left; (· exact eva); (· rfl); try refine ⟨?_, rfl⟩) | fail)
      (apply endR [3, 4, 5] trivial ⟨rfl, rfl⟩; (· exact eva); (· simp [gcTop, gcVal, gcLeaf, gcLeaves, gcVals, constOk, gc_lt, gc_lt0]); (· rfl); (· decide); (· simp [allConst, f32s, i64s, b8s, bools, constOk]))

def spec_l02Sum_ok (c : Contract) : Prop := ∀ (σ : Heap) (p q N : Nat) (ev xv yv ev' xv' yv' : Value) (e x y e' x' y' : List Nat), PtAt σ p 0 [ev, xv, yv] → PtAt σ q 0 [ev', xv', yv'] → FlR σ ev xv yv e x y → FlR σ ev' xv' yv' e' x' y' → e.length = N → x.length = N → y.length = N → e'.length = N → x'.length = N → y'.length = N → N ≤ 1048576 →
    Ret c [.pointer (some ⟨p, 0, none⟩), .pointer (some ⟨q, 0, none⟩)] σ fun v σ' => v = fV (slV σ.length N) (slV (σ.length + 1) N) (slV (σ.length + 2) N) ∧ σ' = σ ++ [rowO (addL e e'), rowO (addL x x'), rowO (addL y y')]
theorem spec_l02Sum_law {C : Ctab} {i1 : FuncId} {c1 : Contract} (h1 : Has C i1 c1 spec_l02Own_ok) : spec_l02Sum_ok (gcC C (spec_l02Sum i1) true) := by
  intro σ p q N ev xv yv ev' xv' yv' e x y e' x' y' hp hq ⟨r3, r4, r5⟩ ⟨s3, s4, s5⟩ e1 e2 e3 e4 e5 e6 hN
  obtain ⟨g1, eg1⟩ : ∃ g, g = fun i => fbin .add .f32 (e.getD i 0) (e'.getD i 0) := ⟨_, rfl⟩
  obtain ⟨g2, eg2⟩ : ∃ g, g = fun i => fbin .add .f32 (x.getD i 0) (x'.getD i 0) := ⟨_, rfl⟩
  obtain ⟨g3, eg3⟩ : ∃ g, g = fun i => fbin .add .f32 (y.getD i 0) (y'.getD i 0) := ⟨_, rfl⟩
  refine ret_gc rfl rfl ?_
  repeat' (first | refine ff ?_ | ((first | refine EvR.aSplB ?_ ?_ | refine Ev.aSplB ?_ ?_) <;> (intro hb; (try rw [hb]); (try simp only [Bool.not_eq_true', Bool.not_eq_false', Bool.not_eq_eq_eq_not, Bool.not_true, Bool.not_false, decide_eq_true_eq, decide_eq_false_iff_not, Bool.and_eq_true, Bool.and_eq_false_iff, Bool.or_eq_true, Bool.or_eq_false_iff] at hb); (try (exfalso; first | omega | exact hb trivial)))) | (apply endS trivial; rotate_left; (· exact eva); (· rfl); try refine ⟨?_, rfl⟩) | fail)
  (apply EvR.aCall h1.at_; (· exact eva); (· exact  h1.ok _ p ev xv yv e x y (hp.ext _) ⟨r3.ext _, r4.ext _, r5.ext _⟩ (by omega) (by omega) (by omega)); (rintro _ _ ⟨rfl, rfl⟩; refine EvR.nrm ?_))
  rw [e1, e2, e3]
  repeat' (first | refine ff ?_ | ((first | refine EvR.aSplB ?_ ?_ | refine Ev.aSplB ?_ ?_) <;> (intro hb; (try rw [hb]); (try simp only [Bool.not_eq_true', Bool.not_eq_false', Bool.not_eq_eq_eq_not, Bool.not_true, Bool.not_false, decide_eq_true_eq, decide_eq_false_iff_not, Bool.and_eq_true, Bool.and_eq_false_iff, Bool.or_eq_true, Bool.or_eq_false_iff] at hb); (try (exfalso; first | omega | exact hb trivial)))) | (apply endS trivial; rotate_left; (· exact eva); (· rfl); try refine ⟨?_, rfl⟩) | fail)
  refine Ev.whlH (S := Nat) (fun i => N - i) (fun i => [(6, .int .i64 i)]) (fun i => σ ++ [⟨[.slice none 0 0, .slice none 0 0, .slice none 0 0], 0, true⟩, rowO (preM g1 e i), rowO (preM g2 x i), rowO (preM g3 y i),
    ⟨[slV (σ.length + 1) N, slV (σ.length + 2) N, slV (σ.length + 3) N], 0, true⟩]) (fun i => i ≤ N) 0 (by (simp only [List.cons_append, List.nil_append, ↓fget_cons, push_cast, Nat.reduceEqDiff, reduceIte] <;> rfl)) (by rw [preM_zero, preM_zero, preM_zero]) (Nat.zero_le _) ?_
  rintro i F hF hi
  (simp only [List.cons_append, List.nil_append, ↓fget_cons, fkeep_cons, fkeep_nil, Nat.reduceEqDiff, reduceIte] at hF; subst hF)
  by_cases hlt : i < N
  · have p1 := preM_length (g := g1) (xs := e) (j := i) (by omega)
    have p2 := preM_length (g := g2) (xs := x) (j := i) (by omega)
    have p3 := preM_length (g := g3) (xs := y) (j := i) (by omega)
    have u1 := preM_get (g := g1) (xs := e) (j := i) (by omega)
    have u2 := preM_get (g := g2) (xs := x) (j := i) (by omega)
    have u3 := preM_get (g := g3) (xs := y) (j := i) (by omega)
    have v1 := preM_set (g := g1) (xs := e) (j := i) (by omega)
    have v2 := preM_set (g := g2) (xs := x) (j := i) (by omega)
    have v3 := preM_set (g := g3) (xs := y) (j := i) (by omega)
    have w1 : fbin .add .f32 (e.getD i 0) (e'.getD i 0) = g1 i := by rw [eg1]
    have w2 : fbin .add .f32 (x.getD i 0) (x'.getD i 0) = g2 i := by rw [eg2]
    have w3 : fbin .add .f32 (y.getD i 0) (y'.getD i 0) = g3 i := by rw [eg3]
    repeat' (first | refine ff ?_ | ((first | refine EvR.aSplB ?_ ?_ | refine Ev.aSplB ?_ ?_) <;> (intro hb; (try rw [hb]); (try simp only [Bool.not_eq_true', Bool.not_eq_false', Bool.not_eq_eq_eq_not, Bool.not_true, Bool.not_false, decide_eq_true_eq, decide_eq_false_iff_not, Bool.and_eq_true, Bool.and_eq_false_iff, Bool.or_eq_true, Bool.or_eq_false_iff] at hb); (try (exfalso; first | omega | exact hb trivial)))) | (apply endS trivial; rotate_left; (· exact eva); (· rfl); try refine ⟨?_, rfl⟩) | fail)
    rw [u1, w1, v1, u2, w2, v2, u3, w3, v3]
    exact ⟨i + 1, by omega, by (simp only [List.cons_append, List.nil_append, ↓fget_cons, push_cast, Nat.reduceEqDiff, reduceIte] <;> rfl), rfl, by omega⟩
  · obtain rfl : i = N := by omega
    rw [show preM g1 e i = addL e e' from by rw [← e1, preM_end, eg1], show preM g2 x i = addL x x' from by rw [← e2, preM_end, eg2], show preM g3 y i = addL y y' from by rw [← e3, preM_end, eg3]]
    repeat' (first | refine ff ?_ | ((first | refine EvR.aSplB ?_ ?_ | refine Ev.aSplB ?_ ?_) <;> (intro hb; (try rw [hb]); (try simp only [Bool.not_eq_true', Bool.not_eq_false', Bool.not_eq_eq_eq_not, Bool.not_true, Bool.not_false, decide_eq_true_eq, decide_eq_false_iff_not, Bool.and_eq_true, Bool.and_eq_false_iff, Bool.or_eq_true, Bool.or_eq_false_iff] at hb); (try (exfalso; first | omega | exact hb trivial)))) | (apply endS trivial; rotate_left; (· exact eva); (· rfl); try refine ⟨?_, rfl⟩) | fail)
    (apply endR [1, 2, 3] trivial ⟨rfl, rfl⟩; (· exact eva); (· simp [gcTop, gcVal, gcLeaf, gcLeaves, gcVals, constOk, gc_lt, gc_lt0]); (· rfl); (· decide); (· simp [allConst, f32s, i64s, b8s, bools, constOk]))

theorem spec_AddFields_law {C : Ctab} {i1 i2 i3 i4 : FuncId} {c1 c2 c3 c4 : Contract} (h1 : Has C i1 c1 spec_l02Is_ok) (h2 : Has C i2 c2 spec_l02Fits_ok) (h3 : Has C i3 c3 spec_l02Sum_ok) (h4 : Has C i4 c4 spec_l02Give_ok) : spec_AddFields_ok (gcC C (spec_AddFields i1 i2 i3 i4) true) := by
  intro σ w h wr sv lv sp lo ev xv yv e x y ev' xv' yv' e' x' y' ⟨r1, r2⟩ n1 n2 ⟨r3, r4, r5⟩ m1 m2 m3 ⟨s3, s4, s5⟩ u1 u2 u3
  have k1 := r1.ok
  have k2 := r2.ok
  cases hs : isSheet w h sp lo
  · rw [show adOk w h wr sp lo e x y e' x' y' = false from by unfold adOk; rw [isField_bad hs]; rfl, flRes_f, flRows_f]
    refine ret_gc rfl rfl ?_
    repeat' (first | refine ff ?_ | ((first | refine EvR.aSplB ?_ ?_ | refine Ev.aSplB ?_ ?_) <;> (intro hb; (try rw [hb]); (try simp only [Bool.not_eq_true', Bool.not_eq_false', Bool.not_eq_eq_eq_not, Bool.not_true, Bool.not_false, decide_eq_true_eq, decide_eq_false_iff_not, Bool.and_eq_true, Bool.and_eq_false_iff, Bool.or_eq_true, Bool.or_eq_false_iff] at hb); (try (exfalso; first | omega | exact hb trivial)))) | (apply endS trivial; rotate_left; (· exact eva); (· rfl); try refine ⟨?_, rfl⟩) | fail)
    (apply EvR.aCall h1.at_; (· exact eva); (· exact  h1.ok _ (σ.length + 0) 0 w h wr sv lv sp lo (PtAt.own rfl) ⟨r1.ext _, r2.ext _⟩ n1 n2); (rintro _ _ ⟨rfl, rfl⟩; refine EvR.nrm ?_))
    rw [hs]
    repeat' (first | refine ff ?_ | ((first | refine EvR.aSplB ?_ ?_ | refine Ev.aSplB ?_ ?_) <;> (intro hb; (try rw [hb]); (try simp only [Bool.not_eq_true', Bool.not_eq_false', Bool.not_eq_eq_eq_not, Bool.not_true, Bool.not_false, decide_eq_true_eq, decide_eq_false_iff_not, Bool.and_eq_true, Bool.and_eq_false_iff, Bool.or_eq_true, Bool.or_eq_false_iff] at hb); (try (exfalso; first | omega | exact hb trivial)))) | (apply endS trivial; rotate_left; (· exact eva); (· rfl); try refine ⟨?_, rfl⟩) | fail)
    all_goals simp
  obtain ⟨a1, a2, a3, a4, q1, q2⟩ := isSheet_sides hs
  obtain ⟨W, rfl⟩ := Int.eq_ofNat_of_zero_le (show 0 ≤ w by omega)
  obtain ⟨H, rfl⟩ := Int.eq_ofNat_of_zero_le (show 0 ≤ h by omega)
  have hN2 : W * H ≤ 256 := Nat.mul_le_mul (show W ≤ 16 by omega) (show H ≤ 16 by omega)
  have hWH : ((W * H : Nat) : Int) = (W : Int) * (H : Int) := Int.natCast_mul _ _
  cases hFi : fits W H wr e x y
  · rw [show adOk W H wr sp lo e x y e' x' y' = false from by unfold adOk; rw [isField_fits hs, hFi]; rfl, flRes_f, flRows_f]
    refine ret_gc rfl rfl ?_
    repeat' (first | refine ff ?_ | ((first | refine EvR.aSplB ?_ ?_ | refine Ev.aSplB ?_ ?_) <;> (intro hb; (try rw [hb]); (try simp only [Bool.not_eq_true', Bool.not_eq_false', Bool.not_eq_eq_eq_not, Bool.not_true, Bool.not_false, decide_eq_true_eq, decide_eq_false_iff_not, Bool.and_eq_true, Bool.and_eq_false_iff, Bool.or_eq_true, Bool.or_eq_false_iff] at hb); (try (exfalso; first | omega | exact hb trivial)))) | (apply endS trivial; rotate_left; (· exact eva); (· rfl); try refine ⟨?_, rfl⟩) | fail)
    (apply EvR.aCall h1.at_; (· exact eva); (· exact  h1.ok _ (σ.length + 0) 0 W H wr sv lv sp lo (PtAt.own rfl) ⟨r1.ext _, r2.ext _⟩ n1 n2); (rintro _ _ ⟨rfl, rfl⟩; refine EvR.nrm ?_))
    rw [hs]
    repeat' (first | refine ff ?_ | ((first | refine EvR.aSplB ?_ ?_ | refine Ev.aSplB ?_ ?_) <;> (intro hb; (try rw [hb]); (try simp only [Bool.not_eq_true', Bool.not_eq_false', Bool.not_eq_eq_eq_not, Bool.not_true, Bool.not_false, decide_eq_true_eq, decide_eq_false_iff_not, Bool.and_eq_true, Bool.and_eq_false_iff, Bool.or_eq_true, Bool.or_eq_false_iff] at hb); (try (exfalso; first | omega | exact hb trivial)))) | (apply endS trivial; rotate_left; (· exact eva); (· rfl); try refine ⟨?_, rfl⟩) | fail)
    (apply EvR.aCall h2.at_; (· exact eva); (· exact  h2.ok _ (σ.length + 0) 0 (σ.length + 1) 0 W H wr sv lv ev xv yv e x y (PtAt.own rfl) (PtAt.own rfl) ⟨r3.ext _, r4.ext _, r5.ext _⟩ m1 m2 m3 (by omega) (by omega) (by omega) (by omega) (by omega)); (rintro _ _ ⟨rfl, rfl⟩; refine EvR.nrm ?_))
    rw [hFi]
    repeat' (first | refine ff ?_ | ((first | refine EvR.aSplB ?_ ?_ | refine Ev.aSplB ?_ ?_) <;> (intro hb; (try rw [hb]); (try simp only [Bool.not_eq_true', Bool.not_eq_false', Bool.not_eq_eq_eq_not, Bool.not_true, Bool.not_false, decide_eq_true_eq, decide_eq_false_iff_not, Bool.and_eq_true, Bool.and_eq_false_iff, Bool.or_eq_true, Bool.or_eq_false_iff] at hb); (try (exfalso; first | omega | exact hb trivial)))) | (apply endS trivial; rotate_left; (· exact eva); (· rfl); try refine ⟨?_, rfl⟩) | fail)
    all_goals simp
  cases hFj : fits W H wr e' x' y'
  · rw [show adOk W H wr sp lo e x y e' x' y' = false from by unfold adOk; rw [isField_fits hs, isField_fits hs, hFj]; simp, flRes_f, flRows_f]
    refine ret_gc rfl rfl ?_
    repeat' (first | refine ff ?_ | ((first | refine EvR.aSplB ?_ ?_ | refine Ev.aSplB ?_ ?_) <;> (intro hb; (try rw [hb]); (try simp only [Bool.not_eq_true', Bool.not_eq_false', Bool.not_eq_eq_eq_not, Bool.not_true, Bool.not_false, decide_eq_true_eq, decide_eq_false_iff_not, Bool.and_eq_true, Bool.and_eq_false_iff, Bool.or_eq_true, Bool.or_eq_false_iff] at hb); (try (exfalso; first | omega | exact hb trivial)))) | (apply endS trivial; rotate_left; (· exact eva); (· rfl); try refine ⟨?_, rfl⟩) | fail)
    (apply EvR.aCall h1.at_; (· exact eva); (· exact  h1.ok _ (σ.length + 0) 0 W H wr sv lv sp lo (PtAt.own rfl) ⟨r1.ext _, r2.ext _⟩ n1 n2); (rintro _ _ ⟨rfl, rfl⟩; refine EvR.nrm ?_))
    rw [hs]
    repeat' (first | refine ff ?_ | ((first | refine EvR.aSplB ?_ ?_ | refine Ev.aSplB ?_ ?_) <;> (intro hb; (try rw [hb]); (try simp only [Bool.not_eq_true', Bool.not_eq_false', Bool.not_eq_eq_eq_not, Bool.not_true, Bool.not_false, decide_eq_true_eq, decide_eq_false_iff_not, Bool.and_eq_true, Bool.and_eq_false_iff, Bool.or_eq_true, Bool.or_eq_false_iff] at hb); (try (exfalso; first | omega | exact hb trivial)))) | (apply endS trivial; rotate_left; (· exact eva); (· rfl); try refine ⟨?_, rfl⟩) | fail)
    (apply EvR.aCall h2.at_; (· exact eva); (· exact  h2.ok _ (σ.length + 0) 0 (σ.length + 1) 0 W H wr sv lv ev xv yv e x y (PtAt.own rfl) (PtAt.own rfl) ⟨r3.ext _, r4.ext _, r5.ext _⟩ m1 m2 m3 (by omega) (by omega) (by omega) (by omega) (by omega)); (rintro _ _ ⟨rfl, rfl⟩; refine EvR.nrm ?_))
    rw [hFi]
    repeat' (first | refine ff ?_ | ((first | refine EvR.aSplB ?_ ?_ | refine Ev.aSplB ?_ ?_) <;> (intro hb; (try rw [hb]); (try simp only [Bool.not_eq_true', Bool.not_eq_false', Bool.not_eq_eq_eq_not, Bool.not_true, Bool.not_false, decide_eq_true_eq, decide_eq_false_iff_not, Bool.and_eq_true, Bool.and_eq_false_iff, Bool.or_eq_true, Bool.or_eq_false_iff] at hb); (try (exfalso; first | omega | exact hb trivial)))) | (apply endS trivial; rotate_left; (· exact eva); (· rfl); try refine ⟨?_, rfl⟩) | fail)
    (apply EvR.aCall h2.at_; (· exact eva); (· exact  h2.ok _ (σ.length + 0) 0 (σ.length + 2) 0 W H wr sv lv ev' xv' yv' e' x' y' (PtAt.own rfl) (PtAt.own rfl) ⟨s3.ext _, s4.ext _, s5.ext _⟩ u1 u2 u3 (by omega) (by omega) (by omega) (by omega) (by omega)); (rintro _ _ ⟨rfl, rfl⟩; refine EvR.nrm ?_))
    rw [hFj]
    repeat' (first | refine ff ?_ | ((first | refine EvR.aSplB ?_ ?_ | refine Ev.aSplB ?_ ?_) <;> (intro hb; (try rw [hb]); (try simp only [Bool.not_eq_true', Bool.not_eq_false', Bool.not_eq_eq_eq_not, Bool.not_true, Bool.not_false, decide_eq_true_eq, decide_eq_false_iff_not, Bool.and_eq_true, Bool.and_eq_false_iff, Bool.or_eq_true, Bool.or_eq_false_iff] at hb); (try (exfalso; first | omega | exact hb trivial)))) | (apply endS trivial; rotate_left; (· exact eva); (· rfl); try refine ⟨?_, rfl⟩) | fail)
    all_goals simp
  obtain ⟨N, hN⟩ : ∃ N, W * H = N := ⟨_, rfl⟩
  obtain ⟨e1, e2, e3⟩ := fits_lens hFi
  obtain ⟨e4, e5, e6⟩ := fits_lens hFj
  rw [hN] at e1 e2 e3 e4 e5 e6
  have l1 : (addL e e').length = N := by rw [newM_length]; exact e1
  have l2 : (addL x x').length = N := by rw [newM_length]; exact e2
  have l3 : (addL y y').length = N := by rw [newM_length]; exact e3
  refine ret_gc rfl rfl ?_
  repeat' (first | refine ff ?_ | ((first | refine EvR.aSplB ?_ ?_ | refine Ev.aSplB ?_ ?_) <;> (intro hb; (try rw [hb]); (try simp only [Bool.not_eq_true', Bool.not_eq_false', Bool.not_eq_eq_eq_not, Bool.not_true, Bool.not_false, decide_eq_true_eq, decide_eq_false_iff_not, Bool.and_eq_true, Bool.and_eq_false_iff, Bool.or_eq_true, Bool.or_eq_false_iff] at hb); (try (exfalso; first | omega | exact hb trivial)))) | (apply endS trivial; rotate_left; (· exact eva); (· rfl); try refine ⟨?_, rfl⟩) | fail)
  (apply EvR.aCall h1.at_; (· exact eva); (· exact  h1.ok _ (σ.length + 0) 0 W H wr sv lv sp lo (PtAt.own rfl) ⟨r1.ext _, r2.ext _⟩ n1 n2); (rintro _ _ ⟨rfl, rfl⟩; refine EvR.nrm ?_))
  rw [hs]
  repeat' (first | refine ff ?_ | ((first | refine EvR.aSplB ?_ ?_ | refine Ev.aSplB ?_ ?_) <;> (intro hb; (try rw [hb]); (try simp only [Bool.not_eq_true', Bool.not_eq_false', Bool.not_eq_eq_eq_not, Bool.not_true, Bool.not_false, decide_eq_true_eq, decide_eq_false_iff_not, Bool.and_eq_true, Bool.and_eq_false_iff, Bool.or_eq_true, Bool.or_eq_false_iff] at hb); (try (exfalso; first | omega | exact hb trivial)))) | (apply endS trivial; rotate_left; (· exact eva); (· rfl); try refine ⟨?_, rfl⟩) | fail)
  (apply EvR.aCall h2.at_; (· exact eva); (· exact  h2.ok _ (σ.length + 0) 0 (σ.length + 1) 0 W H wr sv lv ev xv yv e x y (PtAt.own rfl) (PtAt.own rfl) ⟨r3.ext _, r4.ext _, r5.ext _⟩ m1 m2 m3 (by omega) (by omega) (by omega) (by omega) (by omega)); (rintro _ _ ⟨rfl, rfl⟩; refine EvR.nrm ?_))
  rw [hFi]
  repeat' (first | refine ff ?_ | ((first | refine EvR.aSplB ?_ ?_ | refine Ev.aSplB ?_ ?_) <;> (intro hb; (try rw [hb]); (try simp only [Bool.not_eq_true', Bool.not_eq_false', Bool.not_eq_eq_eq_not, Bool.not_true, Bool.not_false, decide_eq_true_eq, decide_eq_false_iff_not, Bool.and_eq_true, Bool.and_eq_false_iff, Bool.or_eq_true, Bool.or_eq_false_iff] at hb); (try (exfalso; first | omega | exact hb trivial)))) | (apply endS trivial; rotate_left; (· exact eva); (· rfl); try refine ⟨?_, rfl⟩) | fail)
  (apply EvR.aCall h2.at_; (· exact eva); (· exact  h2.ok _ (σ.length + 0) 0 (σ.length + 2) 0 W H wr sv lv ev' xv' yv' e' x' y' (PtAt.own rfl) (PtAt.own rfl) ⟨s3.ext _, s4.ext _, s5.ext _⟩ u1 u2 u3 (by omega) (by omega) (by omega) (by omega) (by omega)); (rintro _ _ ⟨rfl, rfl⟩; refine EvR.nrm ?_))
  rw [hFj]
  repeat' (first | refine ff ?_ | ((first | refine EvR.aSplB ?_ ?_ | refine Ev.aSplB ?_ ?_) <;> (intro hb; (try rw [hb]); (try simp only [Bool.not_eq_true', Bool.not_eq_false', Bool.not_eq_eq_eq_not, Bool.not_true, Bool.not_false, decide_eq_true_eq, decide_eq_false_iff_not, Bool.and_eq_true, Bool.and_eq_false_iff, Bool.or_eq_true, Bool.or_eq_false_iff] at hb); (try (exfalso; first | omega | exact hb trivial)))) | (apply endS trivial; rotate_left; (· exact eva); (· rfl); try refine ⟨?_, rfl⟩) | fail)
  (apply EvR.aCall h3.at_; (· exact eva); (· exact  h3.ok _ (σ.length + 1) (σ.length + 2) N ev xv yv ev' xv' yv' e x y e' x' y' (PtAt.own rfl) (PtAt.own rfl) ⟨r3.ext _, r4.ext _, r5.ext _⟩ ⟨s3.ext _, s4.ext _, s5.ext _⟩ e1 e2 e3 e4 e5 e6 (by omega)); (rintro _ _ ⟨rfl, rfl⟩; refine EvR.nrm ?_))
  repeat' (first | refine ff ?_ | ((first | refine EvR.aSplB ?_ ?_ | refine Ev.aSplB ?_ ?_) <;> (intro hb; (try rw [hb]); (try simp only [Bool.not_eq_true', Bool.not_eq_false', Bool.not_eq_eq_eq_not, Bool.not_true, Bool.not_false, decide_eq_true_eq, decide_eq_false_iff_not, Bool.and_eq_true, Bool.and_eq_false_iff, Bool.or_eq_true, Bool.or_eq_false_iff] at hb); (try (exfalso; first | omega | exact hb trivial)))) | (apply endS trivial; rotate_left; (· exact eva); (· rfl); try refine ⟨?_, rfl⟩) | fail)
  (apply EvR.aCall h4.at_; (· exact eva); (· exact  h4.ok _ (σ.length + 0) 0 W H wr sv lv (σ.length + 4) (σ.length + 5) (σ.length + 6) N (addL e e') (addL x x') (addL y y') (PtAt.own rfl) l1 l2 l3 (hget _ _ 4) (hget _ _ 5) (hget _ _ 6) (by omega) (by omega) (by omega) (by omega) (by omega) (by omega)); (rintro _ _ ⟨rfl, rfl⟩; refine EvR.nrm ?_))
  cases hV : fits W H wr (addL e e') (addL x x') (addL y y')
  · rw [if_neg (by simp), show adOk W H wr sp lo e x y e' x' y' = false from by unfold adOk; rw [isField_fits hs, isField_fits hs, isField_fits hs, hV]; simp, flRes_f, flRows_f]
    repeat' (first | refine ff ?_ | ((first | refine EvR.aSplB ?_ ?_ | refine Ev.aSplB ?_ ?_) <;> (intro hb; (try rw [hb]); (try simp only [Bool.not_eq_true', Bool.not_eq_false', Bool.not_eq_eq_eq_not, Bool.not_true, Bool.not_false, decide_eq_true_eq, decide_eq_false_iff_not, Bool.and_eq_true, Bool.and_eq_false_iff, Bool.or_eq_true, Bool.or_eq_false_iff] at hb); (try (exfalso; first | omega | exact hb trivial)))) | (apply endS trivial; rotate_left; (· exact eva); (· rfl); try refine ⟨?_, rfl⟩) | fail)
    all_goals simp
  · rw [if_pos rfl, show adOk W H wr sp lo e x y e' x' y' = true from by unfold adOk; rw [isField_fits hs, isField_fits hs, isField_fits hs, hV, hFi, hFj]; rfl, flRes_t, flRows_t, l1, l2, l3]
    repeat' (first | refine ff ?_ | ((first | refine EvR.aSplB ?_ ?_ | refine Ev.aSplB ?_ ?_) <;> (intro hb; (try rw [hb]); (try simp only [Bool.not_eq_true', Bool.not_eq_false', Bool.not_eq_eq_eq_not, Bool.not_true, Bool.not_false, decide_eq_true_eq, decide_eq_false_iff_not, Bool.and_eq_true, Bool.and_eq_false_iff, Bool.or_eq_true, Bool.or_eq_false_iff] at hb); (try (exfalso; first | omega | exact hb trivial)))) | (apply endS trivial; rotate_left; (· exact eva); (· rfl); try refine ⟨?_, rfl⟩) | fail)
    (apply endR [4, 5, 6] trivial ⟨rfl, rfl⟩; (· exact eva); (· simp [gcTop, gcVal, gcLeaf, gcLeaves, gcVals, constOk, gc_lt, gc_lt0]); (· rfl); (· decide); (· simp [allConst, f32s, i64s, b8s, bools, constOk]))
end Go.Abs

