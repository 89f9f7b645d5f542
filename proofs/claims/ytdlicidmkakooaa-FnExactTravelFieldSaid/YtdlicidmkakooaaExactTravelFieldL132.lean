/- Laws of functions: the angle of a point, by the program and by the reference. Conditions: the laws of what they call. -/
import Derived.Test.YtdlicidmkakooaaExactTravelFieldL131
namespace Go.Abs

set_option linter.unusedSimpArgs false
set_option linter.unusedVariables false
set_option maxHeartbeats 8000000
set_option maxRecDepth 20000
/- loop.example/g01201/impl.AngleTurns -/
def impl_AngleTurns_r0 : List SOper := [
 ⟨some 4, none, .mov (.const (.float .f32 0)), 0⟩]
def impl_AngleTurns_r1 (i_impl_IsFinite : FuncId) : List SOper := [
 ⟨some 12, none, .mov (.tmp 1), 0⟩,
 ⟨some 13, none, .call (.func i_impl_IsFinite) [(.tmp 12)], 1⟩,
 ⟨some 14, none, .un .not (.tmp 13), 3⟩,
 ⟨some 15, none, .mov (.tmp 14), 7⟩,
  ⟨(some 16), (some (15, false)), .mov (.tmp 0), 15⟩,
  ⟨(some 17), (some (15, false)), .call (.func i_impl_IsFinite) [(.tmp 16)], 31⟩,
  ⟨(some 18), (some (15, false)), .un .not (.tmp 17), 63⟩,
 ⟨some 19, none, .pick (.tmp 15) (.const (.bool true)) (.tmp 18), 127⟩]
def impl_AngleTurns_r2 (i_math_NaN : FuncId) : List SOper := [
 ⟨some 20, none, .call (.func i_math_NaN) [], 0⟩,
 ⟨some 21, none, .conv (.toFloat .f32) (.tmp 20), 1⟩,
 ⟨some 4, none, .mov (.tmp 21), 3⟩]
def impl_AngleTurns_r3 : List SOper := [
 ⟨some 22, none, .mov (.tmp 1), 0⟩,
 ⟨some 23, none, .bin .eql .other (.tmp 22) (.const (.float .f32 0)), 1⟩,
 ⟨some 24, none, .mov (.tmp 23), 3⟩,
  ⟨(some 25), (some (24, true)), .mov (.tmp 0), 7⟩,
  ⟨(some 26), (some (24, true)), .bin .eql .other (.tmp 25) (.const (.float .f32 0)), 15⟩,
 ⟨some 27, none, .pick (.tmp 24) (.tmp 26) (.const (.bool false)), 31⟩]
def impl_AngleTurns_r4 : List SOper := [
 ⟨some 4, none, .mov (.const (.float .f32 0)), 0⟩]
def impl_AngleTurns_r5 (i_math_Abs : FuncId) : List SOper := [
 ⟨some 28, none, .mov (.tmp 0), 0⟩,
 ⟨some 29, none, .conv (.toFloat .f64) (.tmp 28), 1⟩,
 ⟨some 30, none, .call (.func i_math_Abs) [(.tmp 29)], 3⟩,
 ⟨some 31, none, .mov (.tmp 1), 0⟩,
 ⟨some 32, none, .conv (.toFloat .f64) (.tmp 31), 8⟩,
 ⟨some 33, none, .call (.func i_math_Abs) [(.tmp 32)], 31⟩,
 ⟨some 5, none, .mov (.tmp 30), 63⟩,
 ⟨some 6, none, .mov (.tmp 33), 127⟩]
def impl_AngleTurns_r6 : List SOper := [
 ⟨some 34, none, .mov (.tmp 5), 0⟩,
 ⟨some 35, none, .mov (.tmp 6), 0⟩,
 ⟨some 36, none, .bin .quo .other (.tmp 34) (.tmp 35), 3⟩,
 ⟨some 7, none, .mov (.tmp 36), 7⟩]
def impl_AngleTurns_r7 : List SOper := [
 ⟨some 37, none, .mov (.tmp 5), 0⟩,
 ⟨some 38, none, .mov (.tmp 6), 0⟩,
 ⟨some 39, none, .bin .gtr .other (.tmp 37) (.tmp 38), 3⟩]
def impl_AngleTurns_r8 : List SOper := [
 ⟨some 40, none, .mov (.tmp 6), 0⟩,
 ⟨some 41, none, .mov (.tmp 5), 0⟩,
 ⟨some 42, none, .bin .quo .other (.tmp 40) (.tmp 41), 3⟩,
 ⟨some 7, none, .mov (.tmp 42), 7⟩]
def impl_AngleTurns_r9 : List SOper := [
 ⟨some 43, none, .mov (.const (.int .i64 0)), 0⟩]
def impl_AngleTurns_r10 : List SOper := [
 ⟨some 44, none, .bin .lss .other (.tmp 43) (.const (.int .i64 3)), 0⟩]
def impl_AngleTurns_r11 (i_math_Sqrt : FuncId) : List SOper := [
 ⟨some 45, none, .mov (.tmp 7), 0⟩,
 ⟨some 46, none, .mov (.tmp 7), 0⟩,
 ⟨some 47, none, .mov (.tmp 7), 0⟩,
 ⟨some 48, none, .bin .mul .other (.tmp 46) (.tmp 47), 6⟩,
 ⟨some 49, none, .bin .add .other (.const (.float .f64 4607182418800017408)) (.tmp 48), 14⟩,
 ⟨some 50, none, .call (.func i_math_Sqrt) [(.tmp 49)], 30⟩,
 ⟨some 51, none, .bin .add .other (.const (.float .f64 4607182418800017408)) (.tmp 50), 62⟩,
 ⟨some 52, none, .bin .quo .other (.tmp 45) (.tmp 51), 127⟩,
 ⟨some 7, none, .mov (.tmp 52), 255⟩]
def impl_AngleTurns_r12 : List SOper := [
 ⟨some 53, none, .bin .add .other (.tmp 43) (.const (.int .i64 1)), 0⟩,
 ⟨some 43, none, .mov (.tmp 53), 1⟩]
def impl_AngleTurns_l13 (i_math_Sqrt : FuncId) : SCode := (.kp [0,1,5,6,7,43] (.seq (.region impl_AngleTurns_r10 false) (.kp [0,1,5,6,7,43,44] (.seq (.cond (.tmp 44) .skip (.exit 0)) (.kp [0,1,5,6,7,43] (.seq (.block 1 (.region (impl_AngleTurns_r11 i_math_Sqrt) false)) (.kp [0,1,5,6,7,43] (.region impl_AngleTurns_r12 false))))))))
def impl_AngleTurns_r14 : List SOper := [
 ⟨some 54, none, .mov (.tmp 7), 0⟩,
 ⟨some 55, none, .mov (.tmp 7), 0⟩,
 ⟨some 56, none, .bin .mul .other (.tmp 54) (.tmp 55), 3⟩,
 ⟨some 8, none, .mov (.tmp 56), 7⟩]
def impl_AngleTurns_r15 : List SOper := [
 ⟨some 9, none, .mov (.const (.float .f64 0)), 0⟩]
def impl_AngleTurns_r16 : List SOper := [
 ⟨some 10, none, .mov (.const (.float .f64 4624633867356078080)), 0⟩]
def impl_AngleTurns_r17 : List SOper := [
 ⟨some 57, none, .mov (.tmp 10), 0⟩,
 ⟨some 58, none, .bin .geq .other (.tmp 57) (.const (.float .f64 4607182418800017408)), 1⟩]
def impl_AngleTurns_r18 : List SOper := [
 ⟨some 61, none, .mov (.tmp 10), 0⟩,
 ⟨some 62, none, .bin .quo .other (.const (.float .f64 4607182418800017408)) (.tmp 61), 1⟩,
 ⟨some 63, none, .mov (.tmp 8), 0⟩,
 ⟨some 64, none, .mov (.tmp 9), 0⟩,
 ⟨some 65, none, .bin .mul .other (.tmp 63) (.tmp 64), 12⟩,
 ⟨some 66, none, .bin .sub .other (.tmp 62) (.tmp 65), 31⟩,
 ⟨some 9, none, .mov (.tmp 66), 63⟩]
def impl_AngleTurns_r19 : List SOper := [
 ⟨some 59, none, .mov (.tmp 10), 0⟩,
 ⟨some 60, none, .bin .sub .other (.tmp 59) (.const (.float .f64 4611686018427387904)), 1⟩,
 ⟨some 10, none, .mov (.tmp 60), 3⟩]
def impl_AngleTurns_l20 : SCode := (.kp [0,1,5,6,7,8,9,10] (.seq (.seq (.region impl_AngleTurns_r17 false) (.kp [0,1,5,6,7,8,9,10,58] (.cond (.tmp 58) .skip (.exit 2)))) (.kp [0,1,5,6,7,8,9,10] (.seq (.block 3 (.region impl_AngleTurns_r18 false)) (.kp [0,1,5,6,7,8,9,10] (.region impl_AngleTurns_r19 false))))))
def impl_AngleTurns_r21 : List SOper := [
 ⟨some 67, none, .mov (.tmp 7), 0⟩,
 ⟨some 68, none, .mov (.tmp 9), 0⟩,
 ⟨some 69, none, .bin .mul .other (.tmp 67) (.tmp 68), 3⟩,
 ⟨some 70, none, .bin .mul .other (.const (.float .f64 4620693217682128896)) (.tmp 69), 7⟩,
 ⟨some 71, none, .bin .quo .other (.tmp 70) (.const (.float .f64 4618760256179416344)), 15⟩,
 ⟨some 11, none, .mov (.tmp 71), 31⟩]
def impl_AngleTurns_r22 : List SOper := [
 ⟨some 72, none, .mov (.tmp 5), 0⟩,
 ⟨some 73, none, .mov (.tmp 6), 0⟩,
 ⟨some 74, none, .bin .gtr .other (.tmp 72) (.tmp 73), 3⟩]
def impl_AngleTurns_r23 : List SOper := [
 ⟨some 75, none, .mov (.tmp 11), 0⟩,
 ⟨some 76, none, .bin .sub .other (.const (.float .f64 4598175219545276416)) (.tmp 75), 1⟩,
 ⟨some 11, none, .mov (.tmp 76), 3⟩]
def impl_AngleTurns_r24 : List SOper := [
 ⟨some 77, none, .mov (.tmp 1), 0⟩,
 ⟨some 78, none, .bin .lss .other (.tmp 77) (.const (.float .f32 0)), 1⟩]
def impl_AngleTurns_r25 : List SOper := [
 ⟨some 79, none, .mov (.tmp 11), 0⟩,
 ⟨some 80, none, .bin .sub .other (.const (.float .f64 4602678819172646912)) (.tmp 79), 1⟩,
 ⟨some 11, none, .mov (.tmp 80), 3⟩]
def impl_AngleTurns_r26 : List SOper := [
 ⟨some 81, none, .mov (.tmp 0), 0⟩,
 ⟨some 82, none, .bin .lss .other (.tmp 81) (.const (.float .f32 0)), 1⟩]
def impl_AngleTurns_r27 : List SOper := [
 ⟨some 83, none, .mov (.tmp 11), 0⟩,
 ⟨some 84, none, .un .neg (.tmp 83), 1⟩,
 ⟨some 11, none, .mov (.tmp 84), 3⟩]
def impl_AngleTurns_r28 : List SOper := [
 ⟨some 85, none, .mov (.tmp 11), 0⟩,
 ⟨some 86, none, .conv (.toFloat .f32) (.tmp 85), 1⟩,
 ⟨some 4, none, .mov (.tmp 86), 3⟩]
def impl_AngleTurns (i_impl_IsFinite i_math_NaN i_math_Abs i_math_Sqrt : FuncId) : SFunc := ⟨87, [.tmp 4], (.kp [0,1] (.seq (.region impl_AngleTurns_r0 false) (.kp [0,1] (.seq (.seq (.region (impl_AngleTurns_r1 i_impl_IsFinite) false) (.kp [0,1,19] (.cond (.tmp 19) (.seq (.region (impl_AngleTurns_r2 i_math_NaN) false) .ret) .skip))) (.kp [0,1] (.seq (.seq (.region impl_AngleTurns_r3 false) (.kp [0,1,27] (.cond (.tmp 27) (.seq (.region impl_AngleTurns_r4 false) .ret) .skip))) (.kp [0,1] (.seq (.region (impl_AngleTurns_r5 i_math_Abs) false) (.kp [0,1,5,6] (.seq (.region impl_AngleTurns_r6 false) (.kp [0,1,5,6,7] (.seq (.seq (.region impl_AngleTurns_r7 false) (.kp [0,1,5,6,7,39] (.cond (.tmp 39) (.region impl_AngleTurns_r8 false) .skip))) (.kp [0,1,5,6,7] (.seq (.seq (.region impl_AngleTurns_r9 false) (.kp [0,1,5,6,7,43] (.block 0 (.loop (impl_AngleTurns_l13 i_math_Sqrt))))) (.kp [0,1,5,6,7] (.seq (.region impl_AngleTurns_r14 false) (.kp [0,1,5,6,7,8] (.seq (.region impl_AngleTurns_r15 false) (.kp [0,1,5,6,7,8,9] (.seq (.seq (.region impl_AngleTurns_r16 false) (.kp [0,1,5,6,7,8,9,10] (.block 2 (.loop impl_AngleTurns_l20)))) (.kp [0,1,5,6,7,9] (.seq (.region impl_AngleTurns_r21 false) (.kp [0,1,5,6,11] (.seq (.seq (.region impl_AngleTurns_r22 false) (.kp [0,1,11,74] (.cond (.tmp 74) (.region impl_AngleTurns_r23 false) .skip))) (.kp [0,1,11] (.seq (.seq (.region impl_AngleTurns_r24 false) (.kp [0,11,78] (.cond (.tmp 78) (.region impl_AngleTurns_r25 false) .skip))) (.kp [0,11] (.seq (.seq (.region impl_AngleTurns_r26 false) (.kp [11,82] (.cond (.tmp 82) (.region impl_AngleTurns_r27 false) .skip))) (.kp [11] (.seq (.region impl_AngleTurns_r28 false) .ret))))))))))))))))))))))))))))))⟩

/- loop.example/g01201/spec.l01AngleWide -/
def spec_l01AngleWide_r0 : List SOper := [
 ⟨some 4, none, .mov (.const (.float .f64 0)), 0⟩]
def spec_l01AngleWide_r1 : List SOper := [
 ⟨some 14, none, .mov (.tmp 0), 0⟩,
 ⟨some 15, none, .mov (.tmp 0), 0⟩,
 ⟨some 16, none, .bin .sub .other (.tmp 14) (.tmp 15), 3⟩,
 ⟨some 17, none, .bin .neq .other (.tmp 16) (.const (.float .f64 0)), 7⟩,
 ⟨some 18, none, .mov (.tmp 17), 15⟩,
  ⟨(some 19), (some (18, false)), .mov (.tmp 1), 31⟩,
  ⟨(some 20), (some (18, false)), .mov (.tmp 1), 31⟩,
  ⟨(some 21), (some (18, false)), .bin .sub .other (.tmp 19) (.tmp 20), 127⟩,
  ⟨(some 22), (some (18, false)), .bin .neq .other (.tmp 21) (.const (.float .f64 0)), 255⟩,
 ⟨some 23, none, .pick (.tmp 18) (.const (.bool true)) (.tmp 22), 511⟩]
def spec_l01AngleWide_r2 (i_math_NaN : FuncId) : List SOper := [
 ⟨some 24, none, .call (.func i_math_NaN) [], 0⟩,
 ⟨some 4, none, .mov (.tmp 24), 1⟩]
def spec_l01AngleWide_r3 : List SOper := [
 ⟨some 25, none, .mov (.tmp 1), 0⟩,
 ⟨some 26, none, .bin .eql .other (.tmp 25) (.const (.float .f64 0)), 1⟩,
 ⟨some 27, none, .mov (.tmp 26), 3⟩,
  ⟨(some 28), (some (27, true)), .mov (.tmp 0), 7⟩,
  ⟨(some 29), (some (27, true)), .bin .eql .other (.tmp 28) (.const (.float .f64 0)), 15⟩,
 ⟨some 30, none, .pick (.tmp 27) (.tmp 29) (.const (.bool false)), 31⟩]
def spec_l01AngleWide_r4 : List SOper := [
 ⟨some 4, none, .mov (.const (.float .f64 0)), 0⟩]
def spec_l01AngleWide_r5 (i_math_Abs : FuncId) : List SOper := [
 ⟨some 31, none, .mov (.tmp 0), 0⟩,
 ⟨some 32, none, .call (.func i_math_Abs) [(.tmp 31)], 1⟩,
 ⟨some 5, none, .mov (.tmp 32), 3⟩]
def spec_l01AngleWide_r6 (i_math_Abs : FuncId) : List SOper := [
 ⟨some 33, none, .mov (.tmp 1), 0⟩,
 ⟨some 34, none, .call (.func i_math_Abs) [(.tmp 33)], 1⟩,
 ⟨some 6, none, .mov (.tmp 34), 3⟩]
def spec_l01AngleWide_r7 : List SOper := [
 ⟨some 35, none, .mov (.tmp 5), 0⟩,
 ⟨some 36, none, .mov (.tmp 6), 0⟩,
 ⟨some 37, none, .bin .gtr .other (.tmp 35) (.tmp 36), 3⟩,
 ⟨some 7, none, .mov (.tmp 37), 7⟩]
def spec_l01AngleWide_r8 : List SOper := [
 ⟨some 8, none, .mov (.const (.float .f64 0)), 0⟩]
def spec_l01AngleWide_r9 : List SOper := [
 ⟨some 38, none, .mov (.tmp 7), 0⟩]
def spec_l01AngleWide_r10 : List SOper := [
 ⟨some 39, none, .mov (.tmp 6), 0⟩,
 ⟨some 40, none, .mov (.tmp 5), 0⟩,
 ⟨some 41, none, .bin .quo .other (.tmp 39) (.tmp 40), 3⟩,
 ⟨some 8, none, .mov (.tmp 41), 7⟩]
def spec_l01AngleWide_r11 : List SOper := [
 ⟨some 42, none, .mov (.tmp 5), 0⟩,
 ⟨some 43, none, .mov (.tmp 6), 0⟩,
 ⟨some 44, none, .bin .quo .other (.tmp 42) (.tmp 43), 3⟩,
 ⟨some 8, none, .mov (.tmp 44), 7⟩]
def spec_l01AngleWide_r12 : List SOper := [
 ⟨some 9, none, .mov (.const (.int .i64 0)), 0⟩]
def spec_l01AngleWide_r13 : List SOper := [
 ⟨some 45, none, .mov (.tmp 9), 0⟩,
 ⟨some 46, none, .bin .lss .other (.tmp 45) (.const (.int .i64 3)), 1⟩]
def spec_l01AngleWide_r14 (i_math_Sqrt : FuncId) : List SOper := [
 ⟨some 49, none, .mov (.tmp 8), 0⟩,
 ⟨some 50, none, .mov (.tmp 8), 0⟩,
 ⟨some 51, none, .mov (.tmp 8), 0⟩,
 ⟨some 52, none, .bin .mul .other (.tmp 50) (.tmp 51), 6⟩,
 ⟨some 53, none, .bin .add .other (.const (.float .f64 4607182418800017408)) (.tmp 52), 14⟩,
 ⟨some 54, none, .call (.func i_math_Sqrt) [(.tmp 53)], 30⟩,
 ⟨some 55, none, .bin .add .other (.const (.float .f64 4607182418800017408)) (.tmp 54), 62⟩,
 ⟨some 56, none, .bin .quo .other (.tmp 49) (.tmp 55), 127⟩,
 ⟨some 8, none, .mov (.tmp 56), 255⟩]
def spec_l01AngleWide_r15 : List SOper := [
 ⟨some 47, none, .mov (.tmp 9), 0⟩,
 ⟨some 48, none, .bin .add .other (.tmp 47) (.const (.int .i64 1)), 1⟩,
 ⟨some 9, none, .mov (.tmp 48), 3⟩]
def spec_l01AngleWide_l16 (i_math_Sqrt : FuncId) : SCode := (.kp [0,1,7,8,9] (.seq (.seq (.region spec_l01AngleWide_r13 false) (.kp [0,1,7,8,9,46] (.cond (.tmp 46) .skip (.exit 0)))) (.kp [0,1,7,8,9] (.seq (.block 1 (.region (spec_l01AngleWide_r14 i_math_Sqrt) false)) (.kp [0,1,7,8,9] (.region spec_l01AngleWide_r15 false))))))
def spec_l01AngleWide_r17 : List SOper := [
 ⟨some 57, none, .mov (.tmp 8), 0⟩,
 ⟨some 58, none, .mov (.tmp 8), 0⟩,
 ⟨some 59, none, .bin .mul .other (.tmp 57) (.tmp 58), 3⟩,
 ⟨some 10, none, .mov (.tmp 59), 7⟩]
def spec_l01AngleWide_r18 : List SOper := [
 ⟨some 11, none, .mov (.const (.float .f64 0)), 0⟩]
def spec_l01AngleWide_r19 : List SOper := [
 ⟨some 12, none, .mov (.const (.int .i64 15)), 0⟩]
def spec_l01AngleWide_r20 : List SOper := [
 ⟨some 60, none, .mov (.tmp 12), 0⟩,
 ⟨some 61, none, .bin .geq .other (.tmp 60) (.const (.int .i64 1)), 1⟩]
def spec_l01AngleWide_r21 : List SOper := [
 ⟨some 64, none, .mov (.tmp 12), 0⟩,
 ⟨some 65, none, .conv (.toFloat .f64) (.tmp 64), 1⟩,
 ⟨some 66, none, .bin .quo .other (.const (.float .f64 4607182418800017408)) (.tmp 65), 3⟩,
 ⟨some 67, none, .mov (.tmp 10), 0⟩,
 ⟨some 68, none, .mov (.tmp 11), 0⟩,
 ⟨some 69, none, .bin .mul .other (.tmp 67) (.tmp 68), 24⟩,
 ⟨some 70, none, .bin .sub .other (.tmp 66) (.tmp 69), 63⟩,
 ⟨some 11, none, .mov (.tmp 70), 127⟩]
def spec_l01AngleWide_r22 : List SOper := [
 ⟨some 62, none, .mov (.tmp 12), 0⟩,
 ⟨some 63, none, .bin .sub .other (.tmp 62) (.const (.int .i64 2)), 1⟩,
 ⟨some 12, none, .mov (.tmp 63), 3⟩]
def spec_l01AngleWide_l23 : SCode := (.kp [0,1,7,8,10,11,12] (.seq (.seq (.region spec_l01AngleWide_r20 false) (.kp [0,1,7,8,10,11,12,61] (.cond (.tmp 61) .skip (.exit 2)))) (.kp [0,1,7,8,10,11,12] (.seq (.block 3 (.region spec_l01AngleWide_r21 false)) (.kp [0,1,7,8,10,11,12] (.region spec_l01AngleWide_r22 false))))))
def spec_l01AngleWide_r24 : List SOper := [
 ⟨some 71, none, .mov (.tmp 8), 0⟩,
 ⟨some 72, none, .mov (.tmp 11), 0⟩,
 ⟨some 73, none, .bin .mul .other (.tmp 71) (.tmp 72), 3⟩,
 ⟨some 74, none, .bin .mul .other (.const (.float .f64 4620693217682128896)) (.tmp 73), 7⟩,
 ⟨some 75, none, .bin .quo .other (.tmp 74) (.const (.float .f64 4618760256179416344)), 15⟩,
 ⟨some 13, none, .mov (.tmp 75), 31⟩]
def spec_l01AngleWide_r25 : List SOper := [
 ⟨some 76, none, .mov (.tmp 7), 0⟩]
def spec_l01AngleWide_r26 : List SOper := [
 ⟨some 77, none, .mov (.tmp 13), 0⟩,
 ⟨some 78, none, .bin .sub .other (.const (.float .f64 4598175219545276416)) (.tmp 77), 1⟩,
 ⟨some 13, none, .mov (.tmp 78), 3⟩]
def spec_l01AngleWide_r27 : List SOper := [
 ⟨some 79, none, .mov (.tmp 1), 0⟩,
 ⟨some 80, none, .bin .lss .other (.tmp 79) (.const (.float .f64 0)), 1⟩]
def spec_l01AngleWide_r28 : List SOper := [
 ⟨some 81, none, .mov (.tmp 13), 0⟩,
 ⟨some 82, none, .bin .sub .other (.const (.float .f64 4602678819172646912)) (.tmp 81), 1⟩,
 ⟨some 13, none, .mov (.tmp 82), 3⟩]
def spec_l01AngleWide_r29 : List SOper := [
 ⟨some 83, none, .mov (.tmp 0), 0⟩,
 ⟨some 84, none, .bin .lss .other (.tmp 83) (.const (.float .f64 0)), 1⟩]
def spec_l01AngleWide_r30 : List SOper := [
 ⟨some 85, none, .mov (.tmp 13), 0⟩,
 ⟨some 86, none, .un .neg (.tmp 85), 1⟩,
 ⟨some 4, none, .mov (.tmp 86), 3⟩]
def spec_l01AngleWide_r31 : List SOper := [
 ⟨some 87, none, .mov (.tmp 13), 0⟩,
 ⟨some 4, none, .mov (.tmp 87), 1⟩]
def spec_l01AngleWide (i_math_NaN i_math_Abs i_math_Sqrt : FuncId) : SFunc := ⟨88, [.tmp 4], (.kp [0,1] (.seq (.region spec_l01AngleWide_r0 false) (.kp [0,1] (.seq (.seq (.region spec_l01AngleWide_r1 false) (.kp [0,1,23] (.cond (.tmp 23) (.seq (.region (spec_l01AngleWide_r2 i_math_NaN) false) .ret) .skip))) (.kp [0,1] (.seq (.seq (.region spec_l01AngleWide_r3 false) (.kp [0,1,30] (.cond (.tmp 30) (.seq (.region spec_l01AngleWide_r4 false) .ret) .skip))) (.kp [0,1] (.seq (.region (spec_l01AngleWide_r5 i_math_Abs) false) (.kp [0,1,5] (.seq (.region (spec_l01AngleWide_r6 i_math_Abs) false) (.kp [0,1,5,6] (.seq (.region spec_l01AngleWide_r7 false) (.kp [0,1,5,6,7] (.seq (.region spec_l01AngleWide_r8 false) (.kp [0,1,5,6,7] (.seq (.seq (.region spec_l01AngleWide_r9 false) (.kp [0,1,5,6,7,38] (.cond (.tmp 38) (.region spec_l01AngleWide_r10 false) (.region spec_l01AngleWide_r11 false)))) (.kp [0,1,7,8] (.seq (.seq (.region spec_l01AngleWide_r12 false) (.kp [0,1,7,8,9] (.block 0 (.loop (spec_l01AngleWide_l16 i_math_Sqrt))))) (.kp [0,1,7,8] (.seq (.region spec_l01AngleWide_r17 false) (.kp [0,1,7,8,10] (.seq (.region spec_l01AngleWide_r18 false) (.kp [0,1,7,8,10,11] (.seq (.seq (.region spec_l01AngleWide_r19 false) (.kp [0,1,7,8,10,11,12] (.block 2 (.loop spec_l01AngleWide_l23)))) (.kp [0,1,7,8,11] (.seq (.region spec_l01AngleWide_r24 false) (.kp [0,1,7,13] (.seq (.seq (.region spec_l01AngleWide_r25 false) (.kp [0,1,13,76] (.cond (.tmp 76) (.region spec_l01AngleWide_r26 false) .skip))) (.kp [0,1,13] (.seq (.seq (.region spec_l01AngleWide_r27 false) (.kp [0,13,80] (.cond (.tmp 80) (.region spec_l01AngleWide_r28 false) .skip))) (.kp [0,13] (.seq (.seq (.region spec_l01AngleWide_r29 false) (.kp [13,84] (.cond (.tmp 84) (.seq (.region spec_l01AngleWide_r30 false) .ret) .skip))) (.kp [13] (.seq (.region spec_l01AngleWide_r31 false) .ret))))))))))))))))))))))))))))))))))⟩


theorem stepsT_step (t i : Nat) : stepsT t (i + 1) = fbin .quo .f64 (stepsT t i) (fbin .add .f64 one64 (sqrtV (fbin .add .f64 one64 (fbin .mul .f64 (stepsT t i) (stepsT t i))))) := rfl
/-- The first loop of the program's angle. -/
theorem ang_loop1 {C : Ctab} {iS : FuncId} {cS : Contract} (hS : Has C iS cS math_Sqrt_ok) (σ : Heap) (y x a b t : Nat) : Ev C (SCode.loop (impl_AngleTurns_l13 iS)) [(0, .float .f32 y), (1, .float .f32 x), (5, .float .f64 a), (6, .float .f64 b), (7, .float .f64 t), (43, .int .i64 0)] (σ ++ []) fun o F' σ' => o = .exit 0 ∧ fkeep [0, 1, 5, 6, 7] F' = [(0, .float .f32 y), (1, .float .f32 x), (5, .float .f64 a), (6, .float .f64 b), (7, .float .f64 (stepsT t 3))] ∧ σ' = σ ++ [] := by
  refine Ev.whlC (S := Nat) (fun i => 3 - i) (fun i => [(7, .float .f64 (stepsT t i)), (43, .int .i64 i)]) (fun i => i ≤ 3) 0 (by rfl) (Nat.zero_le _) ?_
  intro i F hF hi
  try dsimp only at hF hi ⊢
  (simp only [List.cons_append, List.nil_append, ↓fget_cons, fkeep_cons, fkeep_nil, Nat.reduceEqDiff, reduceIte] at hF; subst hF)
  by_cases hlt : i < 3
  · have e4 := stepsT_step t i
    generalize stepsT t i = p at e4 ⊢
    repeat' (first | refine ff ?_ | ((first | refine sR ?_ ?_ | refine sC ?_ ?_) <;> (intro hb; (try rw [hb]); (try simp only [bb] at hb); (try (exfalso; first | omega | exact hb trivial)))) | (apply endS trivial; rotate_left; (· exact eva); (· rfl); try refine ⟨?_, rfl⟩) | fail)
    (apply EvR.aCall hS.at_; (· exact eva); (· exact  hS.ok _ (fbin .add .f64 one64 (fbin .mul .f64 p p))); (rintro _ _ ⟨rfl, rfl⟩; refine EvR.nrm ?_))
    repeat' (first | refine ff ?_ | ((first | refine sR ?_ ?_ | refine sC ?_ ?_) <;> (intro hb; (try rw [hb]); (try simp only [bb] at hb); (try (exfalso; first | omega | exact hb trivial)))) | (apply endS trivial; rotate_left; (· exact eva); (· rfl); try refine ⟨?_, rfl⟩) | fail)
    exact ⟨i + 1, by omega, by rw [e4]; exact tF, rfl, by omega⟩
  · have hi8 : i = 3 := by omega
    subst hi8
    generalize stepsT t 3 = p at ⊢
    repeat' (first | refine ff ?_ | ((first | refine sR ?_ ?_ | refine sC ?_ ?_) <;> (intro hb; (try rw [hb]); (try simp only [bb] at hb); (try (exfalso; first | omega | exact hb trivial)))) | (apply endS trivial; rotate_left; (· exact eva); (· rfl); try refine ⟨?_, rfl⟩) | fail)
    all_goals exact ⟨rfl, by exact tF, rfl⟩
theorem atP_step (u i : Nat) : atP u (i + 1) = fbin .sub .f64 (fbin .quo .f64 one64 (kV (15 - 2 * (i : Int)))) (fbin .mul .f64 u (atP u i)) := rfl
theorem kV_all : ((List.range 8).all fun i => decide (fbin .sub .f64 (kV (15 - 2 * (i : Int))) 4611686018427387904 = kV (15 - 2 * ((i + 1 : Nat) : Int))) && fge .f64 (kV (15 - 2 * (i : Int))) one64) = true := by decide +kernel
theorem kV_end : fge .f64 (kV (15 - 2 * ((8 : Nat) : Int))) one64 = false := by decide +kernel
theorem kV_zero : kV (15 - 2 * ((0 : Nat) : Int)) = 4624633867356078080 := by decide +kernel
theorem kV_ok {i : Nat} (h : i < 8) : fbin .sub .f64 (kV (15 - 2 * (i : Int))) 4611686018427387904 = kV (15 - 2 * ((i + 1 : Nat) : Int)) ∧ fge .f64 (kV (15 - 2 * (i : Int))) one64 = true := by
  have h := List.all_eq_true.1 kV_all i (List.mem_range.2 h)
  simp only [Bool.and_eq_true, decide_eq_true_eq] at h
  exact h
/-- The second loop of the program's angle. -/
theorem ang_loop2 {C : Ctab} (σ : Heap) (y x a b t u : Nat) : Ev C (SCode.loop impl_AngleTurns_l20) [(0, .float .f32 y), (1, .float .f32 x), (5, .float .f64 a), (6, .float .f64 b), (7, .float .f64 t), (8, .float .f64 u), (9, .float .f64 0), (10, .float .f64 4624633867356078080)] (σ ++ []) fun o F' σ' => o = .exit 2 ∧ fkeep [0, 1, 5, 6, 7, 9] F' = [(0, .float .f32 y), (1, .float .f32 x), (5, .float .f64 a), (6, .float .f64 b), (7, .float .f64 t), (9, .float .f64 (atP u 8))] ∧ σ' = σ ++ [] := by
  refine Ev.whlC (S := Nat) (fun i => 8 - i) (fun i => [(9, .float .f64 (atP u i)), (10, .float .f64 (kV (15 - 2 * (i : Int))))]) (fun i => i ≤ 8) 0 (by rw [kV_zero]; rfl) (Nat.zero_le _) ?_
  intro i F hF hi
  try dsimp only at hF hi ⊢
  (simp only [List.cons_append, List.nil_append, ↓fget_cons, fkeep_cons, fkeep_nil, Nat.reduceEqDiff, reduceIte] at hF; subst hF)
  by_cases hlt : i < 8
  · obtain ⟨e1, e2⟩ := kV_ok hlt
    have e4 := atP_step u i
    generalize kV (15 - 2 * (i : Int)) = k at e1 e2 e4 ⊢
    generalize atP u i = p at e4 ⊢
    repeat' (first | refine ff ?_ | ((first | refine sR ?_ ?_ | refine sC ?_ ?_) <;> (intro hb; (try rw [hb]); (try simp only [bb] at hb); (try (exfalso; first | omega | exact hb trivial)))) | (apply endS trivial; rotate_left; (· exact eva); (· rfl); try refine ⟨?_, rfl⟩) | fail)
    · exact ⟨i + 1, by omega, by rw [← e1, e4]; exact tF, rfl, by omega⟩
    all_goals (exact absurd e2 (by rw [‹fge _ _ _ = _›]; decide))
  · have hi8 : i = 8 := by omega
    subst hi8
    have e2 := kV_end
    generalize kV (15 - 2 * ((8 : Nat) : Int)) = k at e2 ⊢
    generalize atP u 8 = p at ⊢
    repeat' (first | refine ff ?_ | ((first | refine sR ?_ ?_ | refine sC ?_ ?_) <;> (intro hb; (try rw [hb]); (try simp only [bb] at hb); (try (exfalso; first | omega | exact hb trivial)))) | (apply endS trivial; rotate_left; (· exact eva); (· rfl); try refine ⟨?_, rfl⟩) | fail)
    · exact absurd hb (by rw [e2]; decide)
    · exact ⟨rfl, by exact tF, rfl⟩
/-- The first loop of the reference's angle. -/
theorem wang_loop1 {C : Ctab} {iS : FuncId} {cS : Contract} (hS : Has C iS cS math_Sqrt_ok) (σ : Heap) (y x t : Nat) (o : Bool) : Ev C (SCode.loop (spec_l01AngleWide_l16 iS)) [(0, .float .f64 y), (1, .float .f64 x), (7, .bool o), (8, .float .f64 t), (9, .int .i64 0)] (σ ++ []) fun o' F' σ' => o' = .exit 0 ∧ fkeep [0, 1, 7, 8] F' = [(0, .float .f64 y), (1, .float .f64 x), (7, .bool o), (8, .float .f64 (stepsT t 3))] ∧ σ' = σ ++ [] := by
  refine Ev.whlC (S := Nat) (fun i => 3 - i) (fun i => [(8, .float .f64 (stepsT t i)), (9, .int .i64 i)]) (fun i => i ≤ 3) 0 (by rfl) (Nat.zero_le _) ?_
  intro i F hF hi
  try dsimp only at hF hi ⊢
  (simp only [List.cons_append, List.nil_append, ↓fget_cons, fkeep_cons, fkeep_nil, Nat.reduceEqDiff, reduceIte] at hF; subst hF)
  by_cases hlt : i < 3
  · have e4 := stepsT_step t i
    generalize stepsT t i = p at e4 ⊢
    repeat' (first | refine ff ?_ | ((first | refine sR ?_ ?_ | refine sC ?_ ?_) <;> (intro hb; (try rw [hb]); (try simp only [bb] at hb); (try (exfalso; first | omega | exact hb trivial)))) | (apply endS trivial; rotate_left; (· exact eva); (· rfl); try refine ⟨?_, rfl⟩) | fail)
    (apply EvR.aCall hS.at_; (· exact eva); (· exact  hS.ok _ (fbin .add .f64 one64 (fbin .mul .f64 p p))); (rintro _ _ ⟨rfl, rfl⟩; refine EvR.nrm ?_))
    repeat' (first | refine ff ?_ | ((first | refine sR ?_ ?_ | refine sC ?_ ?_) <;> (intro hb; (try rw [hb]); (try simp only [bb] at hb); (try (exfalso; first | omega | exact hb trivial)))) | (apply endS trivial; rotate_left; (· exact eva); (· rfl); try refine ⟨?_, rfl⟩) | fail)
    exact ⟨i + 1, by omega, by rw [e4]; exact tF, rfl, by omega⟩
  · have hi8 : i = 3 := by omega
    subst hi8
    generalize stepsT t 3 = p at ⊢
    repeat' (first | refine ff ?_ | ((first | refine sR ?_ ?_ | refine sC ?_ ?_) <;> (intro hb; (try rw [hb]); (try simp only [bb] at hb); (try (exfalso; first | omega | exact hb trivial)))) | (apply endS trivial; rotate_left; (· exact eva); (· rfl); try refine ⟨?_, rfl⟩) | fail)
    all_goals exact ⟨rfl, by exact tF, rfl⟩
/-- The second loop of the reference's angle. -/
theorem wang_loop2 {C : Ctab} (σ : Heap) (y x t u : Nat) (o : Bool) : Ev C (SCode.loop spec_l01AngleWide_l23) [(0, .float .f64 y), (1, .float .f64 x), (7, .bool o), (8, .float .f64 t), (10, .float .f64 u), (11, .float .f64 0), (12, .int .i64 15)] (σ ++ []) fun o' F' σ' => o' = .exit 2 ∧ fkeep [0, 1, 7, 8, 11] F' = [(0, .float .f64 y), (1, .float .f64 x), (7, .bool o), (8, .float .f64 t), (11, .float .f64 (atP u 8))] ∧ σ' = σ ++ [] := by
  refine Ev.whlC (S := Nat) (fun i => 8 - i) (fun i => [(11, .float .f64 (atP u i)), (12, .int .i64 (15 - 2 * (i : Int)))]) (fun i => i ≤ 8) 0 (by rfl) (Nat.zero_le _) ?_
  intro i F hF hi
  try dsimp only at hF hi ⊢
  (simp only [List.cons_append, List.nil_append, ↓fget_cons, fkeep_cons, fkeep_nil, Nat.reduceEqDiff, reduceIte] at hF; subst hF)
  by_cases hlt : i < 8
  · obtain ⟨k, hk⟩ : ∃ k : Int, k = 15 - 2 * (i : Int) := ⟨_, rfl⟩
    have e4 := atP_step u i
    have hk2 : (15 : Int) - 2 * ((i + 1 : Nat) : Int) = k - 2 := by omega
    rw [← hk] at e4 ⊢
    have hk3 : 1 ≤ k ∧ k ≤ 15 := by omega
    unfold kV at e4
    generalize atP u i = p at e4 ⊢
    repeat' (first | refine ff ?_ | ((first | refine sR ?_ ?_ | refine sC ?_ ?_) <;> (intro hb; (try rw [hb]); (try simp only [bb] at hb); (try (exfalso; first | omega | exact hb trivial)))) | (apply endS trivial; rotate_left; (· exact eva); (· rfl); try refine ⟨?_, rfl⟩) | fail)
    exact ⟨i + 1, by omega, by rw [e4, hk2]; exact tF, rfl, by omega⟩
  · have hi8 : i = 8 := by omega
    subst hi8
    generalize atP u 8 = p at ⊢
    repeat' (first | refine ff ?_ | ((first | refine sR ?_ ?_ | refine sC ?_ ?_) <;> (intro hb; (try rw [hb]); (try simp only [bb] at hb); (try (exfalso; first | omega | exact hb trivial)))) | (apply endS trivial; rotate_left; (· exact eva); (· rfl); try refine ⟨?_, rfl⟩) | fail)
    all_goals exact ⟨rfl, by exact tF, rfl⟩
end Go.Abs

