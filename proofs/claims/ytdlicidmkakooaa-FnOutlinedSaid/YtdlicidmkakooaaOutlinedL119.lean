/- Law of a row's function: outlines, delays, ramps, and what a sheet scatters. Conditions: the laws of what it calls. -/
import Derived.Test.YtdlicidmkakooaaOutlinedL118
import Derived.Test.YtdlicidmkakooaaOutlinedL117
import Derived.Test.YtdlicidmkakooaaOutlinedL102
import Derived.Test.YtdlicidmkakooaaOutlinedL05
namespace Go.Abs

set_option linter.unusedSimpArgs false
set_option linter.unusedVariables false
set_option maxHeartbeats 8000000
set_option maxRecDepth 20000
/- loop.example/g01201/laws.FnOutlined -/
def laws_FnOutlined_r0 : List SOper := [
 ⟨some 4, none, .mov (.const (.bool false)), 0⟩]
def laws_FnOutlined_r1 (i_laws_b10Long : FuncId) : List SOper := [
 ⟨some 25, none, .mov (.tmp 0), 0⟩,
 ⟨some 26, none, .mov (.tmp 1), 0⟩,
 ⟨some 27, none, .call (.func i_laws_b10Long) [(.tmp 25), (.tmp 26)], 3⟩]
def laws_FnOutlined_r2 : List SOper := [
 ⟨some 4, none, .mov (.const (.bool true)), 0⟩]
def laws_FnOutlined_r3 (i_spec_B10Plain : FuncId) : List SOper := [
 ⟨some 28, none, .mov (.tmp 0), 0⟩,
 ⟨some 29, none, .call (.func i_spec_B10Plain) [(.tmp 28)], 1⟩,
 ⟨some 5, none, .alloc [(.int .i64 0), (.int .i64 0), (.bool false), (.slice none 0 0), (.slice none 0 0)], 0⟩,
 ⟨none, none, .store 5 (.tmp 5) (.tmp 29), 7⟩]
def laws_FnOutlined_r4 (i_impl_OutlineOf : FuncId) : List SOper := [
 ⟨some 31, none, .loadN 5 (.tmp 5), 0⟩,
 ⟨some 32, none, .call (.func i_impl_OutlineOf) [(.tmp 31)], 1⟩,
 ⟨some 30, none, .mov (.tmp 32), 3⟩,
 ⟨some 33, none, .extract (.tmp 30) 0, 7⟩,
 ⟨some 34, none, .extract (.tmp 30) 1, 7⟩,
 ⟨some 6, none, .mov (.tmp 33), 15⟩,
 ⟨some 7, none, .mov (.tmp 34), 63⟩]
def laws_FnOutlined_r5 (i_laws_b10At : FuncId) : List SOper := [
 ⟨some 35, none, .mov (.tmp 1), 0⟩,
 ⟨some 36, none, .fieldAddr 1 (.tmp 5), 0⟩,
 ⟨some 37, none, .load1 (.tmp 36), 2⟩,
 ⟨some 38, none, .call (.func i_laws_b10At) [(.tmp 35), (.const (.int .i64 0)), (.tmp 37)], 7⟩,
 ⟨some 8, none, .mov (.tmp 38), 15⟩]
def laws_FnOutlined_r6 (i_impl_RowDelay : FuncId) : List SOper := [
 ⟨some 40, none, .loadN 5 (.tmp 5), 0⟩,
 ⟨some 41, none, .mov (.tmp 8), 0⟩,
 ⟨some 42, none, .call (.func i_impl_RowDelay) [(.tmp 40), (.tmp 41)], 3⟩,
 ⟨some 39, none, .mov (.tmp 42), 7⟩,
 ⟨some 43, none, .extract (.tmp 39) 0, 15⟩,
 ⟨some 44, none, .extract (.tmp 39) 1, 15⟩,
 ⟨some 9, none, .mov (.tmp 43), 31⟩,
 ⟨some 10, none, .mov (.tmp 44), 127⟩]
def laws_FnOutlined_r7 (i_laws_b10At i_impl_PaintRamp : FuncId) : List SOper := [
 ⟨some 46, none, .loadN 5 (.tmp 5), 0⟩,
 ⟨some 47, none, .mov (.tmp 1), 0⟩,
 ⟨some 48, none, .call (.func i_laws_b10At) [(.tmp 47), (.const (.int .i64 1)), (.const (.int .i64 9))], 2⟩,
 ⟨some 49, none, .conv (.toFloat .f32) (.tmp 48), 6⟩,
 ⟨some 50, none, .bin .quo .other (.tmp 49) (.const (.float .f32 1098907648)), 14⟩,
 ⟨some 51, none, .mov (.tmp 1), 0⟩,
 ⟨some 52, none, .call (.func i_laws_b10At) [(.tmp 51), (.const (.int .i64 2)), (.const (.int .i64 9))], 38⟩,
 ⟨some 53, none, .conv (.toFloat .f32) (.tmp 52), 102⟩,
 ⟨some 54, none, .bin .quo .other (.tmp 53) (.const (.float .f32 1098907648)), 230⟩,
 ⟨some 55, none, .call (.func i_impl_PaintRamp) [(.tmp 46), (.tmp 50), (.tmp 54)], 511⟩,
 ⟨some 45, none, .mov (.tmp 55), 1023⟩,
 ⟨some 56, none, .extract (.tmp 45) 0, 2047⟩,
 ⟨some 57, none, .extract (.tmp 45) 1, 2047⟩,
 ⟨some 11, none, .alloc [(.int .i64 0), (.int .i64 0), (.bool false), (.slice none 0 0), (.slice none 0 0)], 0⟩,
 ⟨none, none, .store 5 (.tmp 11) (.tmp 56), 12287⟩,
 ⟨some 12, none, .mov (.tmp 57), 32767⟩]
def laws_FnOutlined_r8 (i_spec_B10Field : FuncId) : List SOper := [
 ⟨some 58, none, .mov (.tmp 1), 0⟩,
 ⟨some 59, none, .loadN 5 (.tmp 5), 0⟩,
 ⟨some 60, none, .call (.func i_spec_B10Field) [(.tmp 58), (.tmp 59)], 3⟩,
 ⟨some 13, none, .alloc [(.slice none 0 0), (.slice none 0 0), (.slice none 0 0)], 0⟩,
 ⟨none, none, .store 3 (.tmp 13) (.tmp 60), 15⟩]
def laws_FnOutlined_r9 (i_laws_b10At : FuncId) : List SOper := [
 ⟨some 61, none, .mov (.tmp 1), 0⟩,
 ⟨some 62, none, .call (.func i_laws_b10At) [(.tmp 61), (.const (.int .i64 3)), (.const (.int .i64 4))], 1⟩,
 ⟨some 14, none, .mov (.tmp 62), 3⟩]
def laws_FnOutlined_r10 (i_impl_ScatterField : FuncId) : List SOper := [
 ⟨some 64, none, .loadN 5 (.tmp 5), 0⟩,
 ⟨some 65, none, .loadN 5 (.tmp 5), 0⟩,
 ⟨some 66, none, .loadN 3 (.tmp 13), 0⟩,
 ⟨some 67, none, .mov (.tmp 14), 0⟩,
 ⟨some 68, none, .call (.func i_impl_ScatterField) [(.tmp 64), (.tmp 65), (.tmp 66), (.tmp 67)], 15⟩,
 ⟨some 63, none, .mov (.tmp 68), 31⟩,
 ⟨some 69, none, .extract (.tmp 63) 0, 63⟩,
 ⟨some 70, none, .extract (.tmp 63) 1, 63⟩,
 ⟨some 15, none, .alloc [(.slice none 0 0), (.slice none 0 0), (.slice none 0 0)], 0⟩,
 ⟨none, none, .store 3 (.tmp 15) (.tmp 69), 383⟩,
 ⟨some 16, none, .mov (.tmp 70), 1023⟩]
def laws_FnOutlined_r11 (i_impl_RunField : FuncId) : List SOper := [
 ⟨some 72, none, .loadN 5 (.tmp 5), 0⟩,
 ⟨some 73, none, .loadN 3 (.tmp 13), 0⟩,
 ⟨some 74, none, .mov (.tmp 14), 0⟩,
 ⟨some 75, none, .call (.func i_impl_RunField) [(.tmp 72), (.tmp 73), (.tmp 74)], 7⟩,
 ⟨some 71, none, .mov (.tmp 75), 15⟩,
 ⟨some 76, none, .extract (.tmp 71) 0, 31⟩,
 ⟨some 77, none, .extract (.tmp 71) 1, 31⟩,
 ⟨some 17, none, .alloc [(.slice none 0 0), (.slice none 0 0), (.slice none 0 0)], 0⟩,
 ⟨none, none, .store 3 (.tmp 17) (.tmp 76), 191⟩,
 ⟨some 18, none, .mov (.tmp 77), 511⟩]
def laws_FnOutlined_r12 (i_impl_ValidSheet : FuncId) : List SOper := [
 ⟨some 78, none, .mov (.tmp 7), 0⟩,
 ⟨some 79, none, .un .not (.tmp 78), 1⟩,
 ⟨some 80, none, .mov (.tmp 79), 3⟩,
  ⟨(some 81), (some (80, false)), .mov (.tmp 10), 7⟩,
  ⟨(some 82), (some (80, false)), .un .not (.tmp 81), 15⟩,
 ⟨some 83, none, .pick (.tmp 80) (.const (.bool true)) (.tmp 82), 31⟩,
 ⟨some 84, none, .mov (.tmp 83), 63⟩,
  ⟨(some 85), (some (84, false)), .mov (.tmp 12), 127⟩,
  ⟨(some 86), (some (84, false)), .un .not (.tmp 85), 255⟩,
 ⟨some 87, none, .pick (.tmp 84) (.const (.bool true)) (.tmp 86), 511⟩,
 ⟨some 88, none, .mov (.tmp 87), 1023⟩,
  ⟨(some 89), (some (88, false)), .mov (.tmp 16), 2047⟩,
  ⟨(some 90), (some (88, false)), .un .not (.tmp 89), 4095⟩,
 ⟨some 91, none, .pick (.tmp 88) (.const (.bool true)) (.tmp 90), 8191⟩,
 ⟨some 92, none, .mov (.tmp 91), 16383⟩,
  ⟨(some 93), (some (92, false)), .mov (.tmp 18), 32767⟩,
  ⟨(some 94), (some (92, false)), .un .not (.tmp 93), 65535⟩,
 ⟨some 95, none, .pick (.tmp 92) (.const (.bool true)) (.tmp 94), 131071⟩,
 ⟨some 96, none, .mov (.tmp 95), 262143⟩,
  ⟨(some 97), (some (96, false)), .loadN 5 (.tmp 11), 524287⟩,
  ⟨(some 98), (some (96, false)), .call (.func i_impl_ValidSheet) [(.tmp 97)], 1048575⟩,
  ⟨(some 99), (some (96, false)), .un .not (.tmp 98), 2097151⟩,
 ⟨some 100, none, .pick (.tmp 96) (.const (.bool true)) (.tmp 99), 4194303⟩,
 ⟨some 101, none, .mov (.tmp 100), 8388607⟩,
  ⟨(some 102), (some (101, false)), .fieldAddr 0 (.tmp 15), 16777215⟩,
  ⟨(some 103), (some (101, false)), .load1 (.tmp 102), 33554431⟩,
  ⟨(some 104), (some (101, false)), .len false (.tmp 103), 67108863⟩,
  ⟨(some 105), (some (101, false)), .fieldAddr 0 (.tmp 17), 16777215⟩,
  ⟨(some 106), (some (101, false)), .load1 (.tmp 105), 150994943⟩,
  ⟨(some 107), (some (101, false)), .len false (.tmp 106), 419430399⟩,
  ⟨(some 108), (some (101, false)), .bin .neq .other (.tmp 104) (.tmp 107), 1073741823⟩,
 ⟨some 109, none, .pick (.tmp 101) (.const (.bool true)) (.tmp 108), 2147483647⟩]
def laws_FnOutlined_r13 : List SOper := [
 ⟨some 4, none, .mov (.const (.bool false)), 0⟩]
def laws_FnOutlined_r14 : List SOper := [
 ⟨some 19, none, .mov (.const (.float .f32 0)), 0⟩]
def laws_FnOutlined_r15 : List SOper := [
 ⟨some 20, none, .mov (.const (.int .i64 0)), 0⟩]
def laws_FnOutlined_r16 : List SOper := [
 ⟨some 110, none, .mov (.tmp 20), 0⟩,
 ⟨some 111, none, .fieldAddr 0 (.tmp 5), 0⟩,
 ⟨some 112, none, .load1 (.tmp 111), 2⟩,
 ⟨some 113, none, .bin .lss .other (.tmp 110) (.tmp 112), 7⟩]
def laws_FnOutlined_r17 : List SOper := [
 ⟨some 116, none, .mov (.tmp 19), 0⟩,
 ⟨some 117, none, .fieldAddr 3 (.tmp 5), 0⟩,
 ⟨some 118, none, .load1 (.tmp 117), 2⟩,
 ⟨some 119, none, .mov (.tmp 20), 0⟩,
 ⟨some 120, none, .fieldAddr 0 (.tmp 5), 0⟩,
 ⟨some 121, none, .load1 (.tmp 120), 16⟩,
 ⟨some 122, none, .mov (.tmp 8), 0⟩,
 ⟨some 123, none, .bin .mul .other (.tmp 121) (.tmp 122), 112⟩,
 ⟨some 124, none, .bin .add .other (.tmp 119) (.tmp 123), 248⟩,
 ⟨some 125, none, .indexAddrS 1 (.tmp 118) (.tmp 124), 510⟩,
 ⟨some 126, none, .load1 (.tmp 125), 1022⟩,
 ⟨some 127, none, .bin .quo .other (.const (.float .f32 1065353216)) (.tmp 126), 2046⟩,
 ⟨some 128, none, .bin .add .other (.tmp 116) (.tmp 127), 4095⟩,
 ⟨some 19, none, .mov (.tmp 128), 8191⟩]
def laws_FnOutlined_r18 : List SOper := [
 ⟨some 114, none, .mov (.tmp 20), 0⟩,
 ⟨some 115, none, .bin .add .other (.tmp 114) (.const (.int .i64 1)), 1⟩,
 ⟨some 20, none, .mov (.tmp 115), 3⟩]
def laws_FnOutlined_l19 : SCode := (.kp [1,5,6,8,9,11,15,17,19,20] (.seq (.seq (.region laws_FnOutlined_r16 false) (.kp [1,5,6,8,9,11,15,17,19,20,113] (.cond (.tmp 113) .skip (.exit 0)))) (.kp [1,5,6,8,9,11,15,17,19,20] (.seq (.block 1 (.region laws_FnOutlined_r17 false)) (.kp [1,5,6,8,9,11,15,17,19,20] (.region laws_FnOutlined_r18 false))))))
def laws_FnOutlined_r20 (i_spec_SameNumber i_laws_b10At : FuncId) : List SOper := [
 ⟨some 129, none, .mov (.tmp 19), 0⟩,
 ⟨some 130, none, .mov (.tmp 9), 0⟩,
 ⟨some 131, none, .call (.func i_spec_SameNumber) [(.tmp 129), (.tmp 130)], 3⟩,
 ⟨some 132, none, .un .not (.tmp 131), 7⟩,
 ⟨some 133, none, .mov (.tmp 132), 15⟩,
  ⟨(some 134), (some (133, false)), .fieldAddr 3 (.tmp 11), 31⟩,
  ⟨(some 135), (some (133, false)), .load1 (.tmp 134), 63⟩,
  ⟨(some 136), (some (133, false)), .indexAddrS 1 (.tmp 135) (.const (.int .i64 0)), 127⟩,
  ⟨(some 137), (some (133, false)), .load1 (.tmp 136), 255⟩,
  ⟨(some 138), (some (133, false)), .mov (.tmp 1), 31⟩,
  ⟨(some 139), (some (133, false)), .call (.func i_laws_b10At) [(.tmp 138), (.const (.int .i64 1)), (.const (.int .i64 9))], 543⟩,
  ⟨(some 140), (some (133, false)), .conv (.toFloat .f32) (.tmp 139), 1567⟩,
  ⟨(some 141), (some (133, false)), .bin .quo .other (.tmp 140) (.const (.float .f32 1098907648)), 3615⟩,
  ⟨(some 142), (some (133, false)), .bin .neq .other (.tmp 137) (.tmp 141), 8191⟩,
 ⟨some 143, none, .pick (.tmp 133) (.const (.bool true)) (.tmp 142), 16383⟩,
 ⟨some 144, none, .mov (.tmp 143), 32767⟩,
  ⟨(some 145), (some (144, false)), .fieldAddr 3 (.tmp 11), 65535⟩,
  ⟨(some 146), (some (144, false)), .load1 (.tmp 145), 131071⟩,
  ⟨(some 147), (some (144, false)), .fieldAddr 0 (.tmp 5), 65535⟩,
  ⟨(some 148), (some (144, false)), .load1 (.tmp 147), 327679⟩,
  ⟨(some 149), (some (144, false)), .bin .sub .other (.tmp 148) (.const (.int .i64 1)), 851967⟩,
  ⟨(some 150), (some (144, false)), .indexAddrS 1 (.tmp 146) (.tmp 149), 2097151⟩,
  ⟨(some 151), (some (144, false)), .load1 (.tmp 150), 4194303⟩,
  ⟨(some 152), (some (144, false)), .mov (.tmp 1), 65535⟩,
  ⟨(some 153), (some (144, false)), .call (.func i_laws_b10At) [(.tmp 152), (.const (.int .i64 2)), (.const (.int .i64 9))], 8454143⟩,
  ⟨(some 154), (some (144, false)), .conv (.toFloat .f32) (.tmp 153), 25231359⟩,
  ⟨(some 155), (some (144, false)), .bin .quo .other (.tmp 154) (.const (.float .f32 1098907648)), 58785791⟩,
  ⟨(some 156), (some (144, false)), .bin .neq .other (.tmp 151) (.tmp 155), 134217727⟩,
 ⟨some 157, none, .pick (.tmp 144) (.const (.bool true)) (.tmp 156), 268435455⟩]
def laws_FnOutlined_r21 : List SOper := [
 ⟨some 4, none, .mov (.const (.bool false)), 0⟩]
def laws_FnOutlined_r22 : List SOper := [
 ⟨some 158, none, .fieldAddr 0 (.tmp 17), 0⟩,
 ⟨some 159, none, .load1 (.tmp 158), 1⟩,
 ⟨some 160, none, .len false (.tmp 159), 3⟩,
 ⟨some 161, none, .mov (.const (.int .i64 0)), 0⟩]
def laws_FnOutlined_r23 : List SOper := [
 ⟨some 162, none, .bin .lss .other (.tmp 161) (.tmp 160), 0⟩]
def laws_FnOutlined_r24 : List SOper := [
 ⟨some 163, none, .mov (.tmp 161), 0⟩,
 ⟨some 21, none, .mov (.tmp 163), 1⟩]
def laws_FnOutlined_r25 (i_spec_IsFinite : FuncId) : List SOper := [
 ⟨some 164, none, .fieldAddr 0 (.tmp 17), 0⟩,
 ⟨some 165, none, .load1 (.tmp 164), 1⟩,
 ⟨some 166, none, .mov (.tmp 21), 0⟩,
 ⟨some 167, none, .indexAddrS 1 (.tmp 165) (.tmp 166), 7⟩,
 ⟨some 168, none, .load1 (.tmp 167), 15⟩,
 ⟨some 169, none, .call (.func i_spec_IsFinite) [(.tmp 168)], 31⟩,
 ⟨some 170, none, .mov (.tmp 169), 63⟩,
  ⟨(some 171), (some (170, true)), .fieldAddr 0 (.tmp 15), 127⟩,
  ⟨(some 172), (some (170, true)), .load1 (.tmp 171), 255⟩,
  ⟨(some 173), (some (170, true)), .mov (.tmp 21), 127⟩,
  ⟨(some 174), (some (170, true)), .indexAddrS 1 (.tmp 172) (.tmp 173), 1023⟩,
  ⟨(some 175), (some (170, true)), .load1 (.tmp 174), 2047⟩,
  ⟨(some 176), (some (170, true)), .bin .neq .other (.tmp 175) (.const (.float .f32 0)), 4095⟩,
 ⟨some 177, none, .pick (.tmp 170) (.tmp 176) (.const (.bool false)), 8191⟩]
def laws_FnOutlined_r26 : List SOper := [
 ⟨some 4, none, .mov (.const (.bool false)), 0⟩]
def laws_FnOutlined_r27 : List SOper := [
 ⟨some 178, none, .bin .add .other (.tmp 161) (.const (.int .i64 1)), 0⟩,
 ⟨some 161, none, .mov (.tmp 178), 1⟩]
def laws_FnOutlined_l28 (i_spec_IsFinite : FuncId) : SCode := (.kp [5,6,15,17,160,161] (.seq (.region laws_FnOutlined_r23 false) (.kp [5,6,15,17,160,161,162] (.seq (.cond (.tmp 162) .skip (.exit 2)) (.kp [5,6,15,17,160,161] (.seq (.block 3 (.seq (.region laws_FnOutlined_r24 false) (.kp [5,6,15,17,21,160,161] (.seq (.region (laws_FnOutlined_r25 i_spec_IsFinite) false) (.kp [5,6,15,17,160,161,177] (.cond (.tmp 177) (.seq (.region laws_FnOutlined_r26 false) .ret) .skip)))))) (.kp [5,6,15,17,160,161] (.region laws_FnOutlined_r27 false))))))))
def laws_FnOutlined_r29 : List SOper := [
 ⟨some 22, none, .mov (.const (.bool true)), 0⟩]
def laws_FnOutlined_r30 : List SOper := [
 ⟨some 179, none, .fieldAddr 3 (.tmp 5), 0⟩,
 ⟨some 180, none, .load1 (.tmp 179), 1⟩,
 ⟨some 181, none, .len false (.tmp 180), 3⟩,
 ⟨some 182, none, .mov (.const (.int .i64 0)), 0⟩]
def laws_FnOutlined_r31 : List SOper := [
 ⟨some 183, none, .bin .lss .other (.tmp 182) (.tmp 181), 0⟩]
def laws_FnOutlined_r32 : List SOper := [
 ⟨some 184, none, .mov (.tmp 182), 0⟩,
 ⟨some 23, none, .mov (.tmp 184), 1⟩]
def laws_FnOutlined_r33 : List SOper := [
 ⟨some 185, none, .mov (.tmp 22), 0⟩,
 ⟨some 186, none, .mov (.tmp 185), 1⟩,
  ⟨(some 187), (some (186, true)), .fieldAddr 3 (.tmp 5), 3⟩,
  ⟨(some 188), (some (186, true)), .load1 (.tmp 187), 7⟩,
  ⟨(some 189), (some (186, true)), .mov (.tmp 23), 3⟩,
  ⟨(some 190), (some (186, true)), .indexAddrS 1 (.tmp 188) (.tmp 189), 31⟩,
  ⟨(some 191), (some (186, true)), .load1 (.tmp 190), 63⟩,
  ⟨(some 192), (some (186, true)), .fieldAddr 3 (.tmp 5), 3⟩,
  ⟨(some 193), (some (186, true)), .load1 (.tmp 192), 131⟩,
  ⟨(some 194), (some (186, true)), .indexAddrS 1 (.tmp 193) (.const (.int .i64 0)), 387⟩,
  ⟨(some 195), (some (186, true)), .load1 (.tmp 194), 899⟩,
  ⟨(some 196), (some (186, true)), .bin .eql .other (.tmp 191) (.tmp 195), 2047⟩,
 ⟨some 197, none, .pick (.tmp 186) (.tmp 196) (.const (.bool false)), 4095⟩,
 ⟨some 22, none, .mov (.tmp 197), 8191⟩]
def laws_FnOutlined_r34 : List SOper := [
 ⟨some 198, none, .bin .add .other (.tmp 182) (.const (.int .i64 1)), 0⟩,
 ⟨some 182, none, .mov (.tmp 198), 1⟩]
def laws_FnOutlined_l35 : SCode := (.kp [5,6,22,181,182] (.seq (.region laws_FnOutlined_r31 false) (.kp [5,6,22,181,182,183] (.seq (.cond (.tmp 183) .skip (.exit 4)) (.kp [5,6,22,181,182] (.seq (.block 5 (.seq (.region laws_FnOutlined_r32 false) (.kp [5,6,22,23,181,182] (.region laws_FnOutlined_r33 true)))) (.kp [5,6,22,181,182] (.region laws_FnOutlined_r34 false))))))))
def laws_FnOutlined_r36 : List SOper := [
 ⟨some 199, none, .mov (.tmp 6), 0⟩,
 ⟨some 200, none, .len false (.tmp 199), 1⟩,
 ⟨some 201, none, .mov (.const (.int .i64 0)), 0⟩]
def laws_FnOutlined_r37 : List SOper := [
 ⟨some 202, none, .bin .lss .other (.tmp 201) (.tmp 200), 0⟩]
def laws_FnOutlined_r38 : List SOper := [
 ⟨some 203, none, .mov (.tmp 201), 0⟩,
 ⟨some 24, none, .mov (.tmp 203), 1⟩]
def laws_FnOutlined_r39 : List SOper := [
 ⟨some 204, none, .mov (.tmp 6), 0⟩,
 ⟨some 205, none, .mov (.tmp 24), 0⟩,
 ⟨some 206, none, .indexAddrS 1 (.tmp 204) (.tmp 205), 3⟩,
 ⟨some 207, none, .load1 (.tmp 206), 7⟩,
 ⟨some 208, none, .bin .lss .other (.tmp 207) (.const (.int .i64 0)), 15⟩,
 ⟨some 209, none, .mov (.tmp 208), 31⟩,
  ⟨(some 210), (some (209, false)), .mov (.tmp 6), 63⟩,
  ⟨(some 211), (some (209, false)), .mov (.tmp 24), 63⟩,
  ⟨(some 212), (some (209, false)), .indexAddrS 1 (.tmp 210) (.tmp 211), 255⟩,
  ⟨(some 213), (some (209, false)), .load1 (.tmp 212), 511⟩,
  ⟨(some 214), (some (209, false)), .fieldAddr 3 (.tmp 5), 63⟩,
  ⟨(some 215), (some (209, false)), .load1 (.tmp 214), 1087⟩,
  ⟨(some 216), (some (209, false)), .len false (.tmp 215), 3135⟩,
  ⟨(some 217), (some (209, false)), .bin .geq .other (.tmp 213) (.tmp 216), 8191⟩,
 ⟨some 218, none, .pick (.tmp 209) (.const (.bool true)) (.tmp 217), 16383⟩,
 ⟨some 219, none, .mov (.tmp 218), 32767⟩,
  ⟨(some 220), (some (219, false)), .mov (.tmp 24), 65535⟩,
  ⟨(some 221), (some (219, false)), .bin .gtr .other (.tmp 220) (.const (.int .i64 0)), 131071⟩,
  ⟨(some 222), (some (219, false)), .mov (.tmp 221), 262143⟩,
  ⟨(some 223), (some (222, true)), .mov (.tmp 6), 524287⟩,
  ⟨(some 224), (some (222, true)), .mov (.tmp 24), 524287⟩,
  ⟨(some 225), (some (222, true)), .bin .sub .other (.tmp 224) (.const (.int .i64 1)), 1572863⟩,
  ⟨(some 226), (some (222, true)), .indexAddrS 1 (.tmp 223) (.tmp 225), 4194303⟩,
  ⟨(some 227), (some (222, true)), .load1 (.tmp 226), 8388607⟩,
  ⟨(some 228), (some (222, true)), .mov (.tmp 6), 524287⟩,
  ⟨(some 229), (some (222, true)), .mov (.tmp 24), 524287⟩,
  ⟨(some 230), (some (222, true)), .indexAddrS 1 (.tmp 228) (.tmp 229), 50855935⟩,
  ⟨(some 231), (some (222, true)), .load1 (.tmp 230), 117964799⟩,
  ⟨(some 232), (some (222, true)), .bin .geq .other (.tmp 227) (.tmp 231), 268435455⟩,
  ⟨(some 233), (some (219, false)), .pick (.tmp 222) (.tmp 232) (.const (.bool false)), 536870911⟩,
 ⟨some 234, none, .pick (.tmp 219) (.const (.bool true)) (.tmp 233), 1073741823⟩]
def laws_FnOutlined_r40 : List SOper := [
 ⟨some 4, none, .mov (.const (.bool false)), 0⟩]
def laws_FnOutlined_r41 : List SOper := [
 ⟨some 235, none, .bin .add .other (.tmp 201) (.const (.int .i64 1)), 0⟩,
 ⟨some 201, none, .mov (.tmp 235), 1⟩]
def laws_FnOutlined_l42 : SCode := (.kp [5,6,22,200,201] (.seq (.region laws_FnOutlined_r37 false) (.kp [5,6,22,200,201,202] (.seq (.cond (.tmp 202) .skip (.exit 6)) (.kp [5,6,22,200,201] (.seq (.block 7 (.seq (.region laws_FnOutlined_r38 false) (.kp [5,6,22,24,200,201] (.seq (.region laws_FnOutlined_r39 true) (.kp [5,6,22,200,201,234] (.cond (.tmp 234) (.seq (.region laws_FnOutlined_r40 false) .ret) .skip)))))) (.kp [5,6,22,200,201] (.region laws_FnOutlined_r41 false))))))))
def laws_FnOutlined_r43 : List SOper := [
 ⟨some 236, none, .mov (.tmp 22), 0⟩,
 ⟨some 237, none, .mov (.tmp 6), 0⟩,
 ⟨some 238, none, .len false (.tmp 237), 2⟩,
 ⟨some 239, none, .bin .eql .other (.tmp 238) (.const (.int .i64 0)), 6⟩,
 ⟨some 240, none, .bin .eql .bool (.tmp 236) (.tmp 239), 15⟩,
 ⟨some 4, none, .mov (.tmp 240), 31⟩]
def laws_FnOutlined (i_laws_b10Long i_spec_B10Plain i_impl_OutlineOf i_laws_b10At i_impl_RowDelay i_impl_PaintRamp i_spec_B10Field i_impl_ScatterField i_impl_RunField i_impl_ValidSheet i_spec_SameNumber i_spec_IsFinite : FuncId) : SFunc := ⟨241, [.tmp 4], (.kp [0,1] (.seq (.region laws_FnOutlined_r0 false) (.kp [0,1] (.seq (.seq (.region (laws_FnOutlined_r1 i_laws_b10Long) false) (.kp [0,1,27] (.cond (.tmp 27) (.seq (.region laws_FnOutlined_r2 false) .ret) .skip))) (.kp [0,1] (.seq (.region (laws_FnOutlined_r3 i_spec_B10Plain) false) (.kp [1,5] (.seq (.region (laws_FnOutlined_r4 i_impl_OutlineOf) false) (.kp [1,5,6,7] (.seq (.region (laws_FnOutlined_r5 i_laws_b10At) false) (.kp [1,5,6,7,8] (.seq (.region (laws_FnOutlined_r6 i_impl_RowDelay) false) (.kp [1,5,6,7,8,9,10] (.seq (.region (laws_FnOutlined_r7 i_laws_b10At i_impl_PaintRamp) true) (.kp [1,5,6,7,8,9,10,11,12] (.seq (.region (laws_FnOutlined_r8 i_spec_B10Field) false) (.kp [1,5,6,7,8,9,10,11,12,13] (.seq (.region (laws_FnOutlined_r9 i_laws_b10At) false) (.kp [1,5,6,7,8,9,10,11,12,13,14] (.seq (.region (laws_FnOutlined_r10 i_impl_ScatterField) false) (.kp [1,5,6,7,8,9,10,11,12,13,14,15,16] (.seq (.region (laws_FnOutlined_r11 i_impl_RunField) false) (.kp [1,5,6,7,8,9,10,11,12,15,16,17,18] (.seq (.seq (.region (laws_FnOutlined_r12 i_impl_ValidSheet) false) (.kp [1,5,6,8,9,11,15,17,109] (.cond (.tmp 109) (.seq (.region laws_FnOutlined_r13 false) .ret) .skip))) (.kp [1,5,6,8,9,11,15,17] (.seq (.region laws_FnOutlined_r14 false) (.kp [1,5,6,8,9,11,15,17,19] (.seq (.seq (.region laws_FnOutlined_r15 false) (.kp [1,5,6,8,9,11,15,17,19,20] (.block 0 (.loop laws_FnOutlined_l19)))) (.kp [1,5,6,9,11,15,17,19] (.seq (.seq (.region (laws_FnOutlined_r20 i_spec_SameNumber i_laws_b10At) true) (.kp [5,6,15,17,157] (.cond (.tmp 157) (.seq (.region laws_FnOutlined_r21 false) .ret) .skip))) (.kp [5,6,15,17] (.seq (.seq (.region laws_FnOutlined_r22 false) (.kp [5,6,15,17,160,161] (.block 2 (.loop (laws_FnOutlined_l28 i_spec_IsFinite))))) (.kp [5,6] (.seq (.region laws_FnOutlined_r29 false) (.kp [5,6,22] (.seq (.seq (.region laws_FnOutlined_r30 false) (.kp [5,6,22,181,182] (.block 4 (.loop laws_FnOutlined_l35)))) (.kp [5,6,22] (.seq (.seq (.region laws_FnOutlined_r36 false) (.kp [5,6,22,200,201] (.block 6 (.loop laws_FnOutlined_l42)))) (.kp [6,22] (.seq (.region laws_FnOutlined_r43 false) .ret))))))))))))))))))))))))))))))))))))))))⟩
theorem laws_FnOutlined_r7_dr {i_laws_b10At i_impl_PaintRamp : FuncId} : (drawOkS (laws_FnOutlined_r7 i_laws_b10At i_impl_PaintRamp) && storesOnly (laws_FnOutlined_r7 i_laws_b10At i_impl_PaintRamp)) = true := by kernel_rfl
attribute [push_cast] laws_FnOutlined_r7_dr
theorem laws_FnOutlined_r20_dr {i_spec_SameNumber i_laws_b10At : FuncId} : drawOkW wStat (laws_FnOutlined_r20 i_spec_SameNumber i_laws_b10At) = true := by kernel_rfl
attribute [push_cast] laws_FnOutlined_r20_dr
theorem laws_FnOutlined_r33_dr : drawOkW wStat laws_FnOutlined_r33 = true := by kernel_rfl
attribute [push_cast] laws_FnOutlined_r33_dr
theorem laws_FnOutlined_r39_dr : drawOkW wStat laws_FnOutlined_r39 = true := by kernel_rfl
attribute [push_cast] laws_FnOutlined_r39_dr
theorem Row.prew {A S : Heap} (hp : Pre A S) {e n : Nat} {v : Value} {cs : List Value} (h : Row A e v n cs) : Row S e v n cs := by obtain ⟨X, rfl⟩ := hp; exact h.ext X
theorem delay_lt (sp : List Nat) (off : Nat) : ∀ n, delay sp off n < 4294967296
  | 0 => by simp [delay]
  | n + 1 => fbin_lt _ _ _
def sameB (sp : List Nat) (i : Nat) : Bool := (List.range i).all fun k => feq .f32 (sp.getD k 0) (sp.getD 0 0)
theorem sameB_succ (sp : List Nat) (i : Nat) : sameB sp (i + 1) = (sameB sp i && feq .f32 (sp.getD i 0) (sp.getD 0 0)) := by
  unfold sameB; rw [List.range_succ, List.all_append]; simp
theorem sameB_iff (sp : List Nat) (n : Nat) : sameB sp n = true ↔ ∀ i, i < n → feq .f32 (sp.getD i 0) (sp.getD 0 0) = true := by
  unfold sameB; rw [List.all_eq_true]; simp only [List.mem_range]
theorem outlined_t {C : Ctab} {i1 i2 i3 i4 i5 i6 i7 i8 i9 i10 i11 i12 : FuncId} {c1 c2 c3 c4 c5 c6 c7 c8 c9 c10 c11 c12 : Contract} (h1 : Has C i1 c1 laws_b10Long_ok) (h2 : Has C i2 c2 spec_B10Plain_ok) (h3 : Has C i3 c3 impl_OutlineOf_ok) (h4 : Has C i4 c4 laws_b10At_ok) (h5 : Has C i5 c5 impl_RowDelay_ok) (h6 : Has C i6 c6 impl_PaintRamp_ok) (h7 : Has C i7 c7 spec_B10Field_ok) (h8 : Has C i8 c8 impl_ScatterField_ok) (h9 : Has C i9 c9 impl_RunField_ok) (h10 : Has C i10 c10 impl_ValidSheet_ok) (h11 : Has C i11 c11 spec_SameNumber_ok) (h12 : Has C i12 c12 spec_IsFinite_ok)
    (σ : Heap) (va vb : Value) (code more : List UInt8) (r1 : Row σ 1 va code.length (b8s code)) (r2 : Row σ 1 vb more.length (b8s more)) : Ret (gcC C (laws_FnOutlined i1 i2 i3 i4 i5 i6 i7 i8 i9 i10 i11 i12) true) [va, vb] σ fun v _ => v = .bool true := by
  have k1 := r1.ok
  have k2 := r2.ok
  by_cases hL : code.length ≤ 1048576 ∧ more.length ≤ 1048576
  rotate_left
  · refine ret_gc rfl rfl ?_
    repeat' (first | refine ff ?_ | ((first | refine sR ?_ ?_ | refine sC ?_ ?_) <;> (intro hb; (try rw [hb]); (try simp only [bb] at hb); (try (exfalso; first | omega | exact hb trivial)))) | (apply endS trivial; rotate_left; (· exact eva); (· rfl); try refine ⟨?_, rfl⟩) | fail)
    (apply EvR.aCall h1.at_; (· exact eva); (· exact  h1.ok _ va vb code more (r1.ext _) (r2.ext _)); (rintro _ _ ⟨rfl, rfl⟩; refine EvR.nrm ?_))
    rw [show (decide (1048576 < code.length) || decide (1048576 < more.length)) = true from by simp; omega]
    repeat' (first | refine ff ?_ | ((first | refine sR ?_ ?_ | refine sC ?_ ?_) <;> (intro hb; (try rw [hb]); (try simp only [bb] at hb); (try (exfalso; first | omega | exact hb trivial)))) | (apply endS trivial; rotate_left; (· exact eva); (· rfl); try refine ⟨?_, rfl⟩) | fail)
    all_goals (try rfl)
  obtain ⟨hL1, hL2⟩ := hL
  refine ret_gc rfl rfl ?_
  repeat' (first | refine ff ?_ | ((first | refine sR ?_ ?_ | refine sC ?_ ?_) <;> (intro hb; (try rw [hb]); (try simp only [bb] at hb); (try (exfalso; first | omega | exact hb trivial)))) | (apply endS trivial; rotate_left; (· exact eva); (· rfl); try refine ⟨?_, rfl⟩) | fail)
  (apply EvR.aCall h1.at_; (· exact eva); (· exact  h1.ok _ va vb code more (r1.ext _) (r2.ext _)); (rintro _ _ ⟨rfl, rfl⟩; refine EvR.nrm ?_))
  rw [show (decide (1048576 < code.length) || decide (1048576 < more.length)) = false from by simp; omega]
  repeat' (first | refine ff ?_ | ((first | refine sR ?_ ?_ | refine sC ?_ ?_) <;> (intro hb; (try rw [hb]); (try simp only [bb] at hb); (try (exfalso; first | omega | exact hb trivial)))) | (apply endS trivial; rotate_left; (· exact eva); (· rfl); try refine ⟨?_, rfl⟩) | fail)
  apply EvR.aCall h2.at_; (· exact eva); (· exact h2.ok _ va code (r1.ext _) hL1)
  rintro _ _ ⟨W, H, wr, sp, lo, s1, l1, τ1, hI, isp, ilo, rfl, rfl, o1⟩
  obtain ⟨a1, a2, a3, a4, z1, z2⟩ := isSheet_sides hI
  have hN2 : W * H ≤ 256 := Nat.mul_le_mul (show W ≤ 16 by omega) (show H ≤ 16 by omega)
  have hN3 : 9 ≤ W * H := Nat.mul_le_mul (show 3 ≤ W by omega) (show 3 ≤ H by omega)
  have hWH : (W : Int) * (H : Int) = ((W * H : Nat) : Int) := (Int.natCast_mul _ _).symm
  obtain ⟨N, hN⟩ : ∃ N, W * H = N := ⟨_, rfl⟩
  rw [hN] at hN2 hN3 hWH
  have hWN : W ≤ N := by rw [← hN]; exact Nat.le_mul_of_pos_right _ (by omega)
  have n1 : sp.length = N := by omega
  have n2 : lo.length = N := by omega
  have n3 : sp.length ≤ 1048576 := by omega
  have n4 : lo.length ≤ 1048576 := by omega
  have d2 : Row σ 1 vb more.length (b8s more) := r2
  refine EvR.base2 fun A1 S1 f1 e1 q1 => ?_
  rw [← e1] at o1
  have xx : Pre σ S1 := Pre.trans (by rw [f1]; exact (Pre.refl _).app _) q1
  replace d2 := d2.prew xx
  have D1 : ShR S1 (slV s1 sp.length) (slV l1 lo.length) sp lo := ⟨Row.whole o1.s_ (by omega) (by rw [f32s_length]; omega), Row.whole o1.l_ (by omega) (by rw [f32s_length]; omega)⟩
  clear e1 f1 q1 o1
  have rs := D1.s
  obtain ⟨O, hO⟩ : ∃ O, cellsN (edgeS (diffS sp) wr W H) sp.length = O := ⟨_, rfl⟩
  have hO0 := one_speed (wr := wr) hI isp ilo
  have hO1 : ∀ i, i < O.length → 0 ≤ O.getD i 0 ∧ O.getD i 0 < sp.length := fun i hi => by rw [← hO] at hi ⊢; exact cellsN_mem hi
  have hO2 : ∀ i, 0 < i → i < O.length → O.getD (i - 1) 0 < O.getD i 0 := fun i h0 hi => by rw [← hO] at hi ⊢; exact cellsN_lt h0 hi
  have hOl : O.length ≤ N := by rw [← hO, ← n1]; unfold cellsN; rw [List.length_map]; exact Nat.le_trans (List.length_filter_le _ _) (by rw [List.length_range]; exact Nat.le_refl _)
  rw [hO] at hO0
  refine EvR.nrm ?_
  repeat' (first | refine ff ?_ | ((first | refine sR ?_ ?_ | refine sC ?_ ?_) <;> (intro hb; (try rw [hb]); (try simp only [bb] at hb); (try (exfalso; first | omega | exact hb trivial)))) | (apply endS trivial; rotate_left; (· exact eva); (· rfl); try refine ⟨?_, rfl⟩) | fail)
  (apply EvR.aCall h3.at_; (· exact eva); (· exact  h3.ok _ W H wr _ _ sp lo ⟨D1.s.ext _, D1.l.ext _⟩ n3 n4); (rintro _ _ ⟨rfl, rfl⟩; refine EvR.nrm ?_))
  rw [hI, ciRes_t, ciRows_t, Int.toNat_natCast, Int.toNat_natCast, hO]
  repeat' (first | refine ff ?_ | ((first | refine sR ?_ ?_ | refine sC ?_ ?_) <;> (intro hb; (try rw [hb]); (try simp only [bb] at hb); (try (exfalso; first | omega | exact hb trivial)))) | (apply endS trivial; rotate_left; (· exact eva); (· rfl); try refine ⟨?_, rfl⟩) | fail)
  (apply EvR.aCall h4.at_; (· exact eva); (· exact  h4.ok _ vb more 0 H (d2.ext _) (by omega) (by omega) (by omega) (by omega)); (rintro _ _ ⟨rfl, rfl⟩; refine EvR.nrm ?_))
  obtain ⟨y0, y1⟩ := atB_bd (xs := more) (k := 0) (n := H) (by omega)
  obtain ⟨Y, hY⟩ := Int.eq_ofNat_of_zero_le y0
  rw [hY] at y1 ⊢
  have hdel : rowDelay W H sp lo Y = .tuple #[.float .f32 (delay sp (W * Y) W), .bool true] := by
    unfold rowDelay
    rw [hI, show inR (Y : Int) 0 ((H : Int) - 1) = true from by simp [inR]; omega, ← Int.natCast_mul, Int.toNat_natCast, Int.toNat_natCast]
    rfl
  repeat' (first | refine ff ?_ | ((first | refine sR ?_ ?_ | refine sC ?_ ?_) <;> (intro hb; (try rw [hb]); (try simp only [bb] at hb); (try (exfalso; first | omega | exact hb trivial)))) | (apply endS trivial; rotate_left; (· exact eva); (· rfl); try refine ⟨?_, rfl⟩) | fail)
  (apply EvR.aCall h5.at_; (· exact eva); (· exact  h5.ok _ W H wr _ _ sp lo Y ⟨D1.s.ext _, D1.l.ext _⟩ n3 n4); (rintro _ _ ⟨rfl, rfl⟩; refine EvR.nrm ?_))
  rw [hdel]
  repeat' (first | refine ff ?_ | ((first | refine sR ?_ ?_ | refine sC ?_ ?_) <;> (intro hb; (try rw [hb]); (try simp only [bb] at hb); (try (exfalso; first | omega | exact hb trivial)))) | (apply endS trivial; rotate_left; (· exact eva); (· rfl); try refine ⟨?_, rfl⟩) | fail)
  (apply EvR.aCall h4.at_; (· exact eva); (· exact  h4.ok _ vb more 1 9 (d2.ext _) (by omega) (by omega) (by omega) (by omega)); (rintro _ _ ⟨rfl, rfl⟩; refine EvR.nrm ?_))
  obtain ⟨fa0, fa1⟩ := atB_bd (xs := more) (k := 1) (n := 9) (by omega)
  obtain ⟨fa, hfa⟩ := Int.eq_ofNat_of_zero_le fa0
  rw [hfa] at fa1 ⊢
  repeat' (first | refine ff ?_ | ((first | refine sR ?_ ?_ | refine sC ?_ ?_) <;> (intro hb; (try rw [hb]); (try simp only [bb] at hb); (try (exfalso; first | omega | exact hb trivial)))) | (apply endS trivial; rotate_left; (· exact eva); (· rfl); try refine ⟨?_, rfl⟩) | fail)
  (apply EvR.aCall h4.at_; (· exact eva); (· exact  h4.ok _ vb more 2 9 (d2.ext _) (by omega) (by omega) (by omega) (by omega)); (rintro _ _ ⟨rfl, rfl⟩; refine EvR.nrm ?_))
  obtain ⟨ta0, ta1⟩ := atB_bd (xs := more) (k := 2) (n := 9) (by omega)
  obtain ⟨ta, hta⟩ := Int.eq_ofNat_of_zero_le ta0
  rw [hta] at ta1 ⊢
  have hramp := ramp_sheet (f := fa) (t := ta) hI (by omega) (by omega)
  have hRr : ∀ b, rampRes b W H wr sp lo (spC fa) (spC ta) = .tuple #[shV W H wr (slV b sp.length) (slV (b + 1) lo.length), .bool true] := fun b => by unfold rampRes; rw [if_pos hramp]
  have hRw : rampRows W H sp lo (spC fa) (spC ta) = [rowO (ramps (spC fa) (spC ta) W sp.length), rowO lo] := by unfold rampRows; rw [if_pos hramp, Int.toNat_natCast]
  repeat' (first | refine ff ?_ | ((first | refine sR ?_ ?_ | refine sC ?_ ?_) <;> (intro hb; (try rw [hb]); (try simp only [bb] at hb); (try (exfalso; first | omega | exact hb trivial)))) | (apply endS trivial; rotate_left; (· exact eva); (· rfl); try refine ⟨?_, rfl⟩) | fail)
  (apply EvR.aCall h6.at_; (· exact eva); (· exact  h6.ok _ W H wr _ _ sp lo (spC fa) (spC ta) ⟨D1.s.ext _, D1.l.ext _⟩ n3 n4); (rintro _ _ ⟨rfl, rfl⟩; refine EvR.nrm ?_))
  rw [hRr, hRw]
  obtain ⟨ra0, ra1⟩ := ramp_ends (f := fa) (t := ta) (W := W) (by omega) (by omega) (by omega) (by omega)
  rw [← ramps_get (n := sp.length) (j := W - 1) (by omega) (by omega)] at ra1
  rw [show (0 : Int) = ((0 : Nat) : Int) from rfl, ← ramps_get (n := sp.length) (j := 0) (by omega) (by omega)] at ra0
  have hRs : isSheet W H (ramps (spC fa) (spC ta) W sp.length) lo = true := by
    unfold rampOk at hramp
    simp only [Bool.and_eq_true, Int.toNat_natCast] at hramp
    exact hramp.2
  have hRl : (ramps (spC fa) (spC ta) W sp.length).length = sp.length := ramps_length _ _ _ _
  obtain ⟨RA, hRA⟩ : ∃ RA, ramps (spC fa) (spC ta) W sp.length = RA := ⟨_, rfl⟩
  rw [hRA] at ra0 ra1 hRs hRl ⊢
  clear hRr hRw hramp hRA
  repeat' (first | refine ff ?_ | ((first | refine sR ?_ ?_ | refine sC ?_ ?_) <;> (intro hb; (try rw [hb]); (try simp only [bb] at hb); (try (exfalso; first | omega | exact hb trivial)))) | (apply endS trivial; rotate_left; (· exact eva); (· rfl); try refine ⟨?_, rfl⟩) | fail)
  apply EvR.aCall h7.at_; (· exact eva); (· exact h7.ok _ vb more W H wr _ _ sp lo (d2.ext _) hL2 ⟨D1.s.ext _, D1.l.ext _⟩ hI)
  rintro _ _ ⟨g, e5, x5, y5, τ5, hg, lg, rfl, rfl, hN5⟩
  obtain ⟨_, u1, u2, u3⟩ := isField_len hg
  have hgf : fitF g := ⟨by omega, by omega, by omega⟩
  refine EvR.base2 fun A2 S2 f2 e2 q2 => ?_
  rw [← e2] at hN5
  have w2 : Pre S1 S2 := Pre.trans (by rw [f2]; exact (Pre.refl _).app _) q2
  have p5 : PtAt S2 (S1.length + 0) 0 [.int .i64 W, .int .i64 H, .bool wr, slV s1 sp.length, slV l1 lo.length] := PtAt.pre q2 (by rw [f2]; exact PtAt.own rfl)
  have p11 : PtAt S2 (S1.length + 4) 0 [.int .i64 W, .int .i64 H, .bool wr, slV (S1.length + 2) sp.length, slV (S1.length + 3) lo.length] := PtAt.pre q2 (by rw [f2]; exact PtAt.own rfl)
  have rO : Row S2 1 (slV (S1.length + 1) O.length) O.length (i64s O) := Row.prew q2 (by rw [f2]; exact Row.whole (hget _ _ 1) (by omega) (by rw [i64s_length]; omega))
  have rRA : Row S2 1 (slV (S1.length + 2) sp.length) sp.length (f32s RA) := Row.prew q2 (by rw [f2]; exact Row.whole (hget _ _ 2) (by omega) (by rw [f32s_length]; omega))
  have rlo : Row S2 1 (slV (S1.length + 3) lo.length) lo.length (f32s lo) := Row.prew q2 (by rw [f2]; exact Row.whole (hget _ _ 3) (by omega) (by rw [f32s_length]; omega))
  have rRA' : Row S2 1 (slV (S1.length + 2) sp.length) RA.length (f32s RA) := by rw [hRl]; exact rRA
  replace d2 := d2.prew w2
  replace D1 : ShR S2 (slV s1 sp.length) (slV l1 lo.length) sp lo := ⟨D1.s.prew w2, D1.l.prew w2⟩
  clear rs
  have rs := D1.s
  replace xx := xx.trans w2
  have D5 : FlR S2 (slV e5 g.e.length) (slV x5 g.x.length) (slV y5 g.y.length) g.e g.x g.y := ⟨Row.whole hN5.e_ (by omega) (by rw [f32s_length]; omega), Row.whole hN5.x_ (by omega) (by rw [f32s_length]; omega), Row.whole hN5.y_ (by omega) (by rw [f32s_length]; omega)⟩
  clear e2 f2 q2 hN5 w2
  refine EvR.nrm ?_
  repeat' (first | refine ff ?_ | ((first | refine sR ?_ ?_ | refine sC ?_ ?_) <;> (intro hb; (try rw [hb]); (try simp only [bb] at hb); (try (exfalso; first | omega | exact hb trivial)))) | (apply endS trivial; rotate_left; (· exact eva); (· rfl); try refine ⟨?_, rfl⟩) | fail)
  (apply EvR.aCall h4.at_; (· exact eva); (· exact  h4.ok _ vb more 3 4 (d2.ext _) (by omega) (by omega) (by omega) (by omega)); (rintro _ _ ⟨rfl, rfl⟩; refine EvR.nrm ?_))
  obtain ⟨m0, m1⟩ := atB_bd (xs := more) (k := 3) (n := 4) (by omega)
  obtain ⟨nn, hnn⟩ := Int.eq_ofNat_of_zero_le m0
  rw [hnn] at m1 ⊢
  have hrf : rfOk W H wr sp lo g.e g.x g.y nn = true := by unfold rfOk; rw [hg]; simp [inR]; omega
  obtain ⟨G, hG⟩ : ∃ G, rfF W H wr sp lo g.e g.x g.y nn = G := ⟨_, rfl⟩
  have hGf : isField W H wr sp lo G.e G.x G.y = true := by rw [← hG]; exact runF_field hg _
  have lG : lowF1 G := by rw [← hG]; exact runF_lw lg _
  have hsc := scat_ok (n := nn) hrf lG hGf
  obtain ⟨_, v1, v2, v3⟩ := isField_len hGf
  repeat' (first | refine ff ?_ | ((first | refine sR ?_ ?_ | refine sC ?_ ?_) <;> (intro hb; (try rw [hb]); (try simp only [bb] at hb); (try (exfalso; first | omega | exact hb trivial)))) | (apply endS trivial; rotate_left; (· exact eva); (· rfl); try refine ⟨?_, rfl⟩) | fail)
  (apply EvR.aCall h8.at_; (· exact eva); (· exact  h8.ok _ W H wr _ _ sp lo W H wr _ _ sp lo _ _ _ g.e g.x g.y nn G G hG.symm hG.symm ⟨D1.s.ext _, D1.l.ext _⟩ n3 n4 ⟨D1.s.ext _, D1.l.ext _⟩ n3 n4 (D5.ext _) hgf.1 hgf.2.1 hgf.2.2); (rintro _ _ ⟨rfl, rfl⟩; refine EvR.nrm ?_))
  rw [hsc, flRes_t, flRows_t, scaleL_map, scaleL_map, scaleL_map, addL_map, addL_map, addL_map]
  have hZ0 : ∀ i, i < G.e.length → finB (G.e.getD i 0) = true → feq .f32 ((G.e.map restN).getD i 0) 0 = true := fun i hi h => by rw [getD_map_lt hi]; exact rest_zero (lG.1 i) h
  have hZl : (G.e.map restN).length = G.e.length := List.length_map _
  obtain ⟨Z, hZ⟩ : ∃ Z, G.e.map restN = Z := ⟨_, rfl⟩
  obtain ⟨Zx, hZx⟩ : ∃ Z, G.x.map restN = Z := ⟨_, rfl⟩
  obtain ⟨Zy, hZy⟩ : ∃ Z, G.y.map restN = Z := ⟨_, rfl⟩
  rw [hZ] at hZ0 hZl
  rw [hZ, hZx, hZy]
  repeat' (first | refine ff ?_ | ((first | refine sR ?_ ?_ | refine sC ?_ ?_) <;> (intro hb; (try rw [hb]); (try simp only [bb] at hb); (try (exfalso; first | omega | exact hb trivial)))) | (apply endS trivial; rotate_left; (· exact eva); (· rfl); try refine ⟨?_, rfl⟩) | fail)
  (apply EvR.aCall h9.at_; (· exact eva); (· exact  h9.ok _ W H wr _ _ sp lo _ _ _ g.e g.x g.y nn ⟨D1.s.ext _, D1.l.ext _⟩ n3 n4 (D5.ext _) hgf.1 hgf.2.1 hgf.2.2); (rintro _ _ ⟨rfl, rfl⟩; refine EvR.nrm ?_))
  rw [hrf, flRes_t, flRows_t, hG]
  repeat' (first | refine ff ?_ | ((first | refine sR ?_ ?_ | refine sC ?_ ?_) <;> (intro hb; (try rw [hb]); (try simp only [bb] at hb); (try (exfalso; first | omega | exact hb trivial)))) | (apply endS trivial; rotate_left; (· exact eva); (· rfl); try refine ⟨?_, rfl⟩) | fail)
  (apply EvR.aCall h10.at_; (· exact eva); (· exact  h10.ok _ W H wr _ _ RA lo ⟨rRA'.ext _, rlo.ext _⟩ (by omega) n4); (rintro _ _ ⟨rfl, rfl⟩; refine EvR.nrm ?_))
  rw [hRs]
  repeat' (first | refine ff ?_ | ((first | refine sR ?_ ?_ | refine sC ?_ ?_) <;> (intro hb; (try rw [hb]); (try simp only [bb] at hb); (try (exfalso; first | omega | exact hb trivial)))) | (apply endS trivial; rotate_left; (· exact eva); (· rfl); try refine ⟨?_, rfl⟩) | fail)
  have hYN : W * Y + W ≤ N := by rw [← hN, ← Nat.mul_succ]; exact Nat.mul_le_mul_left _ (by omega)
  have hWY : (W : Int) * (Y : Int) = ((W * Y : Nat) : Int) := (Int.natCast_mul _ _).symm
  obtain ⟨P, hP⟩ : ∃ P, W * Y = P := ⟨_, rfl⟩
  rw [hP] at hYN hWY
  rw [hP]
  refine Ev.whlC (S := Nat) (fun x => W - x) (fun x => [(19, .float .f32 (delay sp P x)), (20, .int .i64 x)]) (fun x => x ≤ W) 0 (by exact tF) (Nat.zero_le _) ?_
  intro x F hF hx
  try dsimp only at hF hx ⊢
  (simp only [List.cons_append, List.nil_append, ↓fget_cons, fkeep_cons, fkeep_nil, Nat.reduceEqDiff, reduceIte] at hF; subst hF)
  by_cases hlt : x < W
  · repeat' (first | refine ff ?_ | ((first | refine sR ?_ ?_ | refine sC ?_ ?_) <;> (intro hb; (try rw [hb]); (try simp only [bb] at hb); (try (exfalso; first | omega | exact hb trivial)))) | (apply endS trivial; rotate_left; (· exact eva); (· rfl); try refine ⟨?_, rfl⟩) | fail)
    have hix : ((x : Int) + (W : Int) * (Y : Int)).toNat = P + x := by rw [hWY]; omega
    rw [hix]
    exact ⟨x + 1, by omega, by exact tF, rfl, by omega⟩
  have hxW : x = W := by omega
  rw [hxW]
  clear hlt hx hxW
  unfold spC at ra0 ra1
  repeat' (first | refine ff ?_ | ((first | refine sR ?_ ?_ | refine sC ?_ ?_) <;> (intro hb; (try rw [hb]); (try simp only [bb] at hb); (try (exfalso; first | omega | exact hb trivial)))) | (apply endS trivial; rotate_left; (· exact eva); (· rfl); try refine ⟨?_, rfl⟩) | fail)
  (apply EvR.aCall h11.at_; (· exact eva); (· exact  h11.ok _ (delay sp P W) (delay sp P W) (delay_lt _ _ _) (delay_lt _ _ _)); (rintro _ _ ⟨rfl, rfl⟩; refine EvR.nrm ?_))
  repeat' (first | refine ff ?_ | ((first | refine sR ?_ ?_ | refine sC ?_ ?_) <;> (intro hb; (try rw [hb]); (try simp only [bb] at hb); (try (exfalso; first | omega | exact hb trivial)))) | (apply endS trivial; rotate_left; (· exact eva); (· rfl); try refine ⟨?_, rfl⟩) | fail)
  (apply EvR.aCall h4.at_; (· exact eva); (· exact  h4.ok _ vb more 1 9 (d2.ext _) (by omega) (by omega) (by omega) (by omega)); (rintro _ _ ⟨rfl, rfl⟩; refine EvR.nrm ?_))
  rw [hfa]
  repeat' (first | refine ff ?_ | ((first | refine sR ?_ ?_ | refine sC ?_ ?_) <;> (intro hb; (try rw [hb]); (try simp only [bb] at hb); (try (exfalso; first | omega | exact hb trivial)))) | (apply endS trivial; rotate_left; (· exact eva); (· rfl); try refine ⟨?_, rfl⟩) | fail)
  · exact absurd ra0 (by rw [hb]; decide)
  have hw1 : ((W : Int) - 1).toNat = W - 1 := by omega
  rw [hw1]
  (apply EvR.aCall h4.at_; (· exact eva); (· exact  h4.ok _ vb more 2 9 (d2.ext _) (by omega) (by omega) (by omega) (by omega)); (rintro _ _ ⟨rfl, rfl⟩; refine EvR.nrm ?_))
  rw [hta]
  repeat' (first | refine ff ?_ | ((first | refine sR ?_ ?_ | refine sC ?_ ?_) <;> (intro hb; (try rw [hb]); (try simp only [bb] at hb); (try (exfalso; first | omega | exact hb trivial)))) | (apply endS trivial; rotate_left; (· exact eva); (· rfl); try refine ⟨?_, rfl⟩) | fail)
  · exact absurd ra1 (by rw [hb]; decide)
  clear ra0 ra1 hw1
  refine Ev.whlC (S := Nat) (fun i => G.e.length - i) (fun i => [(161, .int .i64 i)]) (fun i => i ≤ G.e.length) 0 (by exact tF) (Nat.zero_le _) ?_
  intro i F hF hi
  try dsimp only at hF hi ⊢
  (simp only [List.cons_append, List.nil_append, ↓fget_cons, fkeep_cons, fkeep_nil, Nat.reduceEqDiff, reduceIte] at hF; subst hF)
  by_cases hlt : i < G.e.length
  · repeat' (first | refine ff ?_ | ((first | refine sR ?_ ?_ | refine sC ?_ ?_) <;> (intro hb; (try rw [hb]); (try simp only [bb] at hb); (try (exfalso; first | omega | exact hb trivial)))) | (apply endS trivial; rotate_left; (· exact eva); (· rfl); try refine ⟨?_, rfl⟩) | fail)
    (apply EvR.aCall h12.at_; (· exact eva); (· exact  h12.ok _ (G.e.getD i 0)); (rintro _ _ ⟨rfl, rfl⟩; refine EvR.nrm ?_))
    repeat' (first | refine ff ?_ | ((first | refine sR ?_ ?_ | refine sC ?_ ?_) <;> (intro hb; (try rw [hb]); (try simp only [bb] at hb); (try (exfalso; first | omega | exact hb trivial)))) | (apply endS trivial; rotate_left; (· exact eva); (· rfl); try refine ⟨?_, rfl⟩) | fail)
    · exact absurd (hZ0 i hlt (by assumption)) (by rw [hb]; decide)
    all_goals exact ⟨i + 1, by omega, by exact tF, rfl, by omega⟩
  have hxW : i = G.e.length := by omega
  rw [hxW]
  clear hlt hi hxW
  repeat' (first | refine ff ?_ | ((first | refine sR ?_ ?_ | refine sC ?_ ?_) <;> (intro hb; (try rw [hb]); (try simp only [bb] at hb); (try (exfalso; first | omega | exact hb trivial)))) | (apply endS trivial; rotate_left; (· exact eva); (· rfl); try refine ⟨?_, rfl⟩) | fail)
  refine Ev.whlC (S := Nat) (fun i => sp.length - i) (fun i => [(22, .bool (sameB sp i)), (182, .int .i64 i)]) (fun i => i ≤ sp.length) 0 (by exact tF) (Nat.zero_le _) ?_
  intro j F hF hj
  try dsimp only at hF hj ⊢
  (simp only [List.cons_append, List.nil_append, ↓fget_cons, fkeep_cons, fkeep_nil, Nat.reduceEqDiff, reduceIte] at hF; subst hF)
  by_cases hlt : j < sp.length
  · have hst := sameB_succ sp j
    cases hb3 : sameB sp j
    · rw [hb3, Bool.false_and] at hst
      repeat' (first | refine ff ?_ | ((first | refine sR ?_ ?_ | refine sC ?_ ?_) <;> (intro hb; (try rw [hb]); (try simp only [bb] at hb); (try (exfalso; first | omega | exact hb trivial)))) | (apply endS trivial; rotate_left; (· exact eva); (· rfl); try refine ⟨?_, rfl⟩) | fail)
      all_goals exact ⟨j + 1, by omega, by rw [hst]; exact tF, rfl, by omega⟩
    · rw [hb3, Bool.true_and] at hst
      repeat' (first | refine ff ?_ | ((first | refine sR ?_ ?_ | refine sC ?_ ?_) <;> (intro hb; (try rw [hb]); (try simp only [bb] at hb); (try (exfalso; first | omega | exact hb trivial)))) | (apply endS trivial; rotate_left; (· exact eva); (· rfl); try refine ⟨?_, rfl⟩) | fail)
      all_goals exact ⟨j + 1, by omega, by rw [hst]; exact tF, rfl, by omega⟩
  have hxW : j = sp.length := by omega
  rw [hxW]
  clear hlt hj hxW
  have hsame : sameB sp sp.length = decide (O.length = 0) := by
    rw [Bool.eq_iff_iff, decide_eq_true_eq, hO0, sameB_iff]
  rw [hsame]
  repeat' (first | refine ff ?_ | ((first | refine sR ?_ ?_ | refine sC ?_ ?_) <;> (intro hb; (try rw [hb]); (try simp only [bb] at hb); (try (exfalso; first | omega | exact hb trivial)))) | (apply endS trivial; rotate_left; (· exact eva); (· rfl); try refine ⟨?_, rfl⟩) | fail)
  refine Ev.whlC (S := Nat) (fun i => O.length - i) (fun i => [(201, .int .i64 i)]) (fun i => i ≤ O.length) 0 (by exact tF) (Nat.zero_le _) ?_
  intro k F hF hk
  try dsimp only at hF hk ⊢
  (simp only [List.cons_append, List.nil_append, ↓fget_cons, fkeep_cons, fkeep_nil, Nat.reduceEqDiff, reduceIte] at hF; subst hF)
  by_cases hlt : k < O.length
  · obtain ⟨t1, t2⟩ := hO1 k hlt
    rcases Nat.eq_zero_or_pos k with rfl | hk0
    · repeat' (first | refine ff ?_ | ((first | refine sR ?_ ?_ | refine sC ?_ ?_) <;> (intro hb; (try rw [hb]); (try simp only [bb] at hb); (try (exfalso; first | omega | exact hb trivial)))) | (apply endS trivial; rotate_left; (· exact eva); (· rfl); try refine ⟨?_, rfl⟩) | fail)
      all_goals exact ⟨0 + 1, by omega, by exact tF, rfl, by omega⟩
    · have t3 : O.getD ((k : Int) - 1).toNat 0 < O.getD k 0 := by rw [show ((k : Int) - 1).toNat = k - 1 from by omega]; exact hO2 k hk0 hlt
      repeat' (first | refine ff ?_ | ((first | refine sR ?_ ?_ | refine sC ?_ ?_) <;> (intro hb; (try rw [hb]); (try simp only [bb] at hb); (try (exfalso; first | omega | exact hb trivial)))) | (apply endS trivial; rotate_left; (· exact eva); (· rfl); try refine ⟨?_, rfl⟩) | fail)
      all_goals exact ⟨k + 1, by omega, by exact tF, rfl, by omega⟩
  have hxW : k = O.length := by omega
  rw [hxW]
  clear hlt hk hxW
  by_cases hz : O.length = 0
  · rw [decide_eq_true hz]
    repeat' (first | refine ff ?_ | ((first | refine sR ?_ ?_ | refine sC ?_ ?_) <;> (intro hb; (try rw [hb]); (try simp only [bb] at hb); (try (exfalso; first | omega | exact hb trivial)))) | (apply endS trivial; rotate_left; (· exact eva); (· rfl); try refine ⟨?_, rfl⟩) | fail)
    rw [show decide ((O.length : Int) = 0) = true from decide_eq_true (by omega)]
    apply endKK xx
    · trivial
    · rfl
    · exact eva
    · rfl
  · rw [decide_eq_false hz]
    repeat' (first | refine ff ?_ | ((first | refine sR ?_ ?_ | refine sC ?_ ?_) <;> (intro hb; (try rw [hb]); (try simp only [bb] at hb); (try (exfalso; first | omega | exact hb trivial)))) | (apply endS trivial; rotate_left; (· exact eva); (· rfl); try refine ⟨?_, rfl⟩) | fail)
    rw [show decide ((O.length : Int) = 0) = false from decide_eq_false (by omega)]
    apply endKK xx
    · trivial
    · rfl
    · exact eva
    · rfl
def laws_FnOutlined_ok (c : Contract) : Prop := AlwaysTrue [bytesK, bytesK] c
theorem laws_FnOutlined_law {C : Ctab} {i1 i2 i3 i4 i5 i6 i7 i8 i9 i10 i11 i12 : FuncId} {c1 c2 c3 c4 c5 c6 c7 c8 c9 c10 c11 c12 : Contract} (h1 : Has C i1 c1 laws_b10Long_ok) (h2 : Has C i2 c2 spec_B10Plain_ok) (h3 : Has C i3 c3 impl_OutlineOf_ok) (h4 : Has C i4 c4 laws_b10At_ok) (h5 : Has C i5 c5 impl_RowDelay_ok) (h6 : Has C i6 c6 impl_PaintRamp_ok) (h7 : Has C i7 c7 spec_B10Field_ok) (h8 : Has C i8 c8 impl_ScatterField_ok) (h9 : Has C i9 c9 impl_RunField_ok) (h10 : Has C i10 c10 impl_ValidSheet_ok) (h11 : Has C i11 c11 spec_SameNumber_ok) (h12 : Has C i12 c12 spec_IsFinite_ok) :
    laws_FnOutlined_ok (gcC C (laws_FnOutlined i1 i2 i3 i4 i5 i6 i7 i8 i9 i10 i11 i12) true) := by
  intro σ avs hh
  match avs, hh with
  | [va, vb], ⟨g0, g1, _⟩ =>
    obtain ⟨code, r1, hb1⟩ := bytes_abs g0
    obtain ⟨more, r2, hb2⟩ := bytes_abs g1
    exact outlined_t h1 h2 h3 h4 h5 h6 h7 h8 h9 h10 h11 h12 σ va vb code more r1 r2
-- rfF rfOk scat_ok runF_field runF_lw rest_zero isField_len ldP ldP3 rowDelay rampRes rampRows ramp_sheet rampE_ok FlR EvR.ldP endKK step flRes_t flRows_t fitF sameL decide inR EvR.ld33 film_fit PtAt.pre bitsC flRes stepF_len runF_len lenF i64s_length
end Go.Abs

