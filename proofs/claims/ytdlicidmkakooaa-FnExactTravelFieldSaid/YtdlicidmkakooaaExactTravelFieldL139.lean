/- Laws of functions: the field of a wave that travels, by the reference. Conditions: the laws of what it calls. -/
import Derived.Test.YtdlicidmkakooaaExactTravelFieldL138
import Derived.Test.YtdlicidmkakooaaExactTravelFieldL78
import Derived.Test.YtdlicidmkakooaaExactTravelFieldL05
import Derived.Test.YtdlicidmkakooaaExactTravelFieldL27
namespace Go.Abs

set_option linter.unusedSimpArgs false
set_option linter.unusedVariables false
set_option maxHeartbeats 8000000
set_option maxRecDepth 100000
/- loop.example/g01201/spec.TravelField -/
def spec_TravelField_r0 : List SOper := [
 ⟨some 5, none, .box (.tmp 0), 0⟩,
 ⟨some 10, none, .alloc [(.slice none 0 0), (.slice none 0 0), (.slice none 0 0)], 0⟩,
 ⟨some 11, none, .mov (.const (.bool false)), 0⟩]
def spec_TravelField_r1 (i_spec_l02Is i_spec_l08Plain i_spec_l08Travels i_spec_l01Finite : FuncId) : List SOper := [
 ⟨some 26, none, .call (.func i_spec_l02Is) [(.tmp 5)], 0⟩,
 ⟨some 27, none, .un .not (.tmp 26), 1⟩,
 ⟨some 28, none, .mov (.tmp 27), 3⟩,
  ⟨(some 29), (some (28, false)), .fieldAddr 2 (.tmp 5), 7⟩,
  ⟨(some 30), (some (28, false)), .load1 (.tmp 29), 15⟩,
  ⟨(some 31), (some (28, false)), .un .not (.tmp 30), 31⟩,
 ⟨some 32, none, .pick (.tmp 28) (.const (.bool true)) (.tmp 31), 63⟩,
 ⟨some 33, none, .mov (.tmp 32), 127⟩,
  ⟨(some 34), (some (33, false)), .call (.func i_spec_l08Plain) [(.tmp 5)], 255⟩,
  ⟨(some 35), (some (33, false)), .un .not (.tmp 34), 511⟩,
 ⟨some 36, none, .pick (.tmp 33) (.const (.bool true)) (.tmp 35), 1023⟩,
 ⟨some 37, none, .mov (.tmp 36), 2047⟩,
  ⟨(some 38), (some (37, false)), .mov (.tmp 1), 4095⟩,
  ⟨(some 39), (some (37, false)), .mov (.tmp 2), 4095⟩,
  ⟨(some 40), (some (37, false)), .call (.func i_spec_l08Travels) [(.tmp 38), (.tmp 39)], 16383⟩,
  ⟨(some 41), (some (37, false)), .un .not (.tmp 40), 32767⟩,
 ⟨some 42, none, .pick (.tmp 37) (.const (.bool true)) (.tmp 41), 65535⟩,
 ⟨some 43, none, .mov (.tmp 42), 131071⟩,
  ⟨(some 44), (some (43, false)), .mov (.tmp 3), 262143⟩,
  ⟨(some 45), (some (43, false)), .call (.func i_spec_l01Finite) [(.tmp 44)], 524287⟩,
  ⟨(some 46), (some (43, false)), .un .not (.tmp 45), 1048575⟩,
 ⟨some 47, none, .pick (.tmp 43) (.const (.bool true)) (.tmp 46), 2097151⟩,
 ⟨some 48, none, .mov (.tmp 47), 4194303⟩,
  ⟨(some 49), (some (48, false)), .mov (.tmp 4), 8388607⟩,
  ⟨(some 50), (some (48, false)), .call (.func i_spec_l01Finite) [(.tmp 49)], 16777215⟩,
  ⟨(some 51), (some (48, false)), .un .not (.tmp 50), 33554431⟩,
 ⟨some 52, none, .pick (.tmp 48) (.const (.bool true)) (.tmp 51), 67108863⟩]
def spec_TravelField_r2 : List SOper := [
 ⟨some 53, none, .build [(.slice none 0 0), (.slice none 0 0), (.slice none 0 0)] [], 0⟩,
 ⟨none, none, .store 3 (.tmp 10) (.tmp 53), 1⟩,
 ⟨some 11, none, .mov (.const (.bool false)), 3⟩]
def spec_TravelField_r3 : List SOper := [
 ⟨some 54, none, .mov (.tmp 1), 0⟩,
 ⟨some 55, none, .conv (.toFloat .f32) (.tmp 54), 1⟩,
 ⟨some 56, none, .fieldAddr 0 (.tmp 5), 0⟩,
 ⟨some 57, none, .load1 (.tmp 56), 4⟩,
 ⟨some 58, none, .conv (.toFloat .f32) (.tmp 57), 12⟩,
 ⟨some 59, none, .bin .quo .other (.tmp 55) (.tmp 58), 31⟩,
 ⟨some 12, none, .mov (.tmp 59), 63⟩]
def spec_TravelField_r4 : List SOper := [
 ⟨some 60, none, .mov (.tmp 2), 0⟩,
 ⟨some 61, none, .conv (.toFloat .f32) (.tmp 60), 1⟩,
 ⟨some 62, none, .fieldAddr 1 (.tmp 5), 0⟩,
 ⟨some 63, none, .load1 (.tmp 62), 4⟩,
 ⟨some 64, none, .conv (.toFloat .f32) (.tmp 63), 12⟩,
 ⟨some 65, none, .bin .quo .other (.tmp 61) (.tmp 64), 31⟩,
 ⟨some 13, none, .mov (.tmp 65), 63⟩]
def spec_TravelField_r5 (i_spec_l08Travel : FuncId) : List SOper := [
 ⟨some 66, none, .fieldAddr 0 (.tmp 5), 0⟩,
 ⟨some 67, none, .load1 (.tmp 66), 1⟩,
 ⟨some 68, none, .fieldAddr 1 (.tmp 5), 0⟩,
 ⟨some 69, none, .load1 (.tmp 68), 4⟩,
 ⟨some 70, none, .mov (.tmp 1), 0⟩,
 ⟨some 71, none, .mov (.tmp 2), 0⟩,
 ⟨some 72, none, .fieldAddr 3 (.tmp 5), 0⟩,
 ⟨some 73, none, .load1 (.tmp 72), 64⟩,
 ⟨some 74, none, .indexAddrS 1 (.tmp 73) (.const (.int .i64 0)), 192⟩,
 ⟨some 75, none, .load1 (.tmp 74), 448⟩,
 ⟨some 76, none, .call (.func i_spec_l08Travel) [(.tmp 67), (.tmp 69), (.tmp 70), (.tmp 71), (.tmp 75)], 1023⟩,
 ⟨some 14, none, .mov (.tmp 76), 2047⟩]
def spec_TravelField_r6 : List SOper := [
 ⟨some 77, none, .mov (.tmp 14), 0⟩,
 ⟨some 78, none, .bin .mul .other (.tmp 77) (.const (.float .f32 1056964608)), 1⟩,
 ⟨some 15, none, .mov (.tmp 78), 3⟩]
def spec_TravelField_r7 (i_spec_l01Sine : FuncId) : List SOper := [
 ⟨some 79, none, .mov (.tmp 15), 0⟩,
 ⟨some 80, none, .call (.func i_spec_l01Sine) [(.tmp 79)], 1⟩,
 ⟨some 16, none, .mov (.tmp 80), 3⟩]
def spec_TravelField_r8 : List SOper := [
 ⟨some 81, none, .mov (.tmp 16), 0⟩,
 ⟨some 82, none, .bin .eql .other (.tmp 81) (.const (.float .f32 0)), 1⟩]
def spec_TravelField_r9 : List SOper := [
 ⟨some 83, none, .build [(.slice none 0 0), (.slice none 0 0), (.slice none 0 0)] [], 0⟩,
 ⟨none, none, .store 3 (.tmp 10) (.tmp 83), 1⟩,
 ⟨some 11, none, .mov (.const (.bool false)), 3⟩]
def spec_TravelField_r10 (i_spec_l01Sine : FuncId) : List SOper := [
 ⟨some 84, none, .mov (.tmp 3), 0⟩,
 ⟨some 85, none, .mov (.tmp 13), 0⟩,
 ⟨some 86, none, .bin .mul .other (.tmp 85) (.const (.float .f32 1056964608)), 2⟩,
 ⟨some 87, none, .call (.func i_spec_l01Sine) [(.tmp 86)], 6⟩,
 ⟨some 88, none, .bin .mul .other (.tmp 84) (.tmp 87), 15⟩,
 ⟨some 89, none, .mov (.tmp 16), 0⟩,
 ⟨some 90, none, .bin .mul .other (.const (.float .f32 1073741824)) (.tmp 89), 32⟩,
 ⟨some 91, none, .bin .quo .other (.tmp 88) (.tmp 90), 127⟩,
 ⟨some 17, none, .mov (.tmp 91), 255⟩]
def spec_TravelField_r11 (i_spec_l01Sine : FuncId) : List SOper := [
 ⟨some 92, none, .mov (.tmp 3), 0⟩,
 ⟨some 93, none, .mov (.tmp 12), 0⟩,
 ⟨some 94, none, .bin .mul .other (.tmp 93) (.const (.float .f32 1056964608)), 2⟩,
 ⟨some 95, none, .call (.func i_spec_l01Sine) [(.tmp 94)], 6⟩,
 ⟨some 96, none, .bin .mul .other (.tmp 92) (.tmp 95), 15⟩,
 ⟨some 97, none, .mov (.tmp 16), 0⟩,
 ⟨some 98, none, .bin .mul .other (.const (.float .f32 1073741824)) (.tmp 97), 32⟩,
 ⟨some 99, none, .bin .quo .other (.tmp 96) (.tmp 98), 127⟩,
 ⟨some 18, none, .mov (.tmp 99), 255⟩]
def spec_TravelField_r12 (i_spec_l02Zero : FuncId) : List SOper := [
 ⟨some 100, none, .fieldAddr 0 (.tmp 5), 0⟩,
 ⟨some 101, none, .load1 (.tmp 100), 1⟩,
 ⟨some 102, none, .fieldAddr 1 (.tmp 5), 0⟩,
 ⟨some 103, none, .load1 (.tmp 102), 4⟩,
 ⟨some 104, none, .bin .mul .other (.tmp 101) (.tmp 103), 15⟩,
 ⟨some 105, none, .call (.func i_spec_l02Zero) [(.tmp 104)], 31⟩,
 ⟨some 19, none, .alloc [(.slice none 0 0), (.slice none 0 0), (.slice none 0 0)], 0⟩,
 ⟨none, none, .store 3 (.tmp 19) (.tmp 105), 127⟩]
def spec_TravelField_r13 : List SOper := [
 ⟨some 20, none, .mov (.const (.int .i64 0)), 0⟩]
def spec_TravelField_r14 : List SOper := [
 ⟨some 106, none, .mov (.tmp 20), 0⟩,
 ⟨some 107, none, .fieldAddr 1 (.tmp 5), 0⟩,
 ⟨some 108, none, .load1 (.tmp 107), 2⟩,
 ⟨some 109, none, .bin .lss .other (.tmp 106) (.tmp 108), 7⟩]
def spec_TravelField_r15 : List SOper := [
 ⟨some 21, none, .mov (.const (.int .i64 0)), 0⟩]
def spec_TravelField_r16 : List SOper := [
 ⟨some 112, none, .mov (.tmp 21), 0⟩,
 ⟨some 113, none, .fieldAddr 0 (.tmp 5), 0⟩,
 ⟨some 114, none, .load1 (.tmp 113), 2⟩,
 ⟨some 115, none, .bin .lss .other (.tmp 112) (.tmp 114), 7⟩]
def spec_TravelField_r17 : List SOper := [
 ⟨some 118, none, .mov (.tmp 21), 0⟩,
 ⟨some 119, none, .fieldAddr 0 (.tmp 5), 0⟩,
 ⟨some 120, none, .load1 (.tmp 119), 2⟩,
 ⟨some 121, none, .mov (.tmp 20), 0⟩,
 ⟨some 122, none, .bin .mul .other (.tmp 120) (.tmp 121), 14⟩,
 ⟨some 123, none, .bin .add .other (.tmp 118) (.tmp 122), 31⟩,
 ⟨some 22, none, .mov (.tmp 123), 63⟩]
def spec_TravelField_r18 : List SOper := [
 ⟨some 124, none, .mov (.tmp 12), 0⟩,
 ⟨some 125, none, .mov (.tmp 21), 0⟩,
 ⟨some 126, none, .conv (.toFloat .f32) (.tmp 125), 2⟩,
 ⟨some 127, none, .bin .mul .other (.tmp 124) (.tmp 126), 7⟩,
 ⟨some 128, none, .mov (.tmp 13), 0⟩,
 ⟨some 129, none, .mov (.tmp 20), 0⟩,
 ⟨some 130, none, .conv (.toFloat .f32) (.tmp 129), 32⟩,
 ⟨some 131, none, .bin .mul .other (.tmp 128) (.tmp 130), 112⟩,
 ⟨some 132, none, .bin .add .other (.tmp 127) (.tmp 131), 255⟩,
 ⟨some 133, none, .mov (.tmp 4), 0⟩,
 ⟨some 134, none, .bin .add .other (.tmp 132) (.tmp 133), 1023⟩,
 ⟨some 23, none, .mov (.tmp 134), 2047⟩]
def spec_TravelField_r19 : List SOper := [
 ⟨some 135, none, .mov (.tmp 12), 0⟩,
 ⟨some 136, none, .mov (.tmp 21), 0⟩,
 ⟨some 137, none, .conv (.toFloat .f32) (.tmp 136), 2⟩,
 ⟨some 138, none, .bin .mul .other (.tmp 135) (.tmp 137), 7⟩,
 ⟨some 139, none, .mov (.tmp 13), 0⟩,
 ⟨some 140, none, .mov (.tmp 20), 0⟩,
 ⟨some 141, none, .conv (.toFloat .f32) (.tmp 140), 32⟩,
 ⟨some 142, none, .bin .add .other (.tmp 141) (.const (.float .f32 1056964608)), 96⟩,
 ⟨some 143, none, .bin .mul .other (.tmp 139) (.tmp 142), 240⟩,
 ⟨some 144, none, .bin .add .other (.tmp 138) (.tmp 143), 511⟩,
 ⟨some 145, none, .mov (.tmp 4), 0⟩,
 ⟨some 146, none, .bin .add .other (.tmp 144) (.tmp 145), 2047⟩,
 ⟨some 147, none, .mov (.tmp 15), 0⟩,
 ⟨some 148, none, .bin .add .other (.tmp 146) (.tmp 147), 8191⟩,
 ⟨some 24, none, .mov (.tmp 148), 16383⟩]
def spec_TravelField_r20 : List SOper := [
 ⟨some 149, none, .mov (.tmp 12), 0⟩,
 ⟨some 150, none, .mov (.tmp 21), 0⟩,
 ⟨some 151, none, .conv (.toFloat .f32) (.tmp 150), 2⟩,
 ⟨some 152, none, .bin .add .other (.tmp 151) (.const (.float .f32 1056964608)), 6⟩,
 ⟨some 153, none, .bin .mul .other (.tmp 149) (.tmp 152), 15⟩,
 ⟨some 154, none, .mov (.tmp 13), 0⟩,
 ⟨some 155, none, .mov (.tmp 20), 0⟩,
 ⟨some 156, none, .conv (.toFloat .f32) (.tmp 155), 64⟩,
 ⟨some 157, none, .bin .mul .other (.tmp 154) (.tmp 156), 224⟩,
 ⟨some 158, none, .bin .add .other (.tmp 153) (.tmp 157), 511⟩,
 ⟨some 159, none, .mov (.tmp 4), 0⟩,
 ⟨some 160, none, .bin .add .other (.tmp 158) (.tmp 159), 2047⟩,
 ⟨some 161, none, .mov (.tmp 15), 0⟩,
 ⟨some 162, none, .bin .add .other (.tmp 160) (.tmp 161), 8191⟩,
 ⟨some 25, none, .mov (.tmp 162), 16383⟩]
def spec_TravelField_r21 (i_spec_l01Sine : FuncId) : List SOper := [
 ⟨some 163, none, .fieldAddr 0 (.tmp 19), 0⟩,
 ⟨some 164, none, .load1 (.tmp 163), 1⟩,
 ⟨some 165, none, .mov (.tmp 22), 0⟩,
 ⟨some 166, none, .mov (.tmp 3), 0⟩,
 ⟨some 167, none, .mov (.tmp 23), 0⟩,
 ⟨some 168, none, .call (.func i_spec_l01Sine) [(.tmp 167)], 16⟩,
 ⟨some 169, none, .bin .mul .other (.tmp 166) (.tmp 168), 56⟩,
 ⟨some 170, none, .indexAddrS 1 (.tmp 164) (.tmp 165), 127⟩,
 ⟨none, none, .store 1 (.tmp 170) (.tmp 169), 255⟩]
def spec_TravelField_r22 (i_spec_l01Sine : FuncId) : List SOper := [
 ⟨some 171, none, .fieldAddr 1 (.tmp 19), 0⟩,
 ⟨some 172, none, .load1 (.tmp 171), 1⟩,
 ⟨some 173, none, .mov (.tmp 22), 0⟩,
 ⟨some 174, none, .mov (.tmp 17), 0⟩,
 ⟨some 175, none, .mov (.tmp 24), 0⟩,
 ⟨some 176, none, .call (.func i_spec_l01Sine) [(.tmp 175)], 16⟩,
 ⟨some 177, none, .bin .mul .other (.tmp 174) (.tmp 176), 56⟩,
 ⟨some 178, none, .indexAddrS 1 (.tmp 172) (.tmp 173), 127⟩,
 ⟨none, none, .store 1 (.tmp 178) (.tmp 177), 255⟩]
def spec_TravelField_r23 (i_spec_l01Sine : FuncId) : List SOper := [
 ⟨some 179, none, .fieldAddr 2 (.tmp 19), 0⟩,
 ⟨some 180, none, .load1 (.tmp 179), 1⟩,
 ⟨some 181, none, .mov (.tmp 22), 0⟩,
 ⟨some 182, none, .mov (.tmp 18), 0⟩,
 ⟨some 183, none, .mov (.tmp 25), 0⟩,
 ⟨some 184, none, .call (.func i_spec_l01Sine) [(.tmp 183)], 16⟩,
 ⟨some 185, none, .bin .mul .other (.tmp 182) (.tmp 184), 56⟩,
 ⟨some 186, none, .un .neg (.tmp 185), 120⟩,
 ⟨some 187, none, .indexAddrS 1 (.tmp 180) (.tmp 181), 255⟩,
 ⟨none, none, .store 1 (.tmp 187) (.tmp 186), 511⟩]
def spec_TravelField_r24 : List SOper := [
 ⟨some 116, none, .mov (.tmp 21), 0⟩,
 ⟨some 117, none, .bin .add .other (.tmp 116) (.const (.int .i64 1)), 1⟩,
 ⟨some 21, none, .mov (.tmp 117), 3⟩]
def spec_TravelField_l25 (i_spec_l01Sine : FuncId) : SCode := (.kp [3,4,5,10,12,13,15,17,18,19,20,21] (.seq (.seq (.region spec_TravelField_r16 false) (.kp [3,4,5,10,12,13,15,17,18,19,20,21,115] (.cond (.tmp 115) .skip (.exit 2)))) (.kp [3,4,5,10,12,13,15,17,18,19,20,21] (.seq (.block 3 (.seq (.region spec_TravelField_r17 false) (.kp [3,4,5,10,12,13,15,17,18,19,20,21,22] (.seq (.region spec_TravelField_r18 false) (.kp [3,4,5,10,12,13,15,17,18,19,20,21,22,23] (.seq (.region spec_TravelField_r19 false) (.kp [3,4,5,10,12,13,15,17,18,19,20,21,22,23,24] (.seq (.region spec_TravelField_r20 false) (.kp [3,4,5,10,12,13,15,17,18,19,20,21,22,23,24,25] (.seq (.region (spec_TravelField_r21 i_spec_l01Sine) true) (.kp [3,4,5,10,12,13,15,17,18,19,20,21,22,24,25] (.seq (.region (spec_TravelField_r22 i_spec_l01Sine) true) (.kp [3,4,5,10,12,13,15,17,18,19,20,21,22,25] (.region (spec_TravelField_r23 i_spec_l01Sine) true)))))))))))))) (.kp [3,4,5,10,12,13,15,17,18,19,20,21] (.region spec_TravelField_r24 false))))))
def spec_TravelField_r26 : List SOper := [
 ⟨some 110, none, .mov (.tmp 20), 0⟩,
 ⟨some 111, none, .bin .add .other (.tmp 110) (.const (.int .i64 1)), 1⟩,
 ⟨some 20, none, .mov (.tmp 111), 3⟩]
def spec_TravelField_l27 (i_spec_l01Sine : FuncId) : SCode := (.kp [3,4,5,10,12,13,15,17,18,19,20] (.seq (.seq (.region spec_TravelField_r14 false) (.kp [3,4,5,10,12,13,15,17,18,19,20,109] (.cond (.tmp 109) .skip (.exit 0)))) (.kp [3,4,5,10,12,13,15,17,18,19,20] (.seq (.block 1 (.seq (.region spec_TravelField_r15 false) (.kp [3,4,5,10,12,13,15,17,18,19,20,21] (.block 2 (.loop (spec_TravelField_l25 i_spec_l01Sine)))))) (.kp [3,4,5,10,12,13,15,17,18,19,20] (.region spec_TravelField_r26 false))))))
def spec_TravelField_r28 : List SOper := [
 ⟨some 188, none, .loadN 3 (.tmp 19), 0⟩,
 ⟨none, none, .store 3 (.tmp 10) (.tmp 188), 1⟩,
 ⟨some 11, none, .mov (.const (.bool true)), 3⟩]
def spec_TravelField (i_spec_l02Is i_spec_l08Plain i_spec_l08Travels i_spec_l01Finite i_spec_l08Travel i_spec_l01Sine i_spec_l02Zero : FuncId) : SFunc := ⟨189, [.cellN 10 3, .tmp 11], (.kp [0,1,2,3,4] (.seq (.region spec_TravelField_r0 false) (.kp [1,2,3,4,5,10] (.seq (.seq (.region (spec_TravelField_r1 i_spec_l02Is i_spec_l08Plain i_spec_l08Travels i_spec_l01Finite) false) (.kp [1,2,3,4,5,10,52] (.cond (.tmp 52) (.seq (.region spec_TravelField_r2 false) .ret) .skip))) (.kp [1,2,3,4,5,10] (.seq (.region spec_TravelField_r3 false) (.kp [1,2,3,4,5,10,12] (.seq (.region spec_TravelField_r4 false) (.kp [1,2,3,4,5,10,12,13] (.seq (.region (spec_TravelField_r5 i_spec_l08Travel) true) (.kp [3,4,5,10,12,13,14] (.seq (.region spec_TravelField_r6 false) (.kp [3,4,5,10,12,13,15] (.seq (.region (spec_TravelField_r7 i_spec_l01Sine) false) (.kp [3,4,5,10,12,13,15,16] (.seq (.seq (.region spec_TravelField_r8 false) (.kp [3,4,5,10,12,13,15,16,82] (.cond (.tmp 82) (.seq (.region spec_TravelField_r9 false) .ret) .skip))) (.kp [3,4,5,10,12,13,15,16] (.seq (.region (spec_TravelField_r10 i_spec_l01Sine) false) (.kp [3,4,5,10,12,13,15,16,17] (.seq (.region (spec_TravelField_r11 i_spec_l01Sine) false) (.kp [3,4,5,10,12,13,15,17,18] (.seq (.region (spec_TravelField_r12 i_spec_l02Zero) false) (.kp [3,4,5,10,12,13,15,17,18,19] (.seq (.seq (.region spec_TravelField_r13 false) (.kp [3,4,5,10,12,13,15,17,18,19,20] (.block 0 (.loop (spec_TravelField_l27 i_spec_l01Sine))))) (.kp [10,19] (.seq (.region spec_TravelField_r28 false) .ret))))))))))))))))))))))))))⟩
theorem spec_TravelField_r5_dr {i_spec_l08Travel : FuncId} : drawOkW wStat (spec_TravelField_r5 i_spec_l08Travel) = true := by kernel_rfl
attribute [push_cast] spec_TravelField_r5_dr
theorem spec_TravelField_r21_dr {i_spec_l01Sine : FuncId} : drawOkW wStat (spec_TravelField_r21 i_spec_l01Sine) = true := by kernel_rfl
attribute [push_cast] spec_TravelField_r21_dr
theorem spec_TravelField_r22_dr {i_spec_l01Sine : FuncId} : drawOkW wStat (spec_TravelField_r22 i_spec_l01Sine) = true := by kernel_rfl
attribute [push_cast] spec_TravelField_r22_dr
theorem spec_TravelField_r23_dr {i_spec_l01Sine : FuncId} : drawOkW wStat (spec_TravelField_r23 i_spec_l01Sine) = true := by kernel_rfl
attribute [push_cast] spec_TravelField_r23_dr
abbrev nr32 (x : Nat) : Nat := FloatKind.f32.nearest (x : Int)
abbrev nrH (x : Nat) : Nat := fbin .add .f32 (FloatKind.f32.nearest (x : Int)) 1056964608
/-- The turns at a place. -/
def phaT (a b t x y : Nat) : Nat := fbin .add .f32 (fbin .add .f32 (fbin .mul .f32 a x) (fbin .mul .f32 b y)) t
/-- What the cells of the three rows get. -/
def cellE (a b t s : Nat) (W i : Nat) : Nat := fbin .mul .f32 s (sinT (phaT a b t (nr32 (i % W)) (nr32 (i / W))))
def cellX (a b t h r : Nat) (W i : Nat) : Nat := fbin .mul .f32 r (sinT (fbin .add .f32 (phaT a b t (nr32 (i % W)) (nrH (i / W))) h))
def cellY (a b t h r : Nat) (W i : Nat) : Nat := Op.negFloat .f32 (fbin .mul .f32 r (sinT (fbin .add .f32 (phaT a b t (nrH (i % W)) (nr32 (i / W))) h)))
/-- A row whose first cells are told. -/
def preG (g : Nat → Nat) (N j : Nat) : List Nat := (List.range j).map g ++ (List.replicate N 0).drop j
theorem preG_length {g : Nat → Nat} {N j : Nat} (h : j ≤ N) : (preG g N j).length = N := by simp [preG]; omega
theorem preG_zero (g : Nat → Nat) (N : Nat) : preG g N 0 = List.replicate N 0 := by simp [preG]
theorem preG_end (g : Nat → Nat) (N : Nat) : preG g N N = (List.range N).map g := by simp [preG]
theorem preG_set (g : Nat → Nat) {N j : Nat} (h : j < N) : (preG g N j).set j (g j) = preG g N (j + 1) := gen_step g (List.replicate N 0) j (by simpa using h)
/-- The half of what a wave turns in a step, and its sine. -/
def halfT (W H : Int) (m n : Int) (c : Nat) : Nat := fbin .mul .f32 (travT W H m n c) 1056964608
def partT (q s g : Nat) : Nat := fbin .quo .f32 (fbin .mul .f32 s (sinT (fbin .mul .f32 q 1056964608))) (fbin .mul .f32 1073741824 g)
def tvA (w h : Int) (wr : Bool) (sp lo : List Nat) (m n : Int) (s t : Nat) : Bool := isSheet w h sp lo && wr && plainB sp lo && ordB m n && finB s && finB t
def tvOk (w h : Int) (wr : Bool) (sp lo : List Nat) (m n : Int) (s t : Nat) : Bool := tvA w h wr sp lo m n s t && !feq .f32 (sinT (halfT w h m n (sp.getD 0 0))) 0
def tvG (w h m n : Int) (c : Nat) : Nat := sinT (halfT w h m n c)
def tvE (w h : Int) (sp : List Nat) (m n : Int) (s t : Nat) : List Nat := (List.range sp.length).map (cellE (quot32 m w) (quot32 n h) t s w.toNat)
def tvX (w h : Int) (sp : List Nat) (m n : Int) (s t : Nat) : List Nat := (List.range sp.length).map (cellX (quot32 m w) (quot32 n h) t (halfT w h m n (sp.getD 0 0)) (partT (quot32 n h) s (tvG w h m n (sp.getD 0 0))) w.toNat)
def tvY (w h : Int) (sp : List Nat) (m n : Int) (s t : Nat) : List Nat := (List.range sp.length).map (cellY (quot32 m w) (quot32 n h) t (halfT w h m n (sp.getD 0 0)) (partT (quot32 m w) s (tvG w h m n (sp.getD 0 0))) w.toNat)
abbrev TravelField_ok (c : Contract) : Prop := ∀ (σ : Heap) (w h : Int) (wr : Bool) (sv lv : Value) (sp lo : List Nat) (m n : Int) (s t : Nat), ShR σ sv lv sp lo → sp.length ≤ 1048576 → lo.length ≤ 1048576 → (∀ x ∈ sp, x < 4294967296) → (∀ x ∈ lo, x < 4294967296) →
    Ret c [shV w h wr sv lv, .int .i64 m, .int .i64 n, .float .f32 s, .float .f32 t] σ fun v σ' => v = flRes (tvOk w h wr sp lo m n s t) σ.length (tvE w h sp m n s t) (tvX w h sp m n s t) (tvY w h sp m n s t) ∧ σ' = σ ++ flRows (tvOk w h wr sp lo m n s t) (tvE w h sp m n s t) (tvX w h sp m n s t) (tvY w h sp m n s t)
abbrev spec_TravelField_ok := TravelField_ok
abbrev impl_TravelField_ok := TravelField_ok
theorem spec_TravelField_law {C : Ctab} {i1 i2 i3 i4 i5 i6 i7 : FuncId} {c1 c2 c3 c4 c5 c6 c7 : Contract} (h1 : Has C i1 c1 spec_l02Is_ok) (h2 : Has C i2 c2 spec_l08Plain_ok) (h3 : Has C i3 c3 spec_l08Travels_ok) (h4 : Has C i4 c4 spec_l01Finite_ok) (h5 : Has C i5 c5 spec_l08Travel_ok) (h6 : Has C i6 c6 spec_l01Sine_ok) (h7 : Has C i7 c7 spec_l02Zero_ok) :
    spec_TravelField_ok (gcC C (spec_TravelField i1 i2 i3 i4 i5 i6 i7) true) := by
  intro σ w h wr sv lv sp lo m n s t ⟨r1, r2⟩ hn1 hn2 hs hl
  cases hS : isSheet w h sp lo
  · have hO : tvOk w h wr sp lo m n s t = false := by unfold tvOk tvA; rw [hS]; rfl
    rw [hO, flRes_f, flRows_f]
    refine ret_gc rfl rfl ?_
    repeat' (first | refine ff ?_ | (apply EvR.aCall h1.at_; (· exact eva); (· apply h1.ok <;> exact sid); (rintro _ _ ⟨rfl, rfl⟩; refine EvR.nrm ?_; try simp only [hS])) | ((first | refine sR ?_ ?_ | refine sC ?_ ?_) <;> (intro hb; (try rw [hb]); (try simp only [bb] at hb); (try (exfalso; first | omega | exact hb trivial)))) | (apply endS trivial; rotate_left; (· exact eva); (· rfl); try refine ⟨?_, rfl⟩) | fail)
    simp
  cases wr
  · have hO : tvOk w h false sp lo m n s t = false := by unfold tvOk tvA; rw [Bool.and_false]; rfl
    rw [hO, flRes_f, flRows_f]
    refine ret_gc rfl rfl ?_
    repeat' (first | refine ff ?_ | (apply EvR.aCall h1.at_; (· exact eva); (· apply h1.ok <;> exact sid); (rintro _ _ ⟨rfl, rfl⟩; refine EvR.nrm ?_; try simp only [hS])) | ((first | refine sR ?_ ?_ | refine sC ?_ ?_) <;> (intro hb; (try rw [hb]); (try simp only [bb] at hb); (try (exfalso; first | omega | exact hb trivial)))) | (apply endS trivial; rotate_left; (· exact eva); (· rfl); try refine ⟨?_, rfl⟩) | fail)
    simp
  obtain ⟨a1, a2, a3, a4, q1, q2⟩ := isSheet_sides hS
  obtain ⟨W, rfl⟩ := Int.eq_ofNat_of_zero_le (show 0 ≤ w by omega)
  obtain ⟨Hh, rfl⟩ := Int.eq_ofNat_of_zero_le (show 0 ≤ h by omega)
  have hWH : ((W * Hh : Nat) : Int) = (W : Int) * (Hh : Int) := Int.natCast_mul _ _
  have hN2 : W * Hh ≤ 256 := Nat.mul_le_mul (show W ≤ 16 by omega) (show Hh ≤ 16 by omega)
  have hN3 : 9 ≤ W * Hh := Nat.mul_le_mul (show 3 ≤ W by omega) (show 3 ≤ Hh by omega)
  have hl1 : sp.length = W * Hh := by omega
  have hl2 : lo.length = W * Hh := by omega
  have hz0 : 0 < sp.length := by omega
  have hz1 : sp.length ≤ lo.length := by omega
  cases hA : plainB sp lo && ordB m n && finB s && finB t
  · have hO : tvOk W Hh true sp lo m n s t = false := by
      unfold tvOk tvA; rw [hS, Bool.and_self, Bool.true_and, hA]; rfl
    rw [hO, flRes_f, flRows_f]
    refine ret_gc rfl rfl ?_
    repeat' (first | refine ff ?_ | (apply EvR.aCall h1.at_; (· exact eva); (· apply h1.ok <;> exact sid); (rintro _ _ ⟨rfl, rfl⟩; refine EvR.nrm ?_; try simp only [hS])) | (apply EvR.aCall h2.at_; (· exact eva); (· apply h2.ok <;> exact sid); (rintro _ _ ⟨rfl, rfl⟩; refine EvR.nrm ?_; try simp only [hS])) | (apply EvR.aCall h3.at_; (· exact eva); (· apply h3.ok <;> exact sid); (rintro _ _ ⟨rfl, rfl⟩; refine EvR.nrm ?_; try simp only [hS])) | (apply EvR.aCall h4.at_; (· exact eva); (· apply h4.ok <;> exact sid); (rintro _ _ ⟨rfl, rfl⟩; refine EvR.nrm ?_; try simp only [hS])) | ((first | refine sR ?_ ?_ | refine sC ?_ ?_) <;> (intro hb; (try rw [hb]); (try simp only [bb] at hb); (try (exfalso; first | omega | exact hb trivial)))) | (apply endS trivial; rotate_left; (· exact eva); (· rfl); try refine ⟨?_, rfl⟩) | fail)
    all_goals (first | (simp; done) | (exfalso; simp_all; done))
  · have hA0 := hA
    rw [Bool.and_eq_true, Bool.and_eq_true, Bool.and_eq_true] at hA0
    obtain ⟨⟨⟨g1, g2⟩, g3⟩, g4⟩ := hA0
    have hO : tvOk W Hh true sp lo m n s t = !feq .f32 (sinT (halfT W Hh m n (sp.getD 0 0))) 0 := by
      unfold tvOk tvA; rw [hS, Bool.and_self, Bool.true_and, hA, Bool.true_and]
    have e0 : (W : Int) * (Hh : Int) = ((W * Hh : Nat) : Int) := hWH.symm
    obtain ⟨a, ha⟩ : ∃ a, fbin .quo .f32 (FloatKind.f32.nearest m) (FloatKind.f32.nearest (W : Int)) = a := ⟨_, rfl⟩
    obtain ⟨b, hbq⟩ : ∃ b, fbin .quo .f32 (FloatKind.f32.nearest n) (FloatKind.f32.nearest (Hh : Int)) = b := ⟨_, rfl⟩
    obtain ⟨f, hf⟩ : ∃ f, fbin .mul .f32 (travT W Hh m n (sp.getD 0 0)) 1056964608 = f := ⟨_, rfl⟩
    unfold tvE tvX tvY tvG halfT quot32
    unfold halfT at hO
    rw [hO, ha, hbq, hf]
    obtain ⟨r, hr⟩ : ∃ r, partT b s (sinT f) = r := ⟨_, rfl⟩
    obtain ⟨q, hq⟩ : ∃ q, partT a s (sinT f) = q := ⟨_, rfl⟩
    rw [hr, hq]
    cases hg : feq .f32 (sinT f) 0
    · rw [Bool.not_false, flRes_t, flRows_t, hl1, Int.toNat_natCast]
      refine ret_gc rfl rfl ?_
      repeat' (first | refine ff ?_ | (apply EvR.aCall h1.at_; (· exact eva); (· apply h1.ok <;> exact sid); (rintro _ _ ⟨rfl, rfl⟩; refine EvR.nrm ?_; try simp only [hS, g1, g2, g3, g4])) | (apply EvR.aCall h2.at_; (· exact eva); (· apply h2.ok <;> exact sid); (rintro _ _ ⟨rfl, rfl⟩; refine EvR.nrm ?_; try simp only [hS, g1, g2, g3, g4])) | (apply EvR.aCall h3.at_; (· exact eva); (· apply h3.ok <;> exact sid); (rintro _ _ ⟨rfl, rfl⟩; refine EvR.nrm ?_; try simp only [hS, g1, g2, g3, g4])) | (apply EvR.aCall h4.at_; (· exact eva); (· apply h4.ok <;> exact sid); (rintro _ _ ⟨rfl, rfl⟩; refine EvR.nrm ?_; try simp only [hS, g1, g2, g3, g4])) | (apply EvR.aCall h5.at_; (· exact eva); (· apply h5.ok <;> exact sid); (rintro _ _ ⟨rfl, rfl⟩; refine EvR.nrm ?_; try simp only [hS, g1, g2, g3, g4])) | (apply EvR.aCall h6.at_; (· exact eva); (· apply h6.ok <;> exact sid); (rintro _ _ ⟨rfl, rfl⟩; refine EvR.nrm ?_; try simp only [hS, g1, g2, g3, g4])) | ((first | refine sR ?_ ?_ | refine sC ?_ ?_) <;> (intro hb; (try rw [hb]); (try simp only [bb] at hb); (try (exfalso; first | omega | exact hb trivial)))) | (apply endS trivial; rotate_left; (· exact eva); (· rfl); try refine ⟨?_, rfl⟩) | fail)
      · exact absurd ‹feq .f32 (sinT (fbin .mul .f32 (travT W Hh m n (sp.getD 0 0)) 1056964608)) 0 = true› (by rw [hf, hg]; decide)
      rw [e0, ha, hbq, hf, show fbin .quo .f32 (fbin .mul .f32 s (sinT (fbin .mul .f32 b 1056964608))) (fbin .mul .f32 1073741824 (sinT f)) = r from hr, show fbin .quo .f32 (fbin .mul .f32 s (sinT (fbin .mul .f32 a 1056964608))) (fbin .mul .f32 1073741824 (sinT f)) = q from hq]
      (apply EvR.aCall h7.at_; (· exact eva); (· exact  h7.ok _ (W * Hh) (by omega)); (rintro _ _ ⟨rfl, rfl⟩; refine EvR.nrm ?_))
      repeat' (first | refine ff ?_ | ((first | refine sR ?_ ?_ | refine sC ?_ ?_) <;> (intro hb; (try rw [hb]); (try simp only [bb] at hb); (try (exfalso; first | omega | exact hb trivial)))) | (apply endS trivial; rotate_left; (· exact eva); (· rfl); try refine ⟨?_, rfl⟩) | fail)
      refine Ev.whlH (S := Nat) (fun y => Hh - y) (fun y => [(20, .int .i64 y)]) (fun y => σ ++ [⟨[.int .i64 W, .int .i64 Hh, .bool true, sv, lv], 0, true⟩, ⟨[.slice none 0 0, .slice none 0 0, .slice none 0 0], 0, true⟩, rowO (preG (cellE a b t s W) (W * Hh) (W * y)), rowO (preG (cellX a b t f r W) (W * Hh) (W * y)), rowO (preG (cellY a b t f q W) (W * Hh) (W * y)), ⟨[slV (σ.length + 2) (W * Hh), slV (σ.length + 3) (W * Hh), slV (σ.length + 4) (W * Hh)], 0, true⟩]) (fun y => y ≤ Hh) 0 (by exact tF) (by rw [Nat.mul_zero, preG_zero, preG_zero, preG_zero]) (Nat.zero_le _) ?_
      rintro y F hF hi
      try dsimp only at hF hi ⊢
      (simp only [List.cons_append, List.nil_append, ↓fget_cons, fkeep_cons, fkeep_nil, Nat.reduceEqDiff, reduceIte] at hF; subst hF)
      by_cases hlt : y < Hh
      · repeat' (first | refine ff ?_ | ((first | refine sR ?_ ?_ | refine sC ?_ ?_) <;> (intro hb; (try rw [hb]); (try simp only [bb] at hb); (try (exfalso; first | omega | exact hb trivial)))) | (apply endS trivial; rotate_left; (· exact eva); (· rfl); try refine ⟨?_, rfl⟩) | fail)
        refine Ev.whlH (S := Nat) (fun x => W - x) (fun x => [(21, .int .i64 x)]) (fun x => σ ++ [⟨[.int .i64 W, .int .i64 Hh, .bool true, sv, lv], 0, true⟩, ⟨[.slice none 0 0, .slice none 0 0, .slice none 0 0], 0, true⟩, rowO (preG (cellE a b t s W) (W * Hh) (W * y + x)), rowO (preG (cellX a b t f r W) (W * Hh) (W * y + x)), rowO (preG (cellY a b t f q W) (W * Hh) (W * y + x)), ⟨[slV (σ.length + 2) (W * Hh), slV (σ.length + 3) (W * Hh), slV (σ.length + 4) (W * Hh)], 0, true⟩]) (fun x => x ≤ W) 0 (by exact tF) rfl (Nat.zero_le _) ?_
        rintro x F hF hi2
        try dsimp only at hF hi2 ⊢
        (simp only [List.cons_append, List.nil_append, ↓fget_cons, fkeep_cons, fkeep_nil, Nat.reduceEqDiff, reduceIte] at hF; subst hF)
        by_cases hlt2 : x < W
        · obtain ⟨d1, d2, d3, d4⟩ := cell_ix hlt2 hlt
          have d5 := cell_lt hlt2 hlt
          obtain ⟨j, hj⟩ : ∃ j, W * y + x = j := ⟨_, rfl⟩
          have m1 : j % W = x := by rw [← hj]; exact mod_at hlt2
          have m2 : j / W = y := by rw [← hj]; exact div_at hlt2
          rw [hj] at d3 d5
          have l1 := preG_length (g := cellE a b t s W) (Nat.le_of_lt d5)
          have l2 := preG_length (g := cellX a b t f r W) (Nat.le_of_lt d5)
          have l3 := preG_length (g := cellY a b t f q W) (Nat.le_of_lt d5)
          have e1 := preG_set (cellE a b t s W) d5
          have e2 := preG_set (cellX a b t f r W) d5
          have e3 := preG_set (cellY a b t f q W) d5
          rw [show cellE a b t s W j = fbin .mul .f32 s (sinT (fbin .add .f32 (fbin .add .f32 (fbin .mul .f32 a (FloatKind.f32.nearest (x : Int))) (fbin .mul .f32 b (FloatKind.f32.nearest (y : Int)))) t)) from by unfold cellE phaT; rw [m1, m2]] at e1
          rw [show cellX a b t f r W j = fbin .mul .f32 r (sinT (fbin .add .f32 (fbin .add .f32 (fbin .add .f32 (fbin .mul .f32 a (FloatKind.f32.nearest (x : Int))) (fbin .mul .f32 b (fbin .add .f32 (FloatKind.f32.nearest (y : Int)) 1056964608))) t) f)) from by unfold cellX phaT; rw [m1, m2]] at e2
          rw [show cellY a b t f q W j = Op.negFloat .f32 (fbin .mul .f32 q (sinT (fbin .add .f32 (fbin .add .f32 (fbin .add .f32 (fbin .mul .f32 a (fbin .add .f32 (FloatKind.f32.nearest (x : Int)) 1056964608)) (fbin .mul .f32 b (FloatKind.f32.nearest (y : Int)))) t) f))) from by unfold cellY phaT; rw [m1, m2]] at e3
          rw [hj]
          generalize preG (cellE a b t s W) (W * Hh) j = R1 at *
          generalize preG (cellX a b t f r W) (W * Hh) j = R2 at *
          generalize preG (cellY a b t f q W) (W * Hh) j = R3 at *
          repeat' (first | refine ff ?_ | (apply EvR.aCall h6.at_; (· exact eva); (· apply h6.ok <;> exact sid); (rintro _ _ ⟨rfl, rfl⟩; refine EvR.nrm ?_)) | ((first | refine sR ?_ ?_ | refine sC ?_ ?_) <;> (intro hb; (try rw [hb]); (try simp only [bb] at hb); (try (exfalso; first | omega | exact hb trivial)))) | (apply endS trivial; rotate_left; (· exact eva); (· rfl); try refine ⟨?_, rfl⟩) | fail)
          exact ⟨x + 1, by omega, by exact tF, by rw [d3, e1, e2, e3, ← hj]; rfl, by omega⟩
        · obtain rfl : x = W := by omega
          repeat' (first | refine ff ?_ | ((first | refine sR ?_ ?_ | refine sC ?_ ?_) <;> (intro hb; (try rw [hb]); (try simp only [bb] at hb); (try (exfalso; first | omega | exact hb trivial)))) | (apply endS trivial; rotate_left; (· exact eva); (· rfl); try refine ⟨?_, rfl⟩) | fail)
          exact ⟨y + 1, by omega, by exact tF, by rw [Nat.mul_succ], by omega⟩
      · obtain rfl : y = Hh := by omega
        rw [preG_end, preG_end, preG_end]
        repeat' (first | refine ff ?_ | ((first | refine sR ?_ ?_ | refine sC ?_ ?_) <;> (intro hb; (try rw [hb]); (try simp only [bb] at hb); (try (exfalso; first | omega | exact hb trivial)))) | (apply endS trivial; rotate_left; (· exact eva); (· rfl); try refine ⟨?_, rfl⟩) | fail)
        simp only [List.length_map, List.length_range]
        (apply endR [2, 3, 4] trivial ⟨rfl, rfl⟩; (· exact eva); (· simp [gcTop, gcVal, gcLeaf, gcLeaves, gcVals, constOk, gc_lt, gc_lt0]); (· rfl); (· decide); (· simp [allConst, f32s, i64s, b8s, bools, constOk]))
    · rw [Bool.not_true, flRes_f, flRows_f]
      refine ret_gc rfl rfl ?_
      repeat' (first | refine ff ?_ | (apply EvR.aCall h1.at_; (· exact eva); (· apply h1.ok <;> exact sid); (rintro _ _ ⟨rfl, rfl⟩; refine EvR.nrm ?_; try simp only [hS, g1, g2, g3, g4])) | (apply EvR.aCall h2.at_; (· exact eva); (· apply h2.ok <;> exact sid); (rintro _ _ ⟨rfl, rfl⟩; refine EvR.nrm ?_; try simp only [hS, g1, g2, g3, g4])) | (apply EvR.aCall h3.at_; (· exact eva); (· apply h3.ok <;> exact sid); (rintro _ _ ⟨rfl, rfl⟩; refine EvR.nrm ?_; try simp only [hS, g1, g2, g3, g4])) | (apply EvR.aCall h4.at_; (· exact eva); (· apply h4.ok <;> exact sid); (rintro _ _ ⟨rfl, rfl⟩; refine EvR.nrm ?_; try simp only [hS, g1, g2, g3, g4])) | (apply EvR.aCall h5.at_; (· exact eva); (· apply h5.ok <;> exact sid); (rintro _ _ ⟨rfl, rfl⟩; refine EvR.nrm ?_; try simp only [hS, g1, g2, g3, g4])) | (apply EvR.aCall h6.at_; (· exact eva); (· apply h6.ok <;> exact sid); (rintro _ _ ⟨rfl, rfl⟩; refine EvR.nrm ?_; try simp only [hS, g1, g2, g3, g4])) | ((first | refine sR ?_ ?_ | refine sC ?_ ?_) <;> (intro hb; (try rw [hb]); (try simp only [bb] at hb); (try (exfalso; first | omega | exact hb trivial)))) | (apply endS trivial; rotate_left; (· exact eva); (· rfl); try refine ⟨?_, rfl⟩) | fail)
      · simp
      · exact absurd ‹feq .f32 (sinT (fbin .mul .f32 (travT W Hh m n (sp.getD 0 0)) 1056964608)) 0 = false› (by rw [hf, hg]; decide)
end Go.Abs

