/- Laws of functions: the closures of the program's wave that travels. Conditions: the laws of what they call. -/
import Derived.Test.YtdlicidmkakooaaExactTravelFieldL139
import Derived.Test.YtdlicidmkakooaaExactTravelFieldL08
import Derived.Test.YtdlicidmkakooaaExactTravelFieldL05
namespace Go.Abs

set_option linter.unusedSimpArgs false
set_option linter.unusedVariables false
set_option maxHeartbeats 8000000
set_option maxRecDepth 100000
/- loop.example/g01201/impl.TravelField$1 -/
def impl_TravelFieldC1_r0 : List SOper := [
 ⟨some 7, none, .mov (.const (.float .f32 0)), 0⟩]
def impl_TravelFieldC1_r1 : List SOper := [
 ⟨some 8, none, .load1 (.tmp 2), 0⟩,
 ⟨some 9, none, .mov (.tmp 0), 0⟩,
 ⟨some 10, none, .bin .mul .other (.tmp 8) (.tmp 9), 3⟩,
 ⟨some 11, none, .load1 (.tmp 3), 0⟩,
 ⟨some 12, none, .mov (.tmp 1), 0⟩,
 ⟨some 13, none, .bin .mul .other (.tmp 11) (.tmp 12), 24⟩,
 ⟨some 14, none, .bin .add .other (.tmp 10) (.tmp 13), 63⟩,
 ⟨some 15, none, .load1 (.tmp 4), 0⟩,
 ⟨some 16, none, .bin .add .other (.tmp 14) (.tmp 15), 255⟩,
 ⟨some 7, none, .mov (.tmp 16), 511⟩]
def impl_TravelFieldC1 : SFunc := ⟨17, [.tmp 7], (.kp [0,1,2,3,4] (.seq (.region impl_TravelFieldC1_r0 false) (.kp [0,1,2,3,4] (.seq (.region impl_TravelFieldC1_r1 false) .ret))))⟩

/- loop.example/g01201/impl.TravelField$2 -/
def impl_TravelFieldC2_r0 : List SOper := [
 ⟨some 14, none, .mov (.tmp 0), 0⟩,
 ⟨some 15, none, .conv (.toFloat .f32) (.tmp 14), 1⟩,
 ⟨some 16, none, .mov (.tmp 1), 0⟩,
 ⟨some 17, none, .conv (.toFloat .f32) (.tmp 16), 4⟩,
 ⟨some 12, none, .mov (.tmp 15), 3⟩,
 ⟨some 13, none, .mov (.tmp 17), 31⟩]
def impl_TravelFieldC2_r1 (i_impl_SineTurns : FuncId) : List SOper := [
 ⟨some 18, none, .fieldAddr 0 (.tmp 5), 0⟩,
 ⟨some 19, none, .load1 (.tmp 18), 1⟩,
 ⟨some 20, none, .mov (.tmp 2), 0⟩,
 ⟨some 21, none, .load1 (.tmp 3), 0⟩,
 ⟨some 22, none, .load1 (.tmp 4), 0⟩,
 ⟨some 23, none, .mov (.tmp 12), 0⟩,
 ⟨some 24, none, .mov (.tmp 13), 0⟩,
 ⟨some 25, none, .call (.tmp 22) [(.tmp 23), (.tmp 24)], 112⟩,
 ⟨some 26, none, .call (.func i_impl_SineTurns) [(.tmp 25)], 240⟩,
 ⟨some 27, none, .bin .mul .other (.tmp 21) (.tmp 26), 504⟩,
 ⟨some 28, none, .indexAddrS 1 (.tmp 19) (.tmp 20), 1023⟩,
 ⟨none, none, .store 1 (.tmp 28) (.tmp 27), 2047⟩]
def impl_TravelFieldC2_r2 (i_impl_SineTurns : FuncId) : List SOper := [
 ⟨some 29, none, .fieldAddr 1 (.tmp 5), 0⟩,
 ⟨some 30, none, .load1 (.tmp 29), 1⟩,
 ⟨some 31, none, .mov (.tmp 2), 0⟩,
 ⟨some 32, none, .load1 (.tmp 6), 0⟩,
 ⟨some 33, none, .load1 (.tmp 4), 0⟩,
 ⟨some 34, none, .mov (.tmp 12), 0⟩,
 ⟨some 35, none, .mov (.tmp 13), 0⟩,
 ⟨some 36, none, .bin .add .other (.tmp 35) (.const (.float .f32 1056964608)), 64⟩,
 ⟨some 37, none, .call (.tmp 33) [(.tmp 34), (.tmp 36)], 240⟩,
 ⟨some 38, none, .load1 (.tmp 7), 0⟩,
 ⟨some 39, none, .bin .quo .other (.tmp 38) (.const (.float .f32 1073741824)), 512⟩,
 ⟨some 40, none, .bin .add .other (.tmp 37) (.tmp 39), 2032⟩,
 ⟨some 41, none, .call (.func i_impl_SineTurns) [(.tmp 40)], 4080⟩,
 ⟨some 42, none, .bin .mul .other (.tmp 32) (.tmp 41), 8184⟩,
 ⟨some 43, none, .indexAddrS 1 (.tmp 30) (.tmp 31), 16383⟩,
 ⟨none, none, .store 1 (.tmp 43) (.tmp 42), 32767⟩]
def impl_TravelFieldC2_r3 (i_impl_SineTurns : FuncId) : List SOper := [
 ⟨some 44, none, .fieldAddr 2 (.tmp 5), 0⟩,
 ⟨some 45, none, .load1 (.tmp 44), 1⟩,
 ⟨some 46, none, .mov (.tmp 2), 0⟩,
 ⟨some 47, none, .load1 (.tmp 8), 0⟩,
 ⟨some 48, none, .load1 (.tmp 4), 0⟩,
 ⟨some 49, none, .mov (.tmp 12), 0⟩,
 ⟨some 50, none, .bin .add .other (.tmp 49) (.const (.float .f32 1056964608)), 32⟩,
 ⟨some 51, none, .mov (.tmp 13), 0⟩,
 ⟨some 52, none, .call (.tmp 48) [(.tmp 50), (.tmp 51)], 240⟩,
 ⟨some 53, none, .load1 (.tmp 7), 0⟩,
 ⟨some 54, none, .bin .quo .other (.tmp 53) (.const (.float .f32 1073741824)), 512⟩,
 ⟨some 55, none, .bin .add .other (.tmp 52) (.tmp 54), 2032⟩,
 ⟨some 56, none, .call (.func i_impl_SineTurns) [(.tmp 55)], 4080⟩,
 ⟨some 57, none, .bin .mul .other (.tmp 47) (.tmp 56), 8184⟩,
 ⟨some 58, none, .un .neg (.tmp 57), 16376⟩,
 ⟨some 59, none, .indexAddrS 1 (.tmp 45) (.tmp 46), 32767⟩,
 ⟨none, none, .store 1 (.tmp 59) (.tmp 58), 65535⟩]
def impl_TravelFieldC2 (i_impl_SineTurns : FuncId) : SFunc := ⟨60, [], (.kp [0,1,2,3,4,5,6,7,8] (.seq (.region impl_TravelFieldC2_r0 false) (.kp [2,3,4,5,6,7,8,12,13] (.seq (.region (impl_TravelFieldC2_r1 i_impl_SineTurns) true) (.kp [2,4,5,6,7,8,12,13] (.seq (.region (impl_TravelFieldC2_r2 i_impl_SineTurns) true) (.kp [2,4,5,7,8,12,13] (.region (impl_TravelFieldC2_r3 i_impl_SineTurns) true))))))))⟩
theorem impl_TravelFieldC2_r1_dr {i_impl_SineTurns : FuncId} : drawOkW wNone (impl_TravelFieldC2_r1 i_impl_SineTurns) = true := by kernel_rfl
attribute [push_cast] impl_TravelFieldC2_r1_dr
theorem impl_TravelFieldC2_r2_dr {i_impl_SineTurns : FuncId} : drawOkW wNone (impl_TravelFieldC2_r2 i_impl_SineTurns) = true := by kernel_rfl
attribute [push_cast] impl_TravelFieldC2_r2_dr
theorem impl_TravelFieldC2_r3_dr {i_impl_SineTurns : FuncId} : drawOkW wNone (impl_TravelFieldC2_r3 i_impl_SineTurns) = true := by kernel_rfl
attribute [push_cast] impl_TravelFieldC2_r3_dr
/- loop.example/g01201/impl.TravelField -/
def impl_TravelField_r0 : List SOper := [
 ⟨some 5, none, .box (.tmp 0), 0⟩,
 ⟨some 8, none, .box (.tmp 3), 0⟩,
 ⟨some 9, none, .box (.tmp 4), 0⟩,
 ⟨some 10, none, .alloc [(.slice none 0 0), (.slice none 0 0), (.slice none 0 0)], 0⟩,
 ⟨some 11, none, .mov (.const (.bool false)), 0⟩]
def impl_TravelField_r1 (i_impl_ValidSheet i_impl_isPlain i_impl_areOrders i_impl_IsFinite : FuncId) : List SOper := [
 ⟨some 20, none, .loadN 5 (.tmp 5), 0⟩,
 ⟨some 21, none, .call (.func i_impl_ValidSheet) [(.tmp 20)], 1⟩,
 ⟨some 22, none, .un .not (.tmp 21), 3⟩,
 ⟨some 23, none, .mov (.tmp 22), 7⟩,
  ⟨(some 24), (some (23, false)), .fieldAddr 2 (.tmp 5), 15⟩,
  ⟨(some 25), (some (23, false)), .load1 (.tmp 24), 31⟩,
  ⟨(some 26), (some (23, false)), .un .not (.tmp 25), 63⟩,
 ⟨some 27, none, .pick (.tmp 23) (.const (.bool true)) (.tmp 26), 127⟩,
 ⟨some 28, none, .mov (.tmp 27), 255⟩,
  ⟨(some 29), (some (28, false)), .loadN 5 (.tmp 5), 511⟩,
  ⟨(some 30), (some (28, false)), .call (.func i_impl_isPlain) [(.tmp 29)], 1023⟩,
  ⟨(some 31), (some (28, false)), .un .not (.tmp 30), 2047⟩,
 ⟨some 32, none, .pick (.tmp 28) (.const (.bool true)) (.tmp 31), 4095⟩,
 ⟨some 33, none, .mov (.tmp 32), 8191⟩,
  ⟨(some 34), (some (33, false)), .mov (.tmp 1), 16383⟩,
  ⟨(some 35), (some (33, false)), .mov (.tmp 2), 16383⟩,
  ⟨(some 36), (some (33, false)), .call (.func i_impl_areOrders) [(.tmp 34), (.tmp 35)], 65535⟩,
  ⟨(some 37), (some (33, false)), .un .not (.tmp 36), 131071⟩,
 ⟨some 38, none, .pick (.tmp 33) (.const (.bool true)) (.tmp 37), 262143⟩,
 ⟨some 39, none, .mov (.tmp 38), 524287⟩,
  ⟨(some 40), (some (39, false)), .load1 (.tmp 8), 1048575⟩,
  ⟨(some 41), (some (39, false)), .call (.func i_impl_IsFinite) [(.tmp 40)], 2097151⟩,
  ⟨(some 42), (some (39, false)), .un .not (.tmp 41), 4194303⟩,
 ⟨some 43, none, .pick (.tmp 39) (.const (.bool true)) (.tmp 42), 8388607⟩,
 ⟨some 44, none, .mov (.tmp 43), 16777215⟩,
  ⟨(some 45), (some (44, false)), .load1 (.tmp 9), 33554431⟩,
  ⟨(some 46), (some (44, false)), .call (.func i_impl_IsFinite) [(.tmp 45)], 67108863⟩,
  ⟨(some 47), (some (44, false)), .un .not (.tmp 46), 134217727⟩,
 ⟨some 48, none, .pick (.tmp 44) (.const (.bool true)) (.tmp 47), 268435455⟩]
def impl_TravelField_r2 : List SOper := [
 ⟨some 49, none, .build [(.slice none 0 0), (.slice none 0 0), (.slice none 0 0)] [], 0⟩,
 ⟨none, none, .store 3 (.tmp 10) (.tmp 49), 1⟩,
 ⟨some 11, none, .mov (.const (.bool false)), 3⟩]
def impl_TravelField_r3 (i_impl_quotient : FuncId) : List SOper := [
 ⟨some 50, none, .mov (.tmp 1), 0⟩,
 ⟨some 51, none, .fieldAddr 0 (.tmp 5), 0⟩,
 ⟨some 52, none, .load1 (.tmp 51), 2⟩,
 ⟨some 53, none, .call (.func i_impl_quotient) [(.tmp 50), (.tmp 52)], 7⟩,
 ⟨some 54, none, .mov (.tmp 2), 0⟩,
 ⟨some 55, none, .fieldAddr 1 (.tmp 5), 0⟩,
 ⟨some 56, none, .load1 (.tmp 55), 32⟩,
 ⟨some 57, none, .call (.func i_impl_quotient) [(.tmp 54), (.tmp 56)], 127⟩,
 ⟨some 12, none, .alloc [(.float .f32 0)], 0⟩,
 ⟨some 13, none, .alloc [(.float .f32 0)], 0⟩,
 ⟨none, none, .store 1 (.tmp 12) (.tmp 53), 1023⟩,
 ⟨none, none, .store 1 (.tmp 13) (.tmp 57), 2047⟩]
def impl_TravelField_r4 (i_impl_travelTurns : FuncId) : List SOper := [
 ⟨some 58, none, .fieldAddr 0 (.tmp 5), 0⟩,
 ⟨some 59, none, .load1 (.tmp 58), 1⟩,
 ⟨some 60, none, .fieldAddr 1 (.tmp 5), 0⟩,
 ⟨some 61, none, .load1 (.tmp 60), 4⟩,
 ⟨some 62, none, .mov (.tmp 1), 0⟩,
 ⟨some 63, none, .mov (.tmp 2), 0⟩,
 ⟨some 64, none, .fieldAddr 3 (.tmp 5), 0⟩,
 ⟨some 65, none, .load1 (.tmp 64), 64⟩,
 ⟨some 66, none, .indexAddrS 1 (.tmp 65) (.const (.int .i64 0)), 192⟩,
 ⟨some 67, none, .load1 (.tmp 66), 448⟩,
 ⟨some 68, none, .call (.func i_impl_travelTurns) [(.tmp 59), (.tmp 61), (.tmp 62), (.tmp 63), (.tmp 67)], 1023⟩,
 ⟨some 14, none, .alloc [(.float .f32 0)], 0⟩,
 ⟨none, none, .store 1 (.tmp 14) (.tmp 68), 4095⟩]
def impl_TravelField_r5 (i_impl_SineTurns : FuncId) : List SOper := [
 ⟨some 69, none, .load1 (.tmp 14), 0⟩,
 ⟨some 70, none, .bin .quo .other (.tmp 69) (.const (.float .f32 1073741824)), 1⟩,
 ⟨some 71, none, .call (.func i_impl_SineTurns) [(.tmp 70)], 3⟩,
 ⟨some 15, none, .mov (.tmp 71), 7⟩]
def impl_TravelField_r6 : List SOper := [
 ⟨some 72, none, .mov (.tmp 15), 0⟩,
 ⟨some 73, none, .bin .eql .other (.tmp 72) (.const (.float .f32 0)), 1⟩]
def impl_TravelField_r7 : List SOper := [
 ⟨some 74, none, .build [(.slice none 0 0), (.slice none 0 0), (.slice none 0 0)] [], 0⟩,
 ⟨none, none, .store 3 (.tmp 10) (.tmp 74), 1⟩,
 ⟨some 11, none, .mov (.const (.bool false)), 3⟩]
def impl_TravelField_r8 (i_impl_SineTurns : FuncId) : List SOper := [
 ⟨some 75, none, .load1 (.tmp 8), 0⟩,
 ⟨some 76, none, .load1 (.tmp 13), 0⟩,
 ⟨some 77, none, .bin .quo .other (.tmp 76) (.const (.float .f32 1073741824)), 2⟩,
 ⟨some 78, none, .call (.func i_impl_SineTurns) [(.tmp 77)], 6⟩,
 ⟨some 79, none, .bin .mul .other (.tmp 75) (.tmp 78), 15⟩,
 ⟨some 80, none, .mov (.tmp 15), 0⟩,
 ⟨some 81, none, .bin .mul .other (.const (.float .f32 1073741824)) (.tmp 80), 32⟩,
 ⟨some 82, none, .bin .quo .other (.tmp 79) (.tmp 81), 127⟩,
 ⟨some 16, none, .alloc [(.float .f32 0)], 0⟩,
 ⟨none, none, .store 1 (.tmp 16) (.tmp 82), 511⟩]
def impl_TravelField_r9 (i_impl_SineTurns : FuncId) : List SOper := [
 ⟨some 83, none, .load1 (.tmp 8), 0⟩,
 ⟨some 84, none, .load1 (.tmp 12), 0⟩,
 ⟨some 85, none, .bin .quo .other (.tmp 84) (.const (.float .f32 1073741824)), 2⟩,
 ⟨some 86, none, .call (.func i_impl_SineTurns) [(.tmp 85)], 6⟩,
 ⟨some 87, none, .bin .mul .other (.tmp 83) (.tmp 86), 15⟩,
 ⟨some 88, none, .mov (.tmp 15), 0⟩,
 ⟨some 89, none, .bin .mul .other (.const (.float .f32 1073741824)) (.tmp 88), 32⟩,
 ⟨some 90, none, .bin .quo .other (.tmp 87) (.tmp 89), 127⟩,
 ⟨some 17, none, .alloc [(.float .f32 0)], 0⟩,
 ⟨none, none, .store 1 (.tmp 17) (.tmp 90), 511⟩]
def impl_TravelField_r10 (i_impl_TravelFieldC1 : FuncId) : List SOper := [
 ⟨some 91, none, .makeFunc i_impl_TravelFieldC1 [] [(.tmp 12), (.tmp 13), (.tmp 9)], 0⟩,
 ⟨some 18, none, .alloc [.nilFunc], 0⟩,
 ⟨none, none, .store 1 (.tmp 18) (.tmp 91), 3⟩]
def impl_TravelField_r11 (i_impl_zeroField : FuncId) : List SOper := [
 ⟨some 92, none, .loadN 5 (.tmp 5), 0⟩,
 ⟨some 93, none, .call (.func i_impl_zeroField) [(.tmp 92)], 1⟩,
 ⟨some 19, none, .alloc [(.slice none 0 0), (.slice none 0 0), (.slice none 0 0)], 0⟩,
 ⟨none, none, .store 3 (.tmp 19) (.tmp 93), 7⟩]
def impl_TravelField_r12 (i_impl_TravelFieldC2 i_impl_Sheet_each : FuncId) : List SOper := [
 ⟨some 94, none, .loadN 5 (.tmp 5), 0⟩,
 ⟨some 95, none, .makeFunc i_impl_TravelFieldC2 [] [(.tmp 8), (.tmp 18), (.tmp 19), (.tmp 16), (.tmp 14), (.tmp 17)], 0⟩,
 ⟨some 96, none, .call (.func i_impl_Sheet_each) [(.tmp 94), (.tmp 95)], 3⟩]
def impl_TravelField_r13 : List SOper := [
 ⟨some 97, none, .loadN 3 (.tmp 19), 0⟩,
 ⟨none, none, .store 3 (.tmp 10) (.tmp 97), 1⟩,
 ⟨some 11, none, .mov (.const (.bool true)), 3⟩]
def impl_TravelField (i_impl_ValidSheet i_impl_isPlain i_impl_areOrders i_impl_IsFinite i_impl_quotient i_impl_travelTurns i_impl_SineTurns i_impl_TravelFieldC1 i_impl_zeroField i_impl_TravelFieldC2 i_impl_Sheet_each : FuncId) : SFunc := ⟨98, [.cellN 10 3, .tmp 11], (.kp [0,1,2,3,4] (.seq (.region impl_TravelField_r0 false) (.kp [1,2,5,8,9,10] (.seq (.seq (.region (impl_TravelField_r1 i_impl_ValidSheet i_impl_isPlain i_impl_areOrders i_impl_IsFinite) false) (.kp [1,2,5,8,9,10,48] (.cond (.tmp 48) (.seq (.region impl_TravelField_r2 false) .ret) .skip))) (.kp [1,2,5,8,9,10] (.seq (.region (impl_TravelField_r3 i_impl_quotient) true) (.kp [1,2,5,8,9,10,12,13] (.seq (.region (impl_TravelField_r4 i_impl_travelTurns) true) (.kp [5,8,9,10,12,13,14] (.seq (.region (impl_TravelField_r5 i_impl_SineTurns) false) (.kp [5,8,9,10,12,13,14,15] (.seq (.seq (.region impl_TravelField_r6 false) (.kp [5,8,9,10,12,13,14,15,73] (.cond (.tmp 73) (.seq (.region impl_TravelField_r7 false) .ret) .skip))) (.kp [5,8,9,10,12,13,14,15] (.seq (.region (impl_TravelField_r8 i_impl_SineTurns) true) (.kp [5,8,9,10,12,13,14,15,16] (.seq (.region (impl_TravelField_r9 i_impl_SineTurns) true) (.kp [5,8,9,10,12,13,14,16,17] (.seq (.region (impl_TravelField_r10 i_impl_TravelFieldC1) false) (.kp [5,8,10,14,16,17,18] (.seq (.region (impl_TravelField_r11 i_impl_zeroField) false) (.kp [5,8,10,14,16,17,18,19] (.seq (.region (impl_TravelField_r12 i_impl_TravelFieldC2 i_impl_Sheet_each) false) (.kp [10,19] (.seq (.region impl_TravelField_r13 false) .ret))))))))))))))))))))))))⟩
theorem impl_TravelField_r3_dr {i_impl_quotient : FuncId} : (drawOkS (impl_TravelField_r3 i_impl_quotient) && storesOnly (impl_TravelField_r3 i_impl_quotient)) = true := by kernel_rfl
attribute [push_cast] impl_TravelField_r3_dr
theorem impl_TravelField_r4_dr {i_impl_travelTurns : FuncId} : (drawOkS (impl_TravelField_r4 i_impl_travelTurns) && storesOnly (impl_TravelField_r4 i_impl_travelTurns)) = true := by kernel_rfl
attribute [push_cast] impl_TravelField_r4_dr
theorem impl_TravelField_r8_dr {i_impl_SineTurns : FuncId} : (drawOkS (impl_TravelField_r8 i_impl_SineTurns) && storesOnly (impl_TravelField_r8 i_impl_SineTurns)) = true := by kernel_rfl
attribute [push_cast] impl_TravelField_r8_dr
theorem impl_TravelField_r9_dr {i_impl_SineTurns : FuncId} : (drawOkS (impl_TravelField_r9 i_impl_SineTurns) && storesOnly (impl_TravelField_r9 i_impl_SineTurns)) = true := by kernel_rfl
attribute [push_cast] impl_TravelField_r9_dr
abbrev varF (n : Nat) : AObj := ⟨[.float .f32 n], 0, true⟩
def impl_TravelFieldC1_ok (c : Contract) : Prop := ∀ (σ : Heap) (pa pb pt : Nat) (a b t x y : Nat), σ[pa]? = some (varF a) → σ[pb]? = some (varF b) → σ[pt]? = some (varF t) →
    Ret c [.float .f32 x, .float .f32 y, .pointer (some ⟨pa, 0, none⟩), .pointer (some ⟨pb, 0, none⟩), .pointer (some ⟨pt, 0, none⟩)] σ fun v σ' => v = .float .f32 (phaT a b t x y) ∧ σ' = σ
theorem impl_TravelFieldC1_law {C : Ctab} : impl_TravelFieldC1_ok (gcC C impl_TravelFieldC1 true) := by
  intro σ pa pb pt a b t x y ha hb0 ht
  have p1 := PtAt.whole ha
  have p2 := PtAt.whole hb0
  have p3 := PtAt.whole ht
  refine ret_gc rfl rfl ?_
  repeat' (first | refine ff ?_ | ((first | refine sR ?_ ?_ | refine sC ?_ ?_) <;> (intro hb; (try rw [hb]); (try simp only [bb] at hb); (try (exfalso; first | omega | exact hb trivial)))) | (apply endS trivial; rotate_left; (· exact eva); (· rfl); try refine ⟨?_, rfl⟩) | fail)
  all_goals (try rfl)
/-- A variable that holds what tells the turns at a place. -/
def PhaAt (σ : Heap) (p : Nat) (k : FuncId) (a b t : Nat) : Prop := ∃ pa pb pt r, σ[p]? = some ⟨[.func (.func k) #[] #[.pointer (some ⟨pa, 0, none⟩), .pointer (some ⟨pb, 0, none⟩), .pointer (some ⟨pt, 0, none⟩)]], 0, r⟩ ∧ σ[pa]? = some (varF a) ∧ σ[pb]? = some (varF b) ∧ σ[pt]? = some (varF t)
theorem idx_at {σ : Heap} {b i n : Nat} {xs : List Nat} (h : σ[b]? = some (rowO xs)) (hx : xs.length = n) (hi : i < n) : aIndexAddrS σ 1 (slV b n) (.int .i64 i) = some (.pointer (some ⟨b, i, some n⟩)) := by
  have := idx_obj (k := .i64) (j := i) h (off := 0) (cap := n) (len := n) (by rw [f32s_length]; omega) (by omega) (by omega) (by omega) (Nat.le_refl _)
  simpa using this
theorem st_at {σ : Heap} {b i n v : Nat} {xs : List Nat} (h : σ[b]? = some (rowO xs)) (hx : xs.length = n) (hi : i < n) : aStore σ 1 (.pointer (some ⟨b, i, some n⟩)) (.float .f32 v) = some (σ.set b (rowO (xs.set i v))) := by
  rw [store1_obj h (by rw [f32s_length]; exact hx) (by omega) hi rfl, f32s_set]
theorem keep_set {σ : Heap} {p b : Nat} {cs : List Value} {ro : Bool} {xs ys : List Nat} (h : σ[p]? = some ⟨cs, 0, ro⟩) (hb : σ[b]? = some (rowO xs)) : (σ.set b (rowO ys))[p]? = some ⟨cs, 0, ro⟩ := by
  rw [List.getElem?_set_ne]
  · exact h
  · rintro rfl
    rw [h] at hb
    injection hb with hb
    injection hb with _ hb
    cases hb
theorem PhaAt.set {σ : Heap} {p b : Nat} {k : FuncId} {a q t : Nat} {xs ys : List Nat} (h : PhaAt σ p k a q t) (hb : σ[b]? = some (rowO xs)) : PhaAt (σ.set b (rowO ys)) p k a q t := by
  obtain ⟨pa, pb, pt, r, g0, g1, g2, g3⟩ := h
  exact ⟨pa, pb, pt, r, keep_set g0 hb, keep_set g1 hb, keep_set g2 hb, keep_set g3 hb⟩
theorem PhaAt.at_ {σ : Heap} {p : Nat} {k : FuncId} {a q t : Nat} (h : PhaAt σ p k a q t) : ∃ pa pb pt, PtAt σ p 0 [.func (.func k) #[] #[.pointer (some ⟨pa, 0, none⟩), .pointer (some ⟨pb, 0, none⟩), .pointer (some ⟨pt, 0, none⟩)]] ∧ (σ ++ [])[pa]? = some (varF a) ∧ (σ ++ [])[pb]? = some (varF q) ∧ (σ ++ [])[pt]? = some (varF t) := by
  obtain ⟨pa, pb, pt, r, g0, g1, g2, g3⟩ := h
  rw [List.append_nil]
  exact ⟨pa, pb, pt, PtAt.whole g0, g1, g2, g3⟩
theorem old_set {σ τ : Heap} {b : Nat} {xs : List Nat} (h : ∀ o, o < σ.length → τ[o]? = σ[o]? ∨ ∀ obj, τ[o]? = some obj → allConst obj = true) : ∀ o, o < σ.length → (τ.set b (rowO xs))[o]? = σ[o]? ∨ ∀ obj, (τ.set b (rowO xs))[o]? = some obj → allConst obj = true := by
  intro o ho
  by_cases hb : b = o
  · subst hb
    right
    intro obj hobj
    by_cases hl : b < τ.length
    · rw [List.getElem?_set_self hl] at hobj
      injection hobj with hobj
      subst hobj
      exact f32s_const _ _
    · rw [List.getElem?_eq_none (by rw [List.length_set]; omega)] at hobj
      cases hobj
  · rw [List.getElem?_set_ne hb]
    exact h o ho
def impl_TravelFieldC2_ok (k : FuncId) (c : Contract) : Prop := ∀ (σ : Heap) (ps pa po pr pf pt be bx by_ : Nat) (a b t s r f q : Nat) (N i x y : Nat) (E X Y : List Nat) (ro : Bool), PhaAt σ pa k a b t → σ[ps]? = some (varF s) → σ[po]? = some ⟨[slV be N, slV bx N, slV by_ N], 0, ro⟩ → σ[pr]? = some (varF r) → σ[pf]? = some (varF f) → σ[pt]? = some (varF q) →
    σ[be]? = some (rowO E) → σ[bx]? = some (rowO X) → σ[by_]? = some (rowO Y) → be ≠ bx → be ≠ by_ → bx ≠ by_ → E.length = N → X.length = N → Y.length = N → i < N → N ≤ 1000 →
    Ret c [.int .i64 x, .int .i64 y, .int .i64 i, .pointer (some ⟨ps, 0, none⟩), .pointer (some ⟨pa, 0, none⟩), .pointer (some ⟨po, 0, none⟩), .pointer (some ⟨pr, 0, none⟩), .pointer (some ⟨pf, 0, none⟩), .pointer (some ⟨pt, 0, none⟩)] σ fun v σ' => v = .tuple #[] ∧
      σ' = ((σ.set be (rowO (E.set i (fbin .mul .f32 s (sinT (phaT a b t (nr32 x) (nr32 y))))))).set bx (rowO (X.set i (fbin .mul .f32 r (sinT (fbin .add .f32 (phaT a b t (nr32 x) (nrH y)) (fbin .mul .f32 f 1056964608))))))).set by_ (rowO (Y.set i (Op.negFloat .f32 (fbin .mul .f32 q (sinT (fbin .add .f32 (phaT a b t (nrH x) (nr32 y)) (fbin .mul .f32 f 1056964608)))))))
theorem impl_TravelFieldC2_law {C : Ctab} {k i1 : FuncId} {ck c1 : Contract} (hall : ∀ g c, C g = some c → c.quiet = true) (h1 : Has C i1 c1 impl_SineTurns_ok) (hk : C k = some ck) (hc : impl_TravelFieldC1_ok ck) : impl_TravelFieldC2_ok k (gcC C (impl_TravelFieldC2 i1) false) := by
  intro σ ps pa po pr pf pt be bx by_ a b t s r f q N i x y E X Y ro hph hs ho hr hf ht hbe hbx hby n1 n2 n3 l1 l2 l3 hi hN
  obtain ⟨qa, qb, qt, p2, g1, g2, g3⟩ := hph.at_
  have p1 := PtAt.whole hs
  have p3 := PtAt.whole ho
  refine ret_gc rfl rfl ?_
  repeat' (first | refine ff ?_ | ((first | refine sR ?_ ?_ | refine sC ?_ ?_) <;> (intro hb; (try rw [hb]); (try simp only [bb] at hb); (try (exfalso; first | omega | exact hb trivial)))) | (apply endS trivial; rotate_left; (· exact eva); (· rfl); try refine ⟨?_, rfl⟩) | fail)
  (apply EvR.aDyn hk; (· exact rfl); (· exact eva); (· exact  hc (σ ++ []) qa qb qt a b t _ _ g1 g2 g3); (rintro _ _ ⟨rfl, rfl⟩; refine EvR.nrm ?_))
  repeat' (first | refine ff ?_ | (apply EvR.aCall h1.at_; (· exact eva); (· apply h1.ok <;> exact sid); (rintro _ _ ⟨rfl, rfl⟩; refine EvR.nrm ?_)) | ((first | refine sR ?_ ?_ | refine sC ?_ ?_) <;> (intro hb; (try rw [hb]); (try simp only [bb] at hb); (try (exfalso; first | omega | exact hb trivial)))) | (apply endS trivial; rotate_left; (· exact eva); (· rfl); try refine ⟨?_, rfl⟩) | fail)
  refine EvR.opS (by show (aIndexAddrS (σ ++ []) _ (slV be N) (.int .i64 i)).map _ = _; rw [idx_at (by rw [List.append_nil]; exact hbe) l1 hi]; rfl) ?_
  refine EvR.opN (by show (aStore (σ ++ []) _ (.pointer (some ⟨be, i, some N⟩)) (.float .f32 (fbin .mul .f32 s (sinT (phaT a b t (nr32 x) (nr32 y)))))).map _ = _; rw [st_at (by rw [List.append_nil]; exact hbe) l1 hi]; rfl) ?_
  obtain ⟨τ, hτ⟩ : ∃ τ, τ = σ.set be (rowO (E.set i (fbin .mul .f32 s (sinT (phaT a b t (nr32 x) (nr32 y)))))) := ⟨_, rfl⟩
  rw [List.append_nil, ← hτ]
  have o0 : ∀ o, o < σ.length → τ[o]? = σ[o]? ∨ ∀ obj, τ[o]? = some obj → allConst obj = true := by rw [hτ]; exact old_set fun o _ => .inl rfl
  have len0 : τ.length = σ.length := by rw [hτ, List.length_set]
  replace hph : PhaAt τ pa k a b t := by rw [hτ]; exact hph.set hbe
  replace ho : τ[po]? = some ⟨[slV be N, slV bx N, slV by_ N], 0, ro⟩ := by rw [hτ]; exact keep_set ho hbe
  replace hr : τ[pr]? = some (varF r) := by rw [hτ]; exact keep_set hr hbe
  replace hf : τ[pf]? = some (varF f) := by rw [hτ]; exact keep_set hf hbe
  replace ht : τ[pt]? = some (varF q) := by rw [hτ]; exact keep_set ht hbe
  replace hbx : τ[bx]? = some (rowO X) := by rw [hτ, List.getElem?_set_ne n1]; exact hbx
  replace hby : τ[by_]? = some (rowO Y) := by rw [hτ, List.getElem?_set_ne n2]; exact hby
  clear g1 g2 g3 p1 p2 p3 hbe hs
  obtain ⟨qa, qb, qt, p2, g1, g2, g3⟩ := hph.at_
  have p3 := PtAt.whole ho
  have p4 := PtAt.whole hr
  have p5 := PtAt.whole hf
  rw [← List.append_nil τ]
  repeat' (first | refine ff ?_ | ((first | refine sR ?_ ?_ | refine sC ?_ ?_) <;> (intro hb; (try rw [hb]); (try simp only [bb] at hb); (try (exfalso; first | omega | exact hb trivial)))) | (apply endS trivial; rotate_left; (· exact eva); (· rfl); try refine ⟨?_, rfl⟩) | fail)
  (apply EvR.aDyn hk; (· exact rfl); (· exact eva); (· exact  hc (τ ++ []) qa qb qt a b t _ _ g1 g2 g3); (rintro _ _ ⟨rfl, rfl⟩; refine EvR.nrm ?_))
  repeat' (first | refine ff ?_ | (apply EvR.aCall h1.at_; (· exact eva); (· apply h1.ok <;> exact sid); (rintro _ _ ⟨rfl, rfl⟩; refine EvR.nrm ?_)) | ((first | refine sR ?_ ?_ | refine sC ?_ ?_) <;> (intro hb; (try rw [hb]); (try simp only [bb] at hb); (try (exfalso; first | omega | exact hb trivial)))) | (apply endS trivial; rotate_left; (· exact eva); (· rfl); try refine ⟨?_, rfl⟩) | fail)
  rw [half_eq]
  refine EvR.opS (by show (aIndexAddrS (τ ++ []) _ (slV bx N) (.int .i64 i)).map _ = _; rw [idx_at (by rw [List.append_nil]; exact hbx) l2 hi]; rfl) ?_
  refine EvR.opN (by show (aStore (τ ++ []) _ (.pointer (some ⟨bx, i, some N⟩)) (.float .f32 (fbin .mul .f32 r (sinT (fbin .add .f32 (phaT a b t (nr32 x) (nrH y)) (fbin .mul .f32 f 1056964608)))))).map _ = _; rw [st_at (by rw [List.append_nil]; exact hbx) l2 hi]; rfl) ?_
  obtain ⟨ρ, hρ⟩ : ∃ ρ, ρ = τ.set bx (rowO (X.set i (fbin .mul .f32 r (sinT (fbin .add .f32 (phaT a b t (nr32 x) (nrH y)) (fbin .mul .f32 f 1056964608)))))) := ⟨_, rfl⟩
  rw [List.append_nil, ← hρ]
  have o1 : ∀ o, o < σ.length → ρ[o]? = σ[o]? ∨ ∀ obj, ρ[o]? = some obj → allConst obj = true := by rw [hρ]; exact old_set o0
  have len1 : ρ.length = σ.length := by rw [hρ, List.length_set, len0]
  replace hph : PhaAt ρ pa k a b t := by rw [hρ]; exact hph.set hbx
  replace ho : ρ[po]? = some ⟨[slV be N, slV bx N, slV by_ N], 0, ro⟩ := by rw [hρ]; exact keep_set ho hbx
  replace hf : ρ[pf]? = some (varF f) := by rw [hρ]; exact keep_set hf hbx
  replace ht : ρ[pt]? = some (varF q) := by rw [hρ]; exact keep_set ht hbx
  replace hby : ρ[by_]? = some (rowO Y) := by rw [hρ, List.getElem?_set_ne n3]; exact hby
  clear g1 g2 g3 p2 p3 p4 p5 hbx hr
  obtain ⟨qa, qb, qt, p2, g1, g2, g3⟩ := hph.at_
  have p3 := PtAt.whole ho
  have p5 := PtAt.whole hf
  have p6 := PtAt.whole ht
  rw [← List.append_nil ρ]
  repeat' (first | refine ff ?_ | ((first | refine sR ?_ ?_ | refine sC ?_ ?_) <;> (intro hb; (try rw [hb]); (try simp only [bb] at hb); (try (exfalso; first | omega | exact hb trivial)))) | (apply endS trivial; rotate_left; (· exact eva); (· rfl); try refine ⟨?_, rfl⟩) | fail)
  (apply EvR.aDyn hk; (· exact rfl); (· exact eva); (· exact  hc (ρ ++ []) qa qb qt a b t _ _ g1 g2 g3); (rintro _ _ ⟨rfl, rfl⟩; refine EvR.nrm ?_))
  repeat' (first | refine ff ?_ | (apply EvR.aCall h1.at_; (· exact eva); (· apply h1.ok <;> exact sid); (rintro _ _ ⟨rfl, rfl⟩; refine EvR.nrm ?_)) | ((first | refine sR ?_ ?_ | refine sC ?_ ?_) <;> (intro hb; (try rw [hb]); (try simp only [bb] at hb); (try (exfalso; first | omega | exact hb trivial)))) | (apply endS trivial; rotate_left; (· exact eva); (· rfl); try refine ⟨?_, rfl⟩) | fail)
  rw [half_eq]
  refine EvR.opS (by show (aIndexAddrS (ρ ++ []) _ (slV by_ N) (.int .i64 i)).map _ = _; rw [idx_at (by rw [List.append_nil]; exact hby) l3 hi]; rfl) ?_
  refine EvR.opN (by show (aStore (ρ ++ []) _ (.pointer (some ⟨by_, i, some N⟩)) (.float .f32 (Op.negFloat .f32 (fbin .mul .f32 q (sinT (fbin .add .f32 (phaT a b t (nrH x) (nr32 y)) (fbin .mul .f32 f 1056964608))))))).map _ = _; rw [st_at (by rw [List.append_nil]; exact hby) l3 hi]; rfl) ?_
  refine EvR.nil ?_
  apply atEnd_normal (v := .tuple #[])
  · rfl
  rw [List.append_nil, ← List.append_nil (List.set _ _ _)]
  exact end_mod (by rw [List.length_set, len1]) (old_set o1) rfl ⟨rfl, by rw [List.append_nil]⟩
end Go.Abs

