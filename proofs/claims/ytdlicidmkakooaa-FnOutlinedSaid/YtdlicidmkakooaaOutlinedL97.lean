/- Laws of functions: fields are drawn. Conditions: the laws of what they call. -/
import Derived.Test.YtdlicidmkakooaaOutlinedWvMD
import Derived.Test.YtdlicidmkakooaaOutlinedL96
import Derived.Test.YtdlicidmkakooaaOutlinedL88
import Derived.Test.YtdlicidmkakooaaOutlinedL57
namespace Go.Abs

set_option linter.unusedSimpArgs false
set_option linter.unusedVariables false
set_option maxHeartbeats 8000000
set_option maxRecDepth 20000
/- loop.example/g01201/spec.l02DrawField -/
def spec_l02DrawField_r0 : List SOper := [
 ⟨some 4, none, .alloc [(.slice none 0 0), (.slice none 0 0), (.slice none 0 0)], 0⟩]
def spec_l02DrawField_r1 (i_spec_l00Min i_spec_l00Max : FuncId) : List SOper := [
 ⟨some 10, none, .mov (.tmp 1), 0⟩,
 ⟨some 11, none, .nilCheck (.tmp 10), 1⟩,
 ⟨some 12, none, .fieldAddr 0 (.tmp 11), 3⟩,
 ⟨some 13, none, .load1 (.tmp 12), 7⟩,
 ⟨some 14, none, .call (.func i_spec_l00Min) [(.const (.int .i64 17)), (.tmp 13)], 15⟩,
 ⟨some 15, none, .mov (.tmp 1), 0⟩,
 ⟨some 16, none, .nilCheck (.tmp 15), 32⟩,
 ⟨some 17, none, .fieldAddr 1 (.tmp 16), 96⟩,
 ⟨some 18, none, .load1 (.tmp 17), 224⟩,
 ⟨some 19, none, .call (.func i_spec_l00Min) [(.const (.int .i64 17)), (.tmp 18)], 511⟩,
 ⟨some 20, none, .bin .mul .other (.tmp 14) (.tmp 19), 1023⟩,
 ⟨some 21, none, .call (.func i_spec_l00Min) [(.const (.int .i64 289)), (.tmp 20)], 2047⟩,
 ⟨some 22, none, .call (.func i_spec_l00Max) [(.const (.int .i64 0)), (.tmp 21)], 4095⟩,
 ⟨some 5, none, .mov (.tmp 22), 8191⟩]
def spec_l02DrawField_r2 (i_spec_l02Zero : FuncId) : List SOper := [
 ⟨some 23, none, .mov (.tmp 5), 0⟩,
 ⟨some 24, none, .call (.func i_spec_l02Zero) [(.tmp 23)], 1⟩,
 ⟨some 6, none, .alloc [(.slice none 0 0), (.slice none 0 0), (.slice none 0 0)], 0⟩,
 ⟨none, none, .store 3 (.tmp 6) (.tmp 24), 7⟩]
def spec_l02DrawField_r3 (i_spec_l00Src_pick : FuncId) : List SOper := [
 ⟨some 25, none, .mov (.tmp 0), 0⟩,
 ⟨some 26, none, .call (.func i_spec_l00Src_pick) [(.tmp 25), (.const (.int .i64 4))], 1⟩,
 ⟨some 7, none, .mov (.tmp 26), 3⟩]
def spec_l02DrawField_r4 : List SOper := [
 ⟨some 8, none, .mov (.const (.int .i64 0)), 0⟩]
def spec_l02DrawField_r5 : List SOper := [
 ⟨some 27, none, .mov (.tmp 8), 0⟩,
 ⟨some 28, none, .mov (.tmp 5), 0⟩,
 ⟨some 29, none, .bin .lss .other (.tmp 27) (.tmp 28), 3⟩]
def spec_l02DrawField_r6 (i_spec_l00Src_one : FuncId) : List SOper := [
 ⟨some 32, none, .mov (.tmp 7), 0⟩,
 ⟨some 33, none, .bin .eql .other (.tmp 32) (.const (.int .i64 0)), 1⟩,
 ⟨some 34, none, .mov (.tmp 33), 3⟩,
  ⟨(some 35), (some (34, true)), .mov (.tmp 0), 7⟩,
  ⟨(some 36), (some (34, true)), .call (.func i_spec_l00Src_one) [(.tmp 35), (.const (.int .i64 8))], 15⟩,
  ⟨(some 37), (some (34, true)), .un .not (.tmp 36), 31⟩,
 ⟨some 38, none, .pick (.tmp 34) (.tmp 37) (.const (.bool false)), 63⟩]
def spec_l02DrawField_r7 (i_spec_l00Src_pick : FuncId) : List SOper := [
 ⟨some 39, none, .fieldAddr 0 (.tmp 6), 0⟩,
 ⟨some 40, none, .load1 (.tmp 39), 1⟩,
 ⟨some 41, none, .mov (.tmp 8), 0⟩,
 ⟨some 42, none, .mov (.tmp 0), 0⟩,
 ⟨some 43, none, .call (.func i_spec_l00Src_pick) [(.tmp 42), (.const (.int .i64 17))], 8⟩,
 ⟨some 44, none, .bin .sub .other (.tmp 43) (.const (.int .i64 8)), 24⟩,
 ⟨some 45, none, .conv (.toFloat .f32) (.tmp 44), 56⟩,
 ⟨some 46, none, .bin .quo .other (.tmp 45) (.const (.float .f32 1082130432)), 120⟩,
 ⟨some 47, none, .indexAddrS 1 (.tmp 40) (.tmp 41), 255⟩,
 ⟨none, none, .store 1 (.tmp 47) (.tmp 46), 511⟩]
def spec_l02DrawField_r8 : List SOper := [
 ⟨some 48, none, .mov (.tmp 7), 0⟩,
 ⟨some 49, none, .bin .gtr .other (.tmp 48) (.const (.int .i64 1)), 1⟩]
def spec_l02DrawField_r9 (i_spec_l00Src_pick : FuncId) : List SOper := [
 ⟨some 50, none, .fieldAddr 1 (.tmp 6), 0⟩,
 ⟨some 51, none, .load1 (.tmp 50), 1⟩,
 ⟨some 52, none, .mov (.tmp 8), 0⟩,
 ⟨some 53, none, .mov (.tmp 0), 0⟩,
 ⟨some 54, none, .call (.func i_spec_l00Src_pick) [(.tmp 53), (.const (.int .i64 17))], 8⟩,
 ⟨some 55, none, .bin .sub .other (.tmp 54) (.const (.int .i64 8)), 24⟩,
 ⟨some 56, none, .conv (.toFloat .f32) (.tmp 55), 56⟩,
 ⟨some 57, none, .bin .quo .other (.tmp 56) (.const (.float .f32 1082130432)), 120⟩,
 ⟨some 58, none, .indexAddrS 1 (.tmp 51) (.tmp 52), 255⟩,
 ⟨none, none, .store 1 (.tmp 58) (.tmp 57), 511⟩]
def spec_l02DrawField_r10 (i_spec_l01DrawPlain : FuncId) : List SOper := [
 ⟨some 59, none, .fieldAddr 2 (.tmp 6), 0⟩,
 ⟨some 60, none, .load1 (.tmp 59), 1⟩,
 ⟨some 61, none, .mov (.tmp 8), 0⟩,
 ⟨some 62, none, .mov (.tmp 0), 0⟩,
 ⟨some 63, none, .call (.func i_spec_l01DrawPlain) [(.tmp 62)], 8⟩,
 ⟨some 64, none, .indexAddrS 1 (.tmp 60) (.tmp 61), 31⟩,
 ⟨none, none, .store 1 (.tmp 64) (.tmp 63), 63⟩]
def spec_l02DrawField_r11 (i_spec_l00Src_one : FuncId) : List SOper := [
 ⟨some 65, none, .mov (.tmp 7), 0⟩,
 ⟨some 66, none, .bin .eql .other (.tmp 65) (.const (.int .i64 3)), 1⟩,
 ⟨some 67, none, .mov (.tmp 66), 3⟩,
  ⟨(some 68), (some (67, true)), .mov (.tmp 0), 7⟩,
  ⟨(some 69), (some (67, true)), .call (.func i_spec_l00Src_one) [(.tmp 68), (.const (.int .i64 6))], 15⟩,
 ⟨some 70, none, .pick (.tmp 67) (.tmp 69) (.const (.bool false)), 31⟩]
def spec_l02DrawField_r12 (i_spec_l01DrawFloat : FuncId) : List SOper := [
 ⟨some 71, none, .fieldAddr 0 (.tmp 6), 0⟩,
 ⟨some 72, none, .load1 (.tmp 71), 1⟩,
 ⟨some 73, none, .mov (.tmp 8), 0⟩,
 ⟨some 74, none, .mov (.tmp 0), 0⟩,
 ⟨some 75, none, .call (.func i_spec_l01DrawFloat) [(.tmp 74)], 8⟩,
 ⟨some 76, none, .indexAddrS 1 (.tmp 72) (.tmp 73), 31⟩,
 ⟨none, none, .store 1 (.tmp 76) (.tmp 75), 63⟩]
def spec_l02DrawField_r13 : List SOper := [
 ⟨some 30, none, .mov (.tmp 8), 0⟩,
 ⟨some 31, none, .bin .add .other (.tmp 30) (.const (.int .i64 1)), 1⟩,
 ⟨some 8, none, .mov (.tmp 31), 3⟩]
def spec_l02DrawField_l14 (i_spec_l00Src_one i_spec_l00Src_pick i_spec_l01DrawPlain i_spec_l01DrawFloat : FuncId) : SCode := (.kp [0,1,4,5,6,7,8] (.seq (.seq (.region spec_l02DrawField_r5 false) (.kp [0,1,4,5,6,7,8,29] (.cond (.tmp 29) .skip (.exit 0)))) (.kp [0,1,4,5,6,7,8] (.seq (.block 1 (.seq (.seq (.region (spec_l02DrawField_r6 i_spec_l00Src_one) false) (.kp [0,1,4,5,6,7,8,38] (.cond (.tmp 38) (.exit 1) .skip))) (.kp [0,1,4,5,6,7,8] (.seq (.region (spec_l02DrawField_r7 i_spec_l00Src_pick) true) (.kp [0,1,4,5,6,7,8] (.seq (.seq (.region spec_l02DrawField_r8 false) (.kp [0,1,4,5,6,7,8,49] (.cond (.tmp 49) (.seq (.region (spec_l02DrawField_r9 i_spec_l00Src_pick) true) (.kp [0,1,4,5,6,7,8] (.region (spec_l02DrawField_r10 i_spec_l01DrawPlain) true))) .skip))) (.kp [0,1,4,5,6,7,8] (.seq (.region (spec_l02DrawField_r11 i_spec_l00Src_one) false) (.kp [0,1,4,5,6,7,8,70] (.cond (.tmp 70) (.region (spec_l02DrawField_r12 i_spec_l01DrawFloat) true) .skip)))))))))) (.kp [0,1,4,5,6,7,8] (.region spec_l02DrawField_r13 false))))))
def spec_l02DrawField_r15 (i_spec_l02Is : FuncId) : List SOper := [
 ⟨some 77, none, .mov (.tmp 1), 0⟩,
 ⟨some 78, none, .call (.func i_spec_l02Is) [(.tmp 77)], 1⟩,
 ⟨some 79, none, .un .not (.tmp 78), 3⟩,
 ⟨some 80, none, .mov (.tmp 79), 7⟩,
  ⟨(some 81), (some (80, false)), .mov (.tmp 1), 15⟩,
  ⟨(some 82), (some (80, false)), .nilCheck (.tmp 81), 31⟩,
  ⟨(some 83), (some (80, false)), .fieldAddr 2 (.tmp 82), 63⟩,
  ⟨(some 84), (some (80, false)), .load1 (.tmp 83), 127⟩,
 ⟨some 85, none, .pick (.tmp 80) (.const (.bool true)) (.tmp 84), 255⟩]
def spec_l02DrawField_r16 : List SOper := [
 ⟨some 86, none, .loadN 3 (.tmp 6), 0⟩,
 ⟨none, none, .store 3 (.tmp 4) (.tmp 86), 1⟩]
def spec_l02DrawField_r17 : List SOper := [
 ⟨some 9, none, .mov (.const (.int .i64 0)), 0⟩]
def spec_l02DrawField_r18 : List SOper := [
 ⟨some 87, none, .mov (.tmp 9), 0⟩,
 ⟨some 88, none, .mov (.tmp 5), 0⟩,
 ⟨some 89, none, .bin .lss .other (.tmp 87) (.tmp 88), 3⟩]
def spec_l02DrawField_r19 (i_spec_l02Border : FuncId) : List SOper := [
 ⟨some 92, none, .mov (.tmp 1), 0⟩,
 ⟨some 93, none, .mov (.tmp 9), 0⟩,
 ⟨some 94, none, .mov (.tmp 1), 0⟩,
 ⟨some 95, none, .nilCheck (.tmp 94), 4⟩,
 ⟨some 96, none, .fieldAddr 0 (.tmp 95), 12⟩,
 ⟨some 97, none, .load1 (.tmp 96), 28⟩,
 ⟨some 98, none, .bin .rem .other (.tmp 93) (.tmp 97), 62⟩,
 ⟨some 99, none, .mov (.tmp 9), 0⟩,
 ⟨some 100, none, .mov (.tmp 1), 0⟩,
 ⟨some 101, none, .nilCheck (.tmp 100), 256⟩,
 ⟨some 102, none, .fieldAddr 0 (.tmp 101), 768⟩,
 ⟨some 103, none, .load1 (.tmp 102), 1792⟩,
 ⟨some 104, none, .bin .quo .other (.tmp 99) (.tmp 103), 3968⟩,
 ⟨some 105, none, .call (.func i_spec_l02Border) [(.tmp 92), (.tmp 98), (.tmp 104)], 8191⟩]
def spec_l02DrawField_r20 : List SOper := [
 ⟨some 106, none, .fieldAddr 0 (.tmp 6), 0⟩,
 ⟨some 107, none, .load1 (.tmp 106), 1⟩,
 ⟨some 108, none, .mov (.tmp 9), 0⟩,
 ⟨some 109, none, .indexAddrS 1 (.tmp 107) (.tmp 108), 7⟩,
 ⟨none, none, .store 1 (.tmp 109) (.const (.float .f32 0)), 15⟩]
def spec_l02DrawField_r21 : List SOper := [
 ⟨some 110, none, .mov (.tmp 9), 0⟩,
 ⟨some 111, none, .mov (.tmp 1), 0⟩,
 ⟨some 112, none, .nilCheck (.tmp 111), 2⟩,
 ⟨some 113, none, .fieldAddr 0 (.tmp 112), 6⟩,
 ⟨some 114, none, .load1 (.tmp 113), 14⟩,
 ⟨some 115, none, .bin .quo .other (.tmp 110) (.tmp 114), 31⟩,
 ⟨some 116, none, .mov (.tmp 1), 0⟩,
 ⟨some 117, none, .nilCheck (.tmp 116), 64⟩,
 ⟨some 118, none, .fieldAddr 1 (.tmp 117), 192⟩,
 ⟨some 119, none, .load1 (.tmp 118), 448⟩,
 ⟨some 120, none, .bin .sub .other (.tmp 119) (.const (.int .i64 1)), 960⟩,
 ⟨some 121, none, .bin .eql .other (.tmp 115) (.tmp 120), 2047⟩]
def spec_l02DrawField_r22 : List SOper := [
 ⟨some 122, none, .fieldAddr 1 (.tmp 6), 0⟩,
 ⟨some 123, none, .load1 (.tmp 122), 1⟩,
 ⟨some 124, none, .mov (.tmp 9), 0⟩,
 ⟨some 125, none, .indexAddrS 1 (.tmp 123) (.tmp 124), 7⟩,
 ⟨none, none, .store 1 (.tmp 125) (.const (.float .f32 0)), 15⟩]
def spec_l02DrawField_r23 : List SOper := [
 ⟨some 126, none, .mov (.tmp 9), 0⟩,
 ⟨some 127, none, .mov (.tmp 1), 0⟩,
 ⟨some 128, none, .nilCheck (.tmp 127), 2⟩,
 ⟨some 129, none, .fieldAddr 0 (.tmp 128), 6⟩,
 ⟨some 130, none, .load1 (.tmp 129), 14⟩,
 ⟨some 131, none, .bin .rem .other (.tmp 126) (.tmp 130), 31⟩,
 ⟨some 132, none, .mov (.tmp 1), 0⟩,
 ⟨some 133, none, .nilCheck (.tmp 132), 64⟩,
 ⟨some 134, none, .fieldAddr 0 (.tmp 133), 192⟩,
 ⟨some 135, none, .load1 (.tmp 134), 448⟩,
 ⟨some 136, none, .bin .sub .other (.tmp 135) (.const (.int .i64 1)), 960⟩,
 ⟨some 137, none, .bin .eql .other (.tmp 131) (.tmp 136), 2047⟩]
def spec_l02DrawField_r24 : List SOper := [
 ⟨some 138, none, .fieldAddr 2 (.tmp 6), 0⟩,
 ⟨some 139, none, .load1 (.tmp 138), 1⟩,
 ⟨some 140, none, .mov (.tmp 9), 0⟩,
 ⟨some 141, none, .indexAddrS 1 (.tmp 139) (.tmp 140), 7⟩,
 ⟨none, none, .store 1 (.tmp 141) (.const (.float .f32 0)), 15⟩]
def spec_l02DrawField_r25 : List SOper := [
 ⟨some 90, none, .mov (.tmp 9), 0⟩,
 ⟨some 91, none, .bin .add .other (.tmp 90) (.const (.int .i64 1)), 1⟩,
 ⟨some 9, none, .mov (.tmp 91), 3⟩]
def spec_l02DrawField_l26 (i_spec_l02Border : FuncId) : SCode := (.kp [1,4,5,6,9] (.seq (.seq (.region spec_l02DrawField_r18 false) (.kp [1,4,5,6,9,89] (.cond (.tmp 89) .skip (.exit 2)))) (.kp [1,4,5,6,9] (.seq (.block 3 (.seq (.seq (.region (spec_l02DrawField_r19 i_spec_l02Border) true) (.kp [1,4,5,6,9,105] (.cond (.tmp 105) (.region spec_l02DrawField_r20 false) .skip))) (.kp [1,4,5,6,9] (.seq (.seq (.region spec_l02DrawField_r21 true) (.kp [1,4,5,6,9,121] (.cond (.tmp 121) (.region spec_l02DrawField_r22 false) .skip))) (.kp [1,4,5,6,9] (.seq (.region spec_l02DrawField_r23 true) (.kp [1,4,5,6,9,137] (.cond (.tmp 137) (.region spec_l02DrawField_r24 false) .skip)))))))) (.kp [1,4,5,6,9] (.region spec_l02DrawField_r25 false))))))
def spec_l02DrawField_r27 : List SOper := [
 ⟨some 142, none, .loadN 3 (.tmp 6), 0⟩,
 ⟨none, none, .store 3 (.tmp 4) (.tmp 142), 1⟩]
def spec_l02DrawField (i_spec_l00Min i_spec_l00Max i_spec_l02Zero i_spec_l00Src_pick i_spec_l00Src_one i_spec_l01DrawPlain i_spec_l01DrawFloat i_spec_l02Is i_spec_l02Border : FuncId) : SFunc := ⟨143, [.cellN 4 3], (.kp [0,1] (.seq (.region spec_l02DrawField_r0 false) (.kp [0,1,4] (.seq (.region (spec_l02DrawField_r1 i_spec_l00Min i_spec_l00Max) true) (.kp [0,1,4,5] (.seq (.region (spec_l02DrawField_r2 i_spec_l02Zero) false) (.kp [0,1,4,5,6] (.seq (.region (spec_l02DrawField_r3 i_spec_l00Src_pick) false) (.kp [0,1,4,5,6,7] (.seq (.seq (.region spec_l02DrawField_r4 false) (.kp [0,1,4,5,6,7,8] (.block 0 (.loop (spec_l02DrawField_l14 i_spec_l00Src_one i_spec_l00Src_pick i_spec_l01DrawPlain i_spec_l01DrawFloat))))) (.kp [1,4,5,6] (.seq (.seq (.region (spec_l02DrawField_r15 i_spec_l02Is) false) (.kp [1,4,5,6,85] (.cond (.tmp 85) (.seq (.region spec_l02DrawField_r16 false) .ret) .skip))) (.kp [1,4,5,6] (.seq (.seq (.region spec_l02DrawField_r17 false) (.kp [1,4,5,6,9] (.block 2 (.loop (spec_l02DrawField_l26 i_spec_l02Border))))) (.kp [4,6] (.seq (.region spec_l02DrawField_r27 false) .ret))))))))))))))))⟩
theorem spec_l02DrawField_r1_dr {i_spec_l00Min i_spec_l00Max : FuncId} : drawOkW wStat (spec_l02DrawField_r1 i_spec_l00Min i_spec_l00Max) = true := by kernel_rfl
attribute [push_cast] spec_l02DrawField_r1_dr
theorem spec_l02DrawField_r7_dr {i_spec_l00Src_pick : FuncId} : (drawOkT (spec_l02DrawField_r7 i_spec_l00Src_pick) && stabChk (spec_l02DrawField_r7 i_spec_l00Src_pick) 4 9) = true := by kernel_rfl
theorem spec_l02DrawField_r9_dr {i_spec_l00Src_pick : FuncId} : (drawOkT (spec_l02DrawField_r9 i_spec_l00Src_pick) && stabChk (spec_l02DrawField_r9 i_spec_l00Src_pick) 4 9) = true := by kernel_rfl
theorem spec_l02DrawField_r10_dr {i_spec_l01DrawPlain : FuncId} : (drawOkT (spec_l02DrawField_r10 i_spec_l01DrawPlain) && stabChk (spec_l02DrawField_r10 i_spec_l01DrawPlain) 4 6) = true := by kernel_rfl
theorem spec_l02DrawField_r12_dr {i_spec_l01DrawFloat : FuncId} : (drawOkT (spec_l02DrawField_r12 i_spec_l01DrawFloat) && stabChk (spec_l02DrawField_r12 i_spec_l01DrawFloat) 4 6) = true := by kernel_rfl
theorem spec_l02DrawField_r19_dr {i_spec_l02Border : FuncId} : drawOkW wStat (spec_l02DrawField_r19 i_spec_l02Border) = true := by kernel_rfl
attribute [push_cast] spec_l02DrawField_r19_dr
theorem spec_l02DrawField_r21_dr : drawOkW wStat spec_l02DrawField_r21 = true := by kernel_rfl
attribute [push_cast] spec_l02DrawField_r21_dr
theorem spec_l02DrawField_r23_dr : drawOkW wStat spec_l02DrawField_r23 = true := by kernel_rfl
attribute [push_cast] spec_l02DrawField_r23_dr
/-! A drawn region with one call that writes one object. -/
def addrsOk (b N : Nat) (F : Frame) : List Nat → Prop
  | [] => True
  | t :: ts => addrOk b N (fget F t) ∧ addrsOk b N F ts
theorem addrsOk_spec {b N : Nat} {F : Frame} : ∀ {ts : List Nat}, addrsOk b N F ts → ∀ t ∈ ts, addrOk b N (fget F t)
  | [], _, t, ht => by simp at ht
  | u :: ts, h, t, ht => by
    rcases List.mem_cons.1 ht with rfl | h'
    · exact h.1
    · exact addrsOk_spec h.2 t h'
theorem Ev.rT {C : Ctab} {F : Frame} {σ : Heap} {Q} {l : List SOper} {c m : Nat} (b : Nat) (hd : (drawOkT l && stabChk l c m) = true)
    (h1 : EvR C (l.take c) F σ fun Fc σc => addrsOk b σ.length Fc (rdSlots l) ∧ ∀ s, l[c]? = some s → ∀ v σ', evOp C Fc σc s.op = some (v, σ') → ∀ o, o < σ.length → o ≠ b → σ'[o]? = σc[o]?)
    (h2 : EvR C l F σ fun F' σ' => Q .normal F' σ') : Ev C (.region l true) F σ Q := by
  rw [Bool.and_eq_true] at hd
  refine Ev.regionT hd.1 (stabRun1 c m b σ.length hd.2 ?_) h2
  unfold EvR at h1 ⊢
  obtain ⟨F', σ', e1, e2, e3⟩ := h1
  exact ⟨F', σ', e1, addrsOk_spec e2, e3⟩
theorem stab_end {C : Ctab} {F : Frame} {σ : Heap} {l : List SOper} {c b N g n : Nat} {d : Option Nat} {args : List Operand} {cc : Contract} {as : List Value} {R : Value → Heap → Prop}
    (hl : l[c]? = some ⟨d, none, .call (.func g) args, n⟩) (hg : C g = some cc) (ha : args.map (eval F) = as) (hr : Ret cc as σ R) (hR : ∀ v σ', R v σ' → ∀ o, o < N → o ≠ b → σ'[o]? = σ[o]?) :
    ∀ s, l[c]? = some s → ∀ v σ', evOp C F σ s.op = some (v, σ') → ∀ o, o < N → o ≠ b → σ'[o]? = σ[o]? := by
  intro s hs v σ' he
  rw [hl] at hs; cases hs
  unfold Ret at hr
  obtain ⟨v2, σ2, e1, e2⟩ := hr
  have : evOp C F σ (.call (.func g) args) = some (v2, σ2) := by
    simp only [evOp, aCall, eval, hg]
    simpa [ha] using e1
  rw [this] at he; cases he
  exact hR _ _ e2

theorem in32N.set {xs : List Nat} {i y : Nat} (h : in32N xs) (hy : y < 4294967296) : in32N (xs.set i y) := fun j => by
  rw [List.getD_eq_getElem?_getD, List.getElem?_set]
  by_cases e : i = j
  · rw [if_pos e]
    split
    · exact hy
    · simp
  · rw [if_neg e, ← List.getD_eq_getElem?_getD]; exact h j
theorem in32N.zero (n : Nat) : in32N (List.replicate n 0) := fun i => by
  rw [List.getD_eq_getElem?_getD, List.getElem?_replicate]
  split <;> simp
/-! Cells at borders are cleared. -/
theorem clr_ne {A A' : List Nat} {i j : Nat} {c : Prop} (h : A' = A.set i 0 ∨ (A' = A ∧ c)) (hj : j ≠ i) : A'.getD j 0 = A.getD j 0 := by
  rcases h with rfl | ⟨rfl, _⟩
  · rw [List.getD_eq_getElem?_getD, List.getElem?_set_ne (Ne.symm hj), ← List.getD_eq_getElem?_getD]
  · rfl
theorem clr_i (A : List Nat) (i : Nat) : (A.set i 0).getD i 0 = 0 := by
  rw [List.getD_eq_getElem?_getD, List.getElem?_set_self']
  cases A[i]? <;> rfl
theorem bad_step {W H i : Nat} {E X Y E' X' Y' : List Nat} (hp : ∀ j, j < i → badC W H false E X Y ((j : Int) % W) ((j : Int) / W) j = false) (hE : E' = E.set i 0 ∨ (E' = E ∧ border W H false ((i : Int) % W) ((i : Int) / W) = false))
    (hX : X' = X.set i 0 ∨ (X' = X ∧ ¬ (i : Int) / W = H - 1)) (hY : Y' = Y.set i 0 ∨ (Y' = Y ∧ ¬ (i : Int) % W = W - 1)) : ∀ j, j < i + 1 → badC W H false E' X' Y' ((j : Int) % W) ((j : Int) / W) j = false := by
  intro j hj
  have z : feq .f32 0 0 = true := by decide +kernel
  by_cases hji : j = i
  · subst hji
    have a : (border W H false ((j : Int) % W) ((j : Int) / W) && !feq .f32 (E'.getD j 0) 0) = false := by
      rcases hE with rfl | ⟨_, h⟩
      · rw [clr_i, z]; simp
      · rw [h]; rfl
    have b : (decide ((j : Int) / W = H - 1) && !feq .f32 (X'.getD j 0) 0) = false := by
      rcases hX with rfl | ⟨_, h⟩
      · rw [clr_i, z]; simp
      · rw [decide_eq_false h]; rfl
    have c : (decide ((j : Int) % W = W - 1) && !feq .f32 (Y'.getD j 0) 0) = false := by
      rcases hY with rfl | ⟨_, h⟩
      · rw [clr_i, z]; simp
      · rw [decide_eq_false h]; rfl
    unfold badC
    rw [a, b, c]; rfl
  · have := hp j (by omega)
    unfold badC at this ⊢
    rw [clr_ne hE hji, clr_ne hX hji, clr_ne hY hji]; exact this
/-- A field whose rows lie in what is new. -/
structure FlN (H : Heap) (lo e x y : Nat) (f : Fld) : Prop where
  e_ : H[e]? = some (rowO f.e)
  x_ : H[x]? = some (rowO f.x)
  y_ : H[y]? = some (rowO f.y)
  elo : lo ≤ e
  ex : e < x
  xy : x < y
def spec_l02DrawField_ok (c : Contract) : Prop := ∀ (σ : Heap) (b bs o : Nat) (cv : Value) (code : List UInt8) (p d : Int) (W H : Nat) (wr : Bool) (sv lv : Value) (sp lo : List Nat), Src σ b cv code p d → PtAt σ bs o [.int .i64 W, .int .i64 H, .bool wr, sv, lv] → ShR σ sv lv sp lo → isSheet W H sp lo = true → 0 ≤ p → p ≤ 500000 → code.length ≤ 1048576 →
    Ret c [.pointer (some ⟨b, 0, none⟩), .pointer (some ⟨bs, o, none⟩)] σ fun v σ' => ∃ (f : Fld) (e x y : Nat) (p' d' : Int) (rub : Heap), isField W H wr sp lo f.e f.x f.y = true ∧ lowF1 f ∧ p ≤ p' ∧ p' ≤ p + 10000 ∧
      v = fV (slV e f.e.length) (slV x f.x.length) (slV y f.y.length) ∧ σ' = σ.set b (srcO cv p' d') ++ rub ∧ FlN σ' σ.length e x y f
theorem spec_l02DrawField_law {C : Ctab} {i1 i2 i3 i4 i5 i6 i7 i8 i9 : FuncId} {c1 c2 c3 c4 c5 c6 c7 c8 c9 : Contract} (h1 : Has C i1 c1 spec_l00Min_ok) (h2 : Has C i2 c2 spec_l00Max_ok) (h3 : Has C i3 c3 spec_l02Zero_ok) (h4 : HasW C i4 c4 spec_l00Src_pick_ok) (h5 : HasW C i5 c5 spec_l00Src_one_ok) (h6 : HasW C i6 c6 spec_l01DrawPlain_ok) (h7 : HasW C i7 c7 spec_l01DrawFloat_ok) (h8 : Has C i8 c8 spec_l02Is_ok) (h9 : Has C i9 c9 spec_l02Border_ok) :
    spec_l02DrawField_ok (bodyC C (spec_l02DrawField i1 i2 i3 i4 i5 i6 i7 i8 i9) false) := by
  intro σ b bs o cv code p d W H wr sv lv sp lo hs hp ⟨r1, r2⟩ hsh p0 p1 hc
  obtain ⟨a1, a2, a3, a4, q1, q2⟩ := isSheet_sides hsh
  have hN2 : W * H ≤ 256 := Nat.mul_le_mul (show W ≤ 16 by omega) (show H ≤ 16 by omega)
  have hN3 : 9 ≤ W * H := Nat.mul_le_mul (show 3 ≤ W by omega) (show 3 ≤ H by omega)
  have hWH : (W : Int) * (H : Int) = ((W * H : Nat) : Int) := (Int.natCast_mul _ _).symm
  obtain ⟨N, hN⟩ : ∃ N, W * H = N := ⟨_, rfl⟩
  rw [hN] at hN2 hN3 hWH
  have hbb : bs ≠ b := by
    rintro rfl
    obtain ⟨cells, r, g1, g2⟩ := hp
    rw [hs.at_] at g1
    cases g1
    have := congrArg List.length g2
    simp at this
    omega
  have hPt : ∀ p d, PtAt (σ.set b (srcO cv p d)) bs o [.int .i64 W, .int .i64 H, .bool wr, sv, lv] := fun p d => hp.same (List.getElem?_set_ne (Ne.symm hbb))
  have hSh : ∀ p d, ShR (σ.set b (srcO cv p d)) sv lv sp lo := fun p d => ⟨row_set r1 hs.at_, row_set r2 hs.at_⟩
  refine ret_bw rfl rfl ?_
  repeat' (first | refine ff ?_ | (apply EvR.aCall h1.at_; (· exact eva); (· apply h1.ok <;> exact sid); (rintro _ _ ⟨rfl, rfl⟩; refine EvR.nrm ?_)) | (apply EvR.aCall h2.at_; (· exact eva); (· apply h2.ok <;> exact sid); (rintro _ _ ⟨rfl, rfl⟩; refine EvR.nrm ?_)) | (apply EvR.aCall h3.at_; (· exact eva); (· apply h3.ok <;> exact sid); (rintro _ _ ⟨rfl, rfl⟩; refine EvR.nrm ?_)) | ((first | refine sR ?_ ?_ | refine sC ?_ ?_) <;> (intro hb; (try rw [hb]); (try simp only [bb] at hb); (try (exfalso; first | omega | exact hb trivial)))) | (apply endS trivial; rotate_left; (· exact eva); (· rfl); try refine ⟨?_, rfl⟩) | fail)
  have hn : max 0 (min 289 (IntKind.i64.wrap (min 17 (W : Int) * min 17 (H : Int)))) = (N : Int) := by
    rw [show min 17 (W : Int) = W from by omega, show min 17 (H : Int) = H from by omega, hWH, wrap64 (by omega) (by omega)]
    omega
  rw [hn]
  (apply EvR.aCall h3.at_; (· exact eva); (· exact  h3.ok _ N (by omega)); (rintro _ _ ⟨rfl, rfl⟩; refine EvR.nrm ?_))
  repeat' (first | refine ff ?_ | ((first | refine sR ?_ ?_ | refine sC ?_ ?_) <;> (intro hb; (try rw [hb]); (try simp only [bb] at hb); (try (exfalso; first | omega | exact hb trivial)))) | (apply endS trivial; rotate_left; (· exact eva); (· rfl); try refine ⟨?_, rfl⟩) | fail)
  apply EvR.aCall h4.at_; (· exact eva); (· exact h4.ok _ b cv code p d 4 (hs.ext _) (by omega) (by omega) hc (by omega) (by omega)); rintro _ _ ⟨kd, q1, e1, ukd0, ukd1, vq10, vq11, rfl, rfl⟩
  obtain ⟨A1, hA1⟩ : ∃ s, s = σ.set b (srcO cv q1 e1) := ⟨_, rfl⟩
  have lA1 : σ.length = A1.length := by rw [hA1, List.length_set]
  have hs1 : Src A1 b cv code q1 e1 := by rw [hA1]; exact hs.step _ _
  rw [List.set_append_left _ _ hs.lt, ← hA1, lA1]
  refine EvR.nrm ?_
  repeat' (first | refine ff ?_ | ((first | refine sR ?_ ?_ | refine sC ?_ ?_) <;> (intro hb; (try rw [hb]); (try simp only [bb] at hb); (try (exfalso; first | omega | exact hb trivial)))) | (apply endS trivial; rotate_left; (· exact eva); (· rfl); try refine ⟨?_, rfl⟩) | fail)
  have cA1 : A1 = σ.set b (srcO cv q1 e1) := hA1
  rw [cA1, List.length_set]
  refine Ev.whlH (S := Nat × (List Nat × List Nat × List Nat) × (Int × Int) × Heap) (fun st => N - st.1) (fun st => [(8, .int .i64 st.1)])
    (fun st => σ.set b (srcO cv st.2.2.1.1 st.2.2.1.2) ++ (⟨[.slice none 0 0, .slice none 0 0, .slice none 0 0], 0, true⟩ :: rowO st.2.1.1 :: rowO st.2.1.2.1 :: rowO st.2.1.2.2 :: ⟨[slV (σ.length + 1) N, slV (σ.length + 2) N, slV (σ.length + 3) N], 0, true⟩ :: st.2.2.2))
    (fun st => st.1 ≤ N ∧ st.2.1.1.length = N ∧ st.2.1.2.1.length = N ∧ st.2.1.2.2.length = N ∧ in32N st.2.1.1 ∧ in32N st.2.1.2.1 ∧ in32N st.2.1.2.2 ∧ q1 ≤ st.2.2.1.1 ∧ st.2.2.1.1 ≤ q1 + 30 * st.1)
    (0, (List.replicate N 0, List.replicate N 0, List.replicate N 0), (q1, e1), []) (by exact tF) rfl ⟨Nat.zero_le _, List.length_replicate, List.length_replicate, List.length_replicate, in32N.zero _, in32N.zero _, in32N.zero _, by dsimp only; omega, by dsimp only; omega⟩ ?_
  rintro ⟨i, ⟨E, X, Y⟩, ⟨p5, d5⟩, rub⟩ F hF ⟨hi, hE, hX, hY, nE, nX, nY, w0, w1⟩
  dsimp only at hi hF hE hX hY nE nX nY w0 w1 ⊢
  (simp only [List.cons_append, List.nil_append, ↓fget_cons, fkeep_cons, fkeep_nil, Nat.reduceEqDiff, reduceIte] at hF; subst hF)
  obtain ⟨A5, hA5⟩ : ∃ s, s = σ.set b (srcO cv p5 d5) := ⟨_, rfl⟩
  have hs5 : Src A5 b cv code p5 d5 := by rw [hA5]; exact hs.step _ _
  have lA5 : σ.length = A5.length := by rw [hA5, List.length_set]
  rw [← hA5, lA5]
  by_cases hlt : i < N
  · by_cases hk0 : kd = 0
    · repeat' (first | refine ff ?_ | ((first | refine sR ?_ ?_ | refine sC ?_ ?_) <;> (intro hb; (try rw [hb]); (try simp only [bb] at hb); (try (exfalso; first | omega | exact hb trivial)))) | (apply endS trivial; rotate_left; (· exact eva); (· rfl); try refine ⟨?_, rfl⟩) | fail)
      apply EvR.aCall h5.at_; (· exact eva); (· exact h5.ok _ b cv code p5 d5 8 (hs5.ext _) (by omega) (by omega) hc (by omega) (by omega)); rintro _ _ ⟨t6, q6, e6, vq60, vq61, rfl, rfl⟩
      obtain ⟨A6, hA6⟩ : ∃ s, s = A5.set b (srcO cv q6 e6) := ⟨_, rfl⟩
      have lA6 : A5.length = A6.length := by rw [hA6, List.length_set]
      have hs6 : Src A6 b cv code q6 e6 := by rw [hA6]; exact hs5.step _ _
      rw [List.set_append_left _ _ hs5.lt, ← hA6, lA6]
      refine EvR.nrm ?_
      cases t6
      · repeat' (first | refine ff ?_ | ((first | refine sR ?_ ?_ | refine sC ?_ ?_) <;> (intro hb; (try rw [hb]); (try simp only [bb] at hb); (try (exfalso; first | omega | exact hb trivial)))) | (apply endS trivial; rotate_left; (· exact eva); (· rfl); try refine ⟨?_, rfl⟩) | fail)
        have cB : A6 = σ.set b (srcO cv q6 e6) := by rw [hA6, hA5, List.set_set]
        rw [cB, List.length_set]
        exact ⟨(i + 1, (_, _, _), (q6, e6), _), by dsimp only; omega, by exact tF, rfl, by dsimp only; omega, by dsimp only; first | exact hE | (simp only [List.length_set]; exact hE), by dsimp only; first | exact hX | (simp only [List.length_set]; exact hX), by dsimp only; first | exact hY | (simp only [List.length_set]; exact hY), by dsimp only; first | exact nE | exact nE.set (fbin_lt _ _ _) | exact (nE.set (fbin_lt _ _ _)).set (by assumption), by dsimp only; first | exact nX | exact nX.set (fbin_lt _ _ _), by dsimp only; first | exact nY | exact nY.set (by assumption), by dsimp only; omega, by dsimp only; omega⟩
      · repeat' (first | refine ff ?_ | ((first | refine sR ?_ ?_ | refine sC ?_ ?_) <;> (intro hb; (try rw [hb]); (try simp only [bb] at hb); (try (exfalso; first | omega | exact hb trivial)))) | (apply endS trivial; rotate_left; (· exact eva); (· rfl); try refine ⟨?_, rfl⟩) | fail)
        refine Ev.rT b spec_l02DrawField_r7_dr ?_ ?_
        · have hblt := hs6.lt
          repeat' (first | refine ff ?_ | ((first | refine sR ?_ ?_ | refine sC ?_ ?_) <;> (intro hb; (try rw [hb]); (try simp only [bb] at hb); (try (exfalso; first | omega | exact hb trivial)))) | (apply endS trivial; rotate_left; (· exact eva); (· rfl); try refine ⟨?_, rfl⟩) | fail)
          refine ⟨⟨?_, ?_, trivial⟩, stab_end rfl h4.at_ ?_ (h4.ok _ b cv code q6 e6 17 (hs6.ext _) (by omega) (by omega) hc (by omega) (by omega)) ?_⟩
          · simp only [↓fget_cons, push_cast, Nat.reduceEqDiff, reduceIte]; exact ⟨by dsimp only; omega, by simp only [List.length_append, List.length_cons]; omega⟩
          · simp only [↓fget_cons, push_cast, Nat.reduceEqDiff, reduceIte]; exact ⟨by dsimp only; omega, by simp only [List.length_append, List.length_cons]; omega⟩
          · exact eva
          · rintro _ _ ⟨_, _, _, _, _, _, _, rfl, rfl⟩ o ho hob
            first | rw [List.getElem?_append_left (by rw [List.length_set]; exact ho), List.getElem?_set_ne (Ne.symm hob)] | rw [List.getElem?_set_ne (Ne.symm hob)]
        repeat' (first | refine ff ?_ | ((first | refine sR ?_ ?_ | refine sC ?_ ?_) <;> (intro hb; (try rw [hb]); (try simp only [bb] at hb); (try (exfalso; first | omega | exact hb trivial)))) | (apply endS trivial; rotate_left; (· exact eva); (· rfl); try refine ⟨?_, rfl⟩) | fail)
        apply EvR.aCall h4.at_; (· exact eva); (· exact h4.ok _ b cv code q6 e6 17 (hs6.ext _) (by omega) (by omega) hc (by omega) (by omega)); rintro _ _ ⟨rm1, pm1, dm1, urm10, urm11, vpm10, vpm11, rfl, rfl⟩
        obtain ⟨Bm1, hBm1⟩ : ∃ s, s = A6.set b (srcO cv pm1 dm1) := ⟨_, rfl⟩
        have lBm1 : A6.length = Bm1.length := by rw [hBm1, List.length_set]
        have hbm1 : Src Bm1 b cv code pm1 dm1 := by rw [hBm1]; exact hs6.step _ _
        rw [List.set_append_left _ _ hs6.lt, ← hBm1, lBm1]
        refine EvR.nrm ?_
        repeat' (first | refine ff ?_ | ((first | refine sR ?_ ?_ | refine sC ?_ ?_) <;> (intro hb; (try rw [hb]); (try simp only [bb] at hb); (try (exfalso; first | omega | exact hb trivial)))) | (apply endS trivial; rotate_left; (· exact eva); (· rfl); try refine ⟨?_, rfl⟩) | fail)
        have cB : Bm1 = σ.set b (srcO cv pm1 dm1) := by rw [hBm1, hA6, hA5, List.set_set, List.set_set]
        rw [cB, List.length_set]
        exact ⟨(i + 1, (_, _, _), (pm1, dm1), _), by dsimp only; omega, by exact tF, rfl, by dsimp only; omega, by dsimp only; first | exact hE | (simp only [List.length_set]; exact hE), by dsimp only; first | exact hX | (simp only [List.length_set]; exact hX), by dsimp only; first | exact hY | (simp only [List.length_set]; exact hY), by dsimp only; first | exact nE | exact nE.set (fbin_lt _ _ _) | exact (nE.set (fbin_lt _ _ _)).set (by assumption), by dsimp only; first | exact nX | exact nX.set (fbin_lt _ _ _), by dsimp only; first | exact nY | exact nY.set (by assumption), by dsimp only; omega, by dsimp only; omega⟩
    · repeat' (first | refine ff ?_ | ((first | refine sR ?_ ?_ | refine sC ?_ ?_) <;> (intro hb; (try rw [hb]); (try simp only [bb] at hb); (try (exfalso; first | omega | exact hb trivial)))) | (apply endS trivial; rotate_left; (· exact eva); (· rfl); try refine ⟨?_, rfl⟩) | fail)
      refine Ev.rT b spec_l02DrawField_r7_dr ?_ ?_
      · have hblt := hs5.lt
        repeat' (first | refine ff ?_ | ((first | refine sR ?_ ?_ | refine sC ?_ ?_) <;> (intro hb; (try rw [hb]); (try simp only [bb] at hb); (try (exfalso; first | omega | exact hb trivial)))) | (apply endS trivial; rotate_left; (· exact eva); (· rfl); try refine ⟨?_, rfl⟩) | fail)
        refine ⟨⟨?_, ?_, trivial⟩, stab_end rfl h4.at_ ?_ (h4.ok _ b cv code p5 d5 17 (hs5.ext _) (by omega) (by omega) hc (by omega) (by omega)) ?_⟩
        · simp only [↓fget_cons, push_cast, Nat.reduceEqDiff, reduceIte]; exact ⟨by dsimp only; omega, by simp only [List.length_append, List.length_cons]; omega⟩
        · simp only [↓fget_cons, push_cast, Nat.reduceEqDiff, reduceIte]; exact ⟨by dsimp only; omega, by simp only [List.length_append, List.length_cons]; omega⟩
        · exact eva
        · rintro _ _ ⟨_, _, _, _, _, _, _, rfl, rfl⟩ o ho hob
          first | rw [List.getElem?_append_left (by rw [List.length_set]; exact ho), List.getElem?_set_ne (Ne.symm hob)] | rw [List.getElem?_set_ne (Ne.symm hob)]
      repeat' (first | refine ff ?_ | ((first | refine sR ?_ ?_ | refine sC ?_ ?_) <;> (intro hb; (try rw [hb]); (try simp only [bb] at hb); (try (exfalso; first | omega | exact hb trivial)))) | (apply endS trivial; rotate_left; (· exact eva); (· rfl); try refine ⟨?_, rfl⟩) | fail)
      apply EvR.aCall h4.at_; (· exact eva); (· exact h4.ok _ b cv code p5 d5 17 (hs5.ext _) (by omega) (by omega) hc (by omega) (by omega)); rintro _ _ ⟨rn1, pn1, dn1, urn10, urn11, vpn10, vpn11, rfl, rfl⟩
      obtain ⟨Bn1, hBn1⟩ : ∃ s, s = A5.set b (srcO cv pn1 dn1) := ⟨_, rfl⟩
      have lBn1 : A5.length = Bn1.length := by rw [hBn1, List.length_set]
      have hbn1 : Src Bn1 b cv code pn1 dn1 := by rw [hBn1]; exact hs5.step _ _
      rw [List.set_append_left _ _ hs5.lt, ← hBn1, lBn1]
      refine EvR.nrm ?_
      by_cases hk1 : 1 < kd
      · repeat' (first | refine ff ?_ | ((first | refine sR ?_ ?_ | refine sC ?_ ?_) <;> (intro hb; (try rw [hb]); (try simp only [bb] at hb); (try (exfalso; first | omega | exact hb trivial)))) | (apply endS trivial; rotate_left; (· exact eva); (· rfl); try refine ⟨?_, rfl⟩) | fail)
        refine Ev.rT b spec_l02DrawField_r9_dr ?_ ?_
        · have hblt := hbn1.lt
          repeat' (first | refine ff ?_ | ((first | refine sR ?_ ?_ | refine sC ?_ ?_) <;> (intro hb; (try rw [hb]); (try simp only [bb] at hb); (try (exfalso; first | omega | exact hb trivial)))) | (apply endS trivial; rotate_left; (· exact eva); (· rfl); try refine ⟨?_, rfl⟩) | fail)
          refine ⟨⟨?_, ?_, trivial⟩, stab_end rfl h4.at_ ?_ (h4.ok _ b cv code pn1 dn1 17 (hbn1.ext _) (by omega) (by omega) hc (by omega) (by omega)) ?_⟩
          · simp only [↓fget_cons, push_cast, Nat.reduceEqDiff, reduceIte]; exact ⟨by dsimp only; omega, by simp only [List.length_append, List.length_cons]; omega⟩
          · simp only [↓fget_cons, push_cast, Nat.reduceEqDiff, reduceIte]; exact ⟨by dsimp only; omega, by simp only [List.length_append, List.length_cons]; omega⟩
          · exact eva
          · rintro _ _ ⟨_, _, _, _, _, _, _, rfl, rfl⟩ o ho hob
            first | rw [List.getElem?_append_left (by rw [List.length_set]; exact ho), List.getElem?_set_ne (Ne.symm hob)] | rw [List.getElem?_set_ne (Ne.symm hob)]
        repeat' (first | refine ff ?_ | ((first | refine sR ?_ ?_ | refine sC ?_ ?_) <;> (intro hb; (try rw [hb]); (try simp only [bb] at hb); (try (exfalso; first | omega | exact hb trivial)))) | (apply endS trivial; rotate_left; (· exact eva); (· rfl); try refine ⟨?_, rfl⟩) | fail)
        apply EvR.aCall h4.at_; (· exact eva); (· exact h4.ok _ b cv code pn1 dn1 17 (hbn1.ext _) (by omega) (by omega) hc (by omega) (by omega)); rintro _ _ ⟨rn2, pn2, dn2, urn20, urn21, vpn20, vpn21, rfl, rfl⟩
        obtain ⟨Bn2, hBn2⟩ : ∃ s, s = Bn1.set b (srcO cv pn2 dn2) := ⟨_, rfl⟩
        have lBn2 : Bn1.length = Bn2.length := by rw [hBn2, List.length_set]
        have hbn2 : Src Bn2 b cv code pn2 dn2 := by rw [hBn2]; exact hbn1.step _ _
        rw [List.set_append_left _ _ hbn1.lt, ← hBn2, lBn2]
        refine EvR.nrm ?_
        repeat' (first | refine ff ?_ | ((first | refine sR ?_ ?_ | refine sC ?_ ?_) <;> (intro hb; (try rw [hb]); (try simp only [bb] at hb); (try (exfalso; first | omega | exact hb trivial)))) | (apply endS trivial; rotate_left; (· exact eva); (· rfl); try refine ⟨?_, rfl⟩) | fail)
        refine Ev.rT b spec_l02DrawField_r10_dr ?_ ?_
        · have hblt := hbn2.lt
          repeat' (first | refine ff ?_ | ((first | refine sR ?_ ?_ | refine sC ?_ ?_) <;> (intro hb; (try rw [hb]); (try simp only [bb] at hb); (try (exfalso; first | omega | exact hb trivial)))) | (apply endS trivial; rotate_left; (· exact eva); (· rfl); try refine ⟨?_, rfl⟩) | fail)
          refine ⟨⟨?_, ?_, trivial⟩, stab_end rfl h6.at_ ?_ (h6.ok _ b cv code pn2 dn2 (hbn2.ext _) (by omega) (by omega) hc) ?_⟩
          · simp only [↓fget_cons, push_cast, Nat.reduceEqDiff, reduceIte]; exact ⟨by dsimp only; omega, by simp only [List.length_append, List.length_cons]; omega⟩
          · simp only [↓fget_cons, push_cast, Nat.reduceEqDiff, reduceIte]; exact ⟨by dsimp only; omega, by simp only [List.length_append, List.length_cons]; omega⟩
          · exact eva
          · rintro _ _ ⟨_, _, _, _, _, _, _, rfl, rfl⟩ o ho hob
            first | rw [List.getElem?_append_left (by rw [List.length_set]; exact ho), List.getElem?_set_ne (Ne.symm hob)] | rw [List.getElem?_set_ne (Ne.symm hob)]
        repeat' (first | refine ff ?_ | ((first | refine sR ?_ ?_ | refine sC ?_ ?_) <;> (intro hb; (try rw [hb]); (try simp only [bb] at hb); (try (exfalso; first | omega | exact hb trivial)))) | (apply endS trivial; rotate_left; (· exact eva); (· rfl); try refine ⟨?_, rfl⟩) | fail)
        apply EvR.aCall h6.at_; (· exact eva); (· exact h6.ok _ b cv code pn2 dn2 (hbn2.ext _) (by omega) (by omega) hc); rintro _ _ ⟨yn3, pn3, dn3, rbyn3, hyn3, vpn30, vpn31, rfl, rfl⟩
        obtain ⟨Bn3, hBn3⟩ : ∃ s, s = Bn2.set b (srcO cv pn3 dn3) := ⟨_, rfl⟩
        have lBn3 : Bn2.length = Bn3.length := by rw [hBn3, List.length_set]
        have hbn3 : Src Bn3 b cv code pn3 dn3 := by rw [hBn3]; exact hbn2.step _ _
        rw [List.set_append_left _ _ hbn2.lt, ← hBn3, lBn3]
        refine EvR.nrm ?_
        by_cases hk3 : kd = 3
        · repeat' (first | refine ff ?_ | ((first | refine sR ?_ ?_ | refine sC ?_ ?_) <;> (intro hb; (try rw [hb]); (try simp only [bb] at hb); (try (exfalso; first | omega | exact hb trivial)))) | (apply endS trivial; rotate_left; (· exact eva); (· rfl); try refine ⟨?_, rfl⟩) | fail)
          apply EvR.aCall h5.at_; (· exact eva); (· exact h5.ok _ b cv code pn3 dn3 6 (hbn3.ext _) (by omega) (by omega) hc (by omega) (by omega)); rintro _ _ ⟨tn4, pn4, dn4, vpn40, vpn41, rfl, rfl⟩
          obtain ⟨Bn4, hBn4⟩ : ∃ s, s = Bn3.set b (srcO cv pn4 dn4) := ⟨_, rfl⟩
          have lBn4 : Bn3.length = Bn4.length := by rw [hBn4, List.length_set]
          have hbn4 : Src Bn4 b cv code pn4 dn4 := by rw [hBn4]; exact hbn3.step _ _
          rw [List.set_append_left _ _ hbn3.lt, ← hBn4, lBn4]
          refine EvR.nrm ?_
          cases tn4
          · repeat' (first | refine ff ?_ | ((first | refine sR ?_ ?_ | refine sC ?_ ?_) <;> (intro hb; (try rw [hb]); (try simp only [bb] at hb); (try (exfalso; first | omega | exact hb trivial)))) | (apply endS trivial; rotate_left; (· exact eva); (· rfl); try refine ⟨?_, rfl⟩) | fail)
            have cB : Bn4 = σ.set b (srcO cv pn4 dn4) := by rw [hBn4, hBn3, hBn2, hBn1, hA5, List.set_set, List.set_set, List.set_set, List.set_set]
            rw [cB, List.length_set]
            exact ⟨(i + 1, (_, _, _), (pn4, dn4), _), by dsimp only; omega, by exact tF, rfl, by dsimp only; omega, by dsimp only; first | exact hE | (simp only [List.length_set]; exact hE), by dsimp only; first | exact hX | (simp only [List.length_set]; exact hX), by dsimp only; first | exact hY | (simp only [List.length_set]; exact hY), by dsimp only; first | exact nE | exact nE.set (fbin_lt _ _ _) | exact (nE.set (fbin_lt _ _ _)).set (by assumption), by dsimp only; first | exact nX | exact nX.set (fbin_lt _ _ _), by dsimp only; first | exact nY | exact nY.set (by assumption), by dsimp only; omega, by dsimp only; omega⟩
          · repeat' (first | refine ff ?_ | ((first | refine sR ?_ ?_ | refine sC ?_ ?_) <;> (intro hb; (try rw [hb]); (try simp only [bb] at hb); (try (exfalso; first | omega | exact hb trivial)))) | (apply endS trivial; rotate_left; (· exact eva); (· rfl); try refine ⟨?_, rfl⟩) | fail)
            refine Ev.rT b spec_l02DrawField_r12_dr ?_ ?_
            · have hblt := hbn4.lt
              repeat' (first | refine ff ?_ | ((first | refine sR ?_ ?_ | refine sC ?_ ?_) <;> (intro hb; (try rw [hb]); (try simp only [bb] at hb); (try (exfalso; first | omega | exact hb trivial)))) | (apply endS trivial; rotate_left; (· exact eva); (· rfl); try refine ⟨?_, rfl⟩) | fail)
              refine ⟨⟨?_, ?_, trivial⟩, stab_end rfl h7.at_ ?_ (h7.ok _ b cv code pn4 dn4 (hbn4.ext _) (by omega) (by omega) hc) ?_⟩
              · simp only [↓fget_cons, push_cast, Nat.reduceEqDiff, reduceIte]; exact ⟨by dsimp only; omega, by simp only [List.length_append, List.length_cons]; omega⟩
              · simp only [↓fget_cons, push_cast, Nat.reduceEqDiff, reduceIte]; exact ⟨by dsimp only; omega, by simp only [List.length_append, List.length_cons]; omega⟩
              · exact eva
              · rintro _ _ ⟨_, _, _, _, _, _, _, rfl, rfl⟩ o ho hob
                first | rw [List.getElem?_append_left (by rw [List.length_set]; exact ho), List.getElem?_set_ne (Ne.symm hob)] | rw [List.getElem?_set_ne (Ne.symm hob)]
            repeat' (first | refine ff ?_ | ((first | refine sR ?_ ?_ | refine sC ?_ ?_) <;> (intro hb; (try rw [hb]); (try simp only [bb] at hb); (try (exfalso; first | omega | exact hb trivial)))) | (apply endS trivial; rotate_left; (· exact eva); (· rfl); try refine ⟨?_, rfl⟩) | fail)
            apply EvR.aCall h7.at_; (· exact eva); (· exact h7.ok _ b cv code pn4 dn4 (hbn4.ext _) (by omega) (by omega) hc); rintro _ _ ⟨yn5, pn5, dn5, rbyn5, hyn5, vpn50, vpn51, rfl, rfl⟩
            obtain ⟨Bn5, hBn5⟩ : ∃ s, s = Bn4.set b (srcO cv pn5 dn5) := ⟨_, rfl⟩
            have lBn5 : Bn4.length = Bn5.length := by rw [hBn5, List.length_set]
            have hbn5 : Src Bn5 b cv code pn5 dn5 := by rw [hBn5]; exact hbn4.step _ _
            rw [List.set_append_left _ _ hbn4.lt, ← hBn5, lBn5]
            refine EvR.nrm ?_
            repeat' (first | refine ff ?_ | ((first | refine sR ?_ ?_ | refine sC ?_ ?_) <;> (intro hb; (try rw [hb]); (try simp only [bb] at hb); (try (exfalso; first | omega | exact hb trivial)))) | (apply endS trivial; rotate_left; (· exact eva); (· rfl); try refine ⟨?_, rfl⟩) | fail)
            have cB : Bn5 = σ.set b (srcO cv pn5 dn5) := by rw [hBn5, hBn4, hBn3, hBn2, hBn1, hA5, List.set_set, List.set_set, List.set_set, List.set_set, List.set_set]
            rw [cB, List.length_set]
            exact ⟨(i + 1, (_, _, _), (pn5, dn5), _), by dsimp only; omega, by exact tF, rfl, by dsimp only; omega, by dsimp only; first | exact hE | (simp only [List.length_set]; exact hE), by dsimp only; first | exact hX | (simp only [List.length_set]; exact hX), by dsimp only; first | exact hY | (simp only [List.length_set]; exact hY), by dsimp only; first | exact nE | exact nE.set (fbin_lt _ _ _) | exact (nE.set (fbin_lt _ _ _)).set (by assumption), by dsimp only; first | exact nX | exact nX.set (fbin_lt _ _ _), by dsimp only; first | exact nY | exact nY.set (by assumption), by dsimp only; omega, by dsimp only; omega⟩
        · repeat' (first | refine ff ?_ | ((first | refine sR ?_ ?_ | refine sC ?_ ?_) <;> (intro hb; (try rw [hb]); (try simp only [bb] at hb); (try (exfalso; first | omega | exact hb trivial)))) | (apply endS trivial; rotate_left; (· exact eva); (· rfl); try refine ⟨?_, rfl⟩) | fail)
          have cB : Bn3 = σ.set b (srcO cv pn3 dn3) := by rw [hBn3, hBn2, hBn1, hA5, List.set_set, List.set_set, List.set_set]
          rw [cB, List.length_set]
          exact ⟨(i + 1, (_, _, _), (pn3, dn3), _), by dsimp only; omega, by exact tF, rfl, by dsimp only; omega, by dsimp only; first | exact hE | (simp only [List.length_set]; exact hE), by dsimp only; first | exact hX | (simp only [List.length_set]; exact hX), by dsimp only; first | exact hY | (simp only [List.length_set]; exact hY), by dsimp only; first | exact nE | exact nE.set (fbin_lt _ _ _) | exact (nE.set (fbin_lt _ _ _)).set (by assumption), by dsimp only; first | exact nX | exact nX.set (fbin_lt _ _ _), by dsimp only; first | exact nY | exact nY.set (by assumption), by dsimp only; omega, by dsimp only; omega⟩
      · repeat' (first | refine ff ?_ | ((first | refine sR ?_ ?_ | refine sC ?_ ?_) <;> (intro hb; (try rw [hb]); (try simp only [bb] at hb); (try (exfalso; first | omega | exact hb trivial)))) | (apply endS trivial; rotate_left; (· exact eva); (· rfl); try refine ⟨?_, rfl⟩) | fail)
        have cB : Bn1 = σ.set b (srcO cv pn1 dn1) := by rw [hBn1, hA5, List.set_set]
        rw [cB, List.length_set]
        exact ⟨(i + 1, (_, _, _), (pn1, dn1), _), by dsimp only; omega, by exact tF, rfl, by dsimp only; omega, by dsimp only; first | exact hE | (simp only [List.length_set]; exact hE), by dsimp only; first | exact hX | (simp only [List.length_set]; exact hX), by dsimp only; first | exact hY | (simp only [List.length_set]; exact hY), by dsimp only; first | exact nE | exact nE.set (fbin_lt _ _ _) | exact (nE.set (fbin_lt _ _ _)).set (by assumption), by dsimp only; first | exact nX | exact nX.set (fbin_lt _ _ _), by dsimp only; first | exact nY | exact nY.set (by assumption), by dsimp only; omega, by dsimp only; omega⟩
  · obtain rfl : i = N := by omega
    have hp5 := hPt p5 d5
    have hq5 := hSh p5 d5
    rw [← hA5] at hp5 hq5
    obtain ⟨s1, s2⟩ := hq5
    have hspl : sp.length ≤ 1048576 := by omega
    have hlol : lo.length ≤ 1048576 := by omega
    have hfi : ∀ E X Y : List Nat, fits W H wr E X Y = true → isField W H wr sp lo E X Y = true := fun E X Y h => by
      unfold isField; rw [hsh]; exact h
    cases wr
    · repeat' (first | refine ff ?_ | (apply EvR.aCall h8.at_; (· exact eva); (· apply h8.ok <;> exact sid); (rintro _ _ ⟨rfl, rfl⟩; refine EvR.nrm ?_; try simp only [hsh])) | ((first | refine sR ?_ ?_ | refine sC ?_ ?_) <;> (intro hb; (try rw [hb]); (try simp only [bb] at hb); (try (exfalso; first | omega | exact hb trivial)))) | (apply endS trivial; rotate_left; (· exact eva); (· rfl); try refine ⟨?_, rfl⟩) | fail)
      refine Ev.whlH (S := Nat × List Nat × List Nat × List Nat) (fun st => i - st.1) (fun st => [(9, .int .i64 st.1)])
        (fun st => A5 ++ (⟨[.slice none 0 0, .slice none 0 0, .slice none 0 0], 0, true⟩ :: rowO st.2.1 :: rowO st.2.2.1 :: rowO st.2.2.2 :: ⟨[slV (A5.length + 1) i, slV (A5.length + 2) i, slV (A5.length + 3) i], 0, true⟩ :: rub))
        (fun st => st.1 ≤ i ∧ st.2.1.length = i ∧ st.2.2.1.length = i ∧ st.2.2.2.length = i ∧ in32N st.2.1 ∧ in32N st.2.2.1 ∧ in32N st.2.2.2 ∧ ∀ j, j < st.1 → badC W H false st.2.1 st.2.2.1 st.2.2.2 ((j : Int) % W) ((j : Int) / W) j = false)
        (0, E, X, Y) (by exact tF) rfl ⟨Nat.zero_le _, hE, hX, hY, nE, nX, nY, fun j hj => absurd hj (Nat.not_lt_zero j)⟩ ?_
      rintro ⟨k, E, X, Y⟩ F hF ⟨hk, hE, hX, hY, nE, nX, nY, hbad⟩
      dsimp only at hk hF hE hX hY nE nX nY hbad ⊢
      (simp only [List.cons_append, List.nil_append, ↓fget_cons, fkeep_cons, fkeep_nil, Nat.reduceEqDiff, reduceIte] at hF; subst hF)
      by_cases hlt2 : k < i
      · obtain ⟨d1, d2, d3, d4⟩ := cell_bd2 (show k < W * H by omega) (by omega)
        have z0 : 0 < 4294967296 := by omega
        cases hbd : border W H false ((k : Int) % W) ((k : Int) / W) <;> by_cases hcy : (k : Int) / W = H - 1 <;> by_cases hcx : (k : Int) % W = W - 1
        all_goals
          repeat' (first | refine ff ?_ | (apply EvR.aCall h9.at_; (· exact eva); (· apply h9.ok <;> exact sid); (rintro _ _ ⟨rfl, rfl⟩; refine EvR.nrm ?_; try simp only [hbd])) | ((first | refine sR ?_ ?_ | refine sC ?_ ?_) <;> (intro hb; (try rw [hb]); (try simp only [bb] at hb); (try (exfalso; first | omega | exact hb trivial)))) | (apply endS trivial; rotate_left; (· exact eva); (· rfl); try refine ⟨?_, rfl⟩) | fail)
          exact ⟨(k + 1, _, _, _), by dsimp only; omega, by exact tF, rfl, by dsimp only; omega, by dsimp only; first | exact hE | (rw [List.length_set]; exact hE), by dsimp only; first | exact hX | (rw [List.length_set]; exact hX), by dsimp only; first | exact hY | (rw [List.length_set]; exact hY), by dsimp only; first | exact nE | exact nE.set z0, by dsimp only; first | exact nX | exact nX.set z0, by dsimp only; first | exact nY | exact nY.set z0, bad_step hbad (by first | exact Or.inr ⟨rfl, hbd⟩ | exact Or.inl rfl) (by first | exact Or.inr ⟨rfl, hcy⟩ | exact Or.inl rfl) (by first | exact Or.inr ⟨rfl, hcx⟩ | exact Or.inl rfl)⟩
      · obtain rfl : k = i := by omega
        repeat' (first | refine ff ?_ | ((first | refine sR ?_ ?_ | refine sC ?_ ?_) <;> (intro hb; (try rw [hb]); (try simp only [bb] at hb); (try (exfalso; first | omega | exact hb trivial)))) | (apply endS trivial; rotate_left; (· exact eva); (· rfl); try refine ⟨?_, rfl⟩) | fail)
        apply atEnd_ret
        · exact eva
        · exact ⟨⟨E, X, Y⟩, A5.length + 1, A5.length + 2, A5.length + 3, p5, d5, _, hfi E X Y (fits_ok (by omega) (by omega) (by omega) fun j hj => hbad j (by omega)), ⟨nE, nX, nY⟩, by omega, by omega, by dsimp only; rw [hE, hX, hY], by rw [← hA5], ⟨hget _ _ 1, hget _ _ 2, hget _ _ 3, by omega, by omega, by omega⟩⟩
    · repeat' (first | refine ff ?_ | (apply EvR.aCall h8.at_; (· exact eva); (· apply h8.ok <;> exact sid); (rintro _ _ ⟨rfl, rfl⟩; refine EvR.nrm ?_; try simp only [hsh])) | ((first | refine sR ?_ ?_ | refine sC ?_ ?_) <;> (intro hb; (try rw [hb]); (try simp only [bb] at hb); (try (exfalso; first | omega | exact hb trivial)))) | (apply endS trivial; rotate_left; (· exact eva); (· rfl); try refine ⟨?_, rfl⟩) | fail)
      apply atEnd_ret
      · exact eva
      · exact ⟨⟨E, X, Y⟩, A5.length + 1, A5.length + 2, A5.length + 3, p5, d5, _, hfi E X Y (by unfold fits; rw [decide_eq_true (show E.length = W * H by omega), decide_eq_true (show X.length = W * H by omega), decide_eq_true (show Y.length = W * H by omega)]; rfl), ⟨nE, nX, nY⟩, by omega, by omega, by dsimp only; rw [hE, hX, hY], by rw [← hA5], ⟨hget _ _ 1, hget _ _ 2, hget _ _ 3, by omega, by omega, by omega⟩⟩
end Go.Abs

