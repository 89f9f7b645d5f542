/- Law of a row's function: TravelField. Conditions: the laws of what it calls. -/
import Derived.Test.YtdlicidmkakooaaExactTravelFieldL27
import Derived.Test.YtdlicidmkakooaaExactTravelFieldL141
import Derived.Test.YtdlicidmkakooaaExactTravelFieldL34
namespace Go.Abs

set_option linter.unusedSimpArgs false
set_option linter.unusedVariables false
set_option maxHeartbeats 16000000
set_option maxRecDepth 100000
/- loop.example/g01201/laws.FnExactTravelField -/
def laws_FnExactTravelField_r0 : List SOper := [
 ⟨some 5, none, .box (.tmp 0), 0⟩,
 ⟨some 10, none, .mov (.const (.bool false)), 0⟩]
def laws_FnExactTravelField_r1 : List SOper := [
 ⟨some 11, none, .mov (.const (.int .i64 1048576)), 0⟩]
def laws_FnExactTravelField_r2 (i_laws_szSheet : FuncId) : List SOper := [
 ⟨some 22, none, .loadN 5 (.tmp 5), 0⟩,
 ⟨some 23, none, .mov (.tmp 11), 0⟩,
 ⟨some 24, none, .call (.func i_laws_szSheet) [(.tmp 22), (.tmp 23)], 3⟩,
 ⟨some 11, none, .mov (.tmp 24), 7⟩]
def laws_FnExactTravelField_r3 : List SOper := [
 ⟨some 25, none, .mov (.tmp 11), 0⟩,
 ⟨some 26, none, .bin .lss .other (.tmp 25) (.const (.int .i64 0)), 1⟩]
def laws_FnExactTravelField_r4 : List SOper := [
 ⟨some 10, none, .mov (.const (.bool true)), 0⟩]
def laws_FnExactTravelField_r5 (i_laws_toSheet i_spec_TravelField : FuncId) : List SOper := [
 ⟨some 28, none, .loadN 5 (.tmp 5), 0⟩,
 ⟨some 29, none, .call (.func i_laws_toSheet) [(.tmp 28)], 1⟩,
 ⟨some 30, none, .mov (.tmp 1), 0⟩,
 ⟨some 31, none, .mov (.tmp 2), 0⟩,
 ⟨some 32, none, .mov (.tmp 3), 0⟩,
 ⟨some 33, none, .mov (.tmp 4), 0⟩,
 ⟨some 34, none, .call (.func i_spec_TravelField) [(.tmp 29), (.tmp 30), (.tmp 31), (.tmp 32), (.tmp 33)], 63⟩,
 ⟨some 27, none, .mov (.tmp 34), 127⟩,
 ⟨some 35, none, .extract (.tmp 27) 0, 255⟩,
 ⟨some 36, none, .extract (.tmp 27) 1, 255⟩,
 ⟨some 12, none, .alloc [(.slice none 0 0), (.slice none 0 0), (.slice none 0 0)], 0⟩,
 ⟨none, none, .store 3 (.tmp 12) (.tmp 35), 1535⟩,
 ⟨some 13, none, .mov (.tmp 36), 4095⟩]
def laws_FnExactTravelField_r6 (i_laws_toSheet : FuncId) : List SOper := [
 ⟨some 37, none, .loadN 5 (.tmp 5), 0⟩,
 ⟨some 38, none, .call (.func i_laws_toSheet) [(.tmp 37)], 1⟩,
 ⟨some 14, none, .alloc [(.int .i64 0), (.int .i64 0), (.bool false), (.slice none 0 0), (.slice none 0 0)], 0⟩,
 ⟨none, none, .store 5 (.tmp 14) (.tmp 38), 7⟩]
def laws_FnExactTravelField_r7 (i_impl_TravelField : FuncId) : List SOper := [
 ⟨some 40, none, .loadN 5 (.tmp 14), 0⟩,
 ⟨some 41, none, .mov (.tmp 1), 0⟩,
 ⟨some 42, none, .mov (.tmp 2), 0⟩,
 ⟨some 43, none, .mov (.tmp 3), 0⟩,
 ⟨some 44, none, .mov (.tmp 4), 0⟩,
 ⟨some 45, none, .call (.func i_impl_TravelField) [(.tmp 40), (.tmp 41), (.tmp 42), (.tmp 43), (.tmp 44)], 31⟩,
 ⟨some 39, none, .mov (.tmp 45), 63⟩,
 ⟨some 46, none, .extract (.tmp 39) 0, 127⟩,
 ⟨some 47, none, .extract (.tmp 39) 1, 127⟩,
 ⟨some 15, none, .alloc [(.slice none 0 0), (.slice none 0 0), (.slice none 0 0)], 0⟩,
 ⟨none, none, .store 3 (.tmp 15) (.tmp 46), 767⟩,
 ⟨some 16, none, .mov (.tmp 47), 2047⟩]
def laws_FnExactTravelField_r8 (i_laws_eqField : FuncId) : List SOper := [
 ⟨some 48, none, .loadN 3 (.tmp 15), 0⟩,
 ⟨some 49, none, .loadN 3 (.tmp 12), 0⟩,
 ⟨some 50, none, .call (.func i_laws_eqField) [(.tmp 48), (.tmp 49)], 3⟩,
 ⟨some 51, none, .un .not (.tmp 50), 7⟩,
 ⟨some 52, none, .mov (.tmp 51), 15⟩,
  ⟨(some 53), (some (52, false)), .mov (.tmp 16), 31⟩,
  ⟨(some 54), (some (52, false)), .mov (.tmp 13), 31⟩,
  ⟨(some 55), (some (52, false)), .bin .neq .bool (.tmp 53) (.tmp 54), 127⟩,
 ⟨some 56, none, .pick (.tmp 52) (.const (.bool true)) (.tmp 55), 255⟩]
def laws_FnExactTravelField_r9 : List SOper := [
 ⟨some 10, none, .mov (.const (.bool false)), 0⟩]
def laws_FnExactTravelField_r10 (i_laws_toSheet i_laws_eqSheet : FuncId) : List SOper := [
 ⟨some 57, none, .loadN 5 (.tmp 14), 0⟩,
 ⟨some 58, none, .loadN 5 (.tmp 5), 0⟩,
 ⟨some 59, none, .call (.func i_laws_toSheet) [(.tmp 58)], 2⟩,
 ⟨some 60, none, .call (.func i_laws_eqSheet) [(.tmp 57), (.tmp 59)], 7⟩,
 ⟨some 61, none, .un .not (.tmp 60), 15⟩]
def laws_FnExactTravelField_r11 : List SOper := [
 ⟨some 10, none, .mov (.const (.bool false)), 0⟩]
def laws_FnExactTravelField_r12 : List SOper := [
 ⟨some 17, none, .mov (.const (.int .i64 1)), 0⟩]
def laws_FnExactTravelField_r13 (i_laws_markSheet : FuncId) : List SOper := [
 ⟨some 62, none, .loadN 5 (.tmp 14), 0⟩,
 ⟨some 63, none, .mov (.tmp 17), 0⟩,
 ⟨some 64, none, .call (.func i_laws_markSheet) [(.tmp 62), (.tmp 63)], 3⟩,
 ⟨some 17, none, .mov (.tmp 64), 7⟩]
def laws_FnExactTravelField_r14 (i_laws_eqField : FuncId) : List SOper := [
 ⟨some 65, none, .mov (.tmp 17), 0⟩,
 ⟨some 66, none, .bin .lss .other (.tmp 65) (.const (.int .i64 0)), 1⟩,
 ⟨some 67, none, .mov (.tmp 66), 3⟩,
  ⟨(some 68), (some (67, false)), .loadN 3 (.tmp 15), 7⟩,
  ⟨(some 69), (some (67, false)), .loadN 3 (.tmp 12), 7⟩,
  ⟨(some 70), (some (67, false)), .call (.func i_laws_eqField) [(.tmp 68), (.tmp 69)], 31⟩,
  ⟨(some 71), (some (67, false)), .un .not (.tmp 70), 63⟩,
 ⟨some 72, none, .pick (.tmp 67) (.const (.bool true)) (.tmp 71), 127⟩,
 ⟨some 73, none, .mov (.tmp 72), 255⟩,
  ⟨(some 74), (some (73, false)), .mov (.tmp 16), 511⟩,
  ⟨(some 75), (some (73, false)), .mov (.tmp 13), 511⟩,
  ⟨(some 76), (some (73, false)), .bin .neq .bool (.tmp 74) (.tmp 75), 2047⟩,
 ⟨some 77, none, .pick (.tmp 73) (.const (.bool true)) (.tmp 76), 4095⟩]
def laws_FnExactTravelField_r15 : List SOper := [
 ⟨some 10, none, .mov (.const (.bool false)), 0⟩]
def laws_FnExactTravelField_r16 : List SOper := [
 ⟨some 18, none, .mov (.const (.int .i64 1)), 0⟩]
def laws_FnExactTravelField_r17 (i_laws_markField : FuncId) : List SOper := [
 ⟨some 78, none, .loadN 3 (.tmp 15), 0⟩,
 ⟨some 79, none, .mov (.tmp 18), 0⟩,
 ⟨some 80, none, .call (.func i_laws_markField) [(.tmp 78), (.tmp 79)], 3⟩,
 ⟨some 18, none, .mov (.tmp 80), 7⟩]
def laws_FnExactTravelField_r18 : List SOper := [
 ⟨some 19, none, .mov (.const (.int .i64 1)), 0⟩]
def laws_FnExactTravelField_r19 (i_laws_heldField : FuncId) : List SOper := [
 ⟨some 81, none, .loadN 3 (.tmp 15), 0⟩,
 ⟨some 82, none, .mov (.tmp 19), 0⟩,
 ⟨some 83, none, .call (.func i_laws_heldField) [(.tmp 81), (.tmp 82)], 3⟩,
 ⟨some 19, none, .mov (.tmp 83), 7⟩]
def laws_FnExactTravelField_r20 : List SOper := [
 ⟨some 84, none, .mov (.tmp 19), 0⟩,
 ⟨some 85, none, .bin .lss .other (.tmp 84) (.const (.int .i64 0)), 1⟩]
def laws_FnExactTravelField_r21 : List SOper := [
 ⟨some 10, none, .mov (.const (.bool false)), 0⟩]
def laws_FnExactTravelField_r22 : List SOper := [
 ⟨some 86, none, .mov (.tmp 19), 0⟩,
 ⟨some 87, none, .mov (.tmp 18), 0⟩,
 ⟨some 88, none, .bin .neq .other (.tmp 86) (.tmp 87), 3⟩]
def laws_FnExactTravelField_r23 : List SOper := [
 ⟨some 10, none, .mov (.const (.bool false)), 0⟩]
def laws_FnExactTravelField_r24 (i_laws_toSheet i_impl_TravelField : FuncId) : List SOper := [
 ⟨some 90, none, .loadN 5 (.tmp 5), 0⟩,
 ⟨some 91, none, .call (.func i_laws_toSheet) [(.tmp 90)], 1⟩,
 ⟨some 92, none, .mov (.tmp 1), 0⟩,
 ⟨some 93, none, .mov (.tmp 2), 0⟩,
 ⟨some 94, none, .mov (.tmp 3), 0⟩,
 ⟨some 95, none, .mov (.tmp 4), 0⟩,
 ⟨some 96, none, .call (.func i_impl_TravelField) [(.tmp 91), (.tmp 92), (.tmp 93), (.tmp 94), (.tmp 95)], 63⟩,
 ⟨some 89, none, .mov (.tmp 96), 127⟩,
 ⟨some 97, none, .extract (.tmp 89) 0, 255⟩,
 ⟨some 98, none, .extract (.tmp 89) 1, 255⟩,
 ⟨some 20, none, .alloc [(.slice none 0 0), (.slice none 0 0), (.slice none 0 0)], 0⟩,
 ⟨none, none, .store 3 (.tmp 20) (.tmp 97), 1535⟩,
 ⟨some 21, none, .mov (.tmp 98), 4095⟩]
def laws_FnExactTravelField_r25 (i_laws_eqField : FuncId) : List SOper := [
 ⟨some 99, none, .loadN 3 (.tmp 20), 0⟩,
 ⟨some 100, none, .loadN 3 (.tmp 12), 0⟩,
 ⟨some 101, none, .call (.func i_laws_eqField) [(.tmp 99), (.tmp 100)], 3⟩,
 ⟨some 102, none, .un .not (.tmp 101), 7⟩,
 ⟨some 103, none, .mov (.tmp 102), 15⟩,
  ⟨(some 104), (some (103, false)), .mov (.tmp 21), 31⟩,
  ⟨(some 105), (some (103, false)), .mov (.tmp 13), 31⟩,
  ⟨(some 106), (some (103, false)), .bin .neq .bool (.tmp 104) (.tmp 105), 127⟩,
 ⟨some 107, none, .pick (.tmp 103) (.const (.bool true)) (.tmp 106), 255⟩]
def laws_FnExactTravelField_r26 : List SOper := [
 ⟨some 10, none, .mov (.const (.bool false)), 0⟩]
def laws_FnExactTravelField_r27 : List SOper := [
 ⟨some 19, none, .mov (.const (.int .i64 1)), 0⟩]
def laws_FnExactTravelField_r28 (i_laws_heldField : FuncId) : List SOper := [
 ⟨some 108, none, .loadN 3 (.tmp 15), 0⟩,
 ⟨some 109, none, .mov (.tmp 19), 0⟩,
 ⟨some 110, none, .call (.func i_laws_heldField) [(.tmp 108), (.tmp 109)], 3⟩,
 ⟨some 19, none, .mov (.tmp 110), 7⟩]
def laws_FnExactTravelField_r29 : List SOper := [
 ⟨some 111, none, .mov (.tmp 19), 0⟩,
 ⟨some 112, none, .bin .lss .other (.tmp 111) (.const (.int .i64 0)), 1⟩]
def laws_FnExactTravelField_r30 : List SOper := [
 ⟨some 10, none, .mov (.const (.bool false)), 0⟩]
def laws_FnExactTravelField_r31 : List SOper := [
 ⟨some 113, none, .mov (.tmp 19), 0⟩,
 ⟨some 114, none, .mov (.tmp 18), 0⟩,
 ⟨some 115, none, .bin .neq .other (.tmp 113) (.tmp 114), 3⟩]
def laws_FnExactTravelField_r32 : List SOper := [
 ⟨some 10, none, .mov (.const (.bool false)), 0⟩]
def laws_FnExactTravelField_r33 : List SOper := [
 ⟨some 10, none, .mov (.const (.bool true)), 0⟩]
def laws_FnExactTravelField (i_laws_szSheet i_laws_toSheet i_spec_TravelField i_impl_TravelField i_laws_eqField i_laws_eqSheet i_laws_markSheet i_laws_markField i_laws_heldField : FuncId) : SFunc := ⟨116, [.tmp 10], (.kp [0,1,2,3,4] (.seq (.region laws_FnExactTravelField_r0 false) (.kp [1,2,3,4,5] (.seq (.region laws_FnExactTravelField_r1 false) (.kp [1,2,3,4,5,11] (.seq (.region (laws_FnExactTravelField_r2 i_laws_szSheet) false) (.kp [1,2,3,4,5,11] (.seq (.seq (.region laws_FnExactTravelField_r3 false) (.kp [1,2,3,4,5,26] (.cond (.tmp 26) (.seq (.region laws_FnExactTravelField_r4 false) .ret) .skip))) (.kp [1,2,3,4,5] (.seq (.region (laws_FnExactTravelField_r5 i_laws_toSheet i_spec_TravelField) false) (.kp [1,2,3,4,5,12,13] (.seq (.region (laws_FnExactTravelField_r6 i_laws_toSheet) false) (.kp [1,2,3,4,5,12,13,14] (.seq (.region (laws_FnExactTravelField_r7 i_impl_TravelField) false) (.kp [1,2,3,4,5,12,13,14,15,16] (.seq (.seq (.region (laws_FnExactTravelField_r8 i_laws_eqField) false) (.kp [1,2,3,4,5,12,13,14,15,16,56] (.cond (.tmp 56) (.seq (.region laws_FnExactTravelField_r9 false) .ret) .skip))) (.kp [1,2,3,4,5,12,13,14,15,16] (.seq (.seq (.region (laws_FnExactTravelField_r10 i_laws_toSheet i_laws_eqSheet) true) (.kp [1,2,3,4,5,12,13,14,15,16,61] (.cond (.tmp 61) (.seq (.region laws_FnExactTravelField_r11 false) .ret) .skip))) (.kp [1,2,3,4,5,12,13,14,15,16] (.seq (.region laws_FnExactTravelField_r12 false) (.kp [1,2,3,4,5,12,13,14,15,16,17] (.seq (.region (laws_FnExactTravelField_r13 i_laws_markSheet) false) (.kp [1,2,3,4,5,12,13,15,16,17] (.seq (.seq (.region (laws_FnExactTravelField_r14 i_laws_eqField) false) (.kp [1,2,3,4,5,12,13,15,77] (.cond (.tmp 77) (.seq (.region laws_FnExactTravelField_r15 false) .ret) .skip))) (.kp [1,2,3,4,5,12,13,15] (.seq (.region laws_FnExactTravelField_r16 false) (.kp [1,2,3,4,5,12,13,15,18] (.seq (.region (laws_FnExactTravelField_r17 i_laws_markField) false) (.kp [1,2,3,4,5,12,13,15,18] (.seq (.region laws_FnExactTravelField_r18 false) (.kp [1,2,3,4,5,12,13,15,18,19] (.seq (.region (laws_FnExactTravelField_r19 i_laws_heldField) false) (.kp [1,2,3,4,5,12,13,15,18,19] (.seq (.seq (.region laws_FnExactTravelField_r20 false) (.kp [1,2,3,4,5,12,13,15,18,19,85] (.cond (.tmp 85) (.seq (.region laws_FnExactTravelField_r21 false) .ret) .skip))) (.kp [1,2,3,4,5,12,13,15,18,19] (.seq (.seq (.region laws_FnExactTravelField_r22 false) (.kp [1,2,3,4,5,12,13,15,18,88] (.cond (.tmp 88) (.seq (.region laws_FnExactTravelField_r23 false) .ret) .skip))) (.kp [1,2,3,4,5,12,13,15,18] (.seq (.region (laws_FnExactTravelField_r24 i_laws_toSheet i_impl_TravelField) false) (.kp [12,13,15,18,20,21] (.seq (.seq (.region (laws_FnExactTravelField_r25 i_laws_eqField) false) (.kp [15,18,107] (.cond (.tmp 107) (.seq (.region laws_FnExactTravelField_r26 false) .ret) .skip))) (.kp [15,18] (.seq (.region laws_FnExactTravelField_r27 false) (.kp [15,18,19] (.seq (.region (laws_FnExactTravelField_r28 i_laws_heldField) false) (.kp [18,19] (.seq (.seq (.region laws_FnExactTravelField_r29 false) (.kp [18,19,112] (.cond (.tmp 112) (.seq (.region laws_FnExactTravelField_r30 false) .ret) .skip))) (.kp [18,19] (.seq (.seq (.region laws_FnExactTravelField_r31 false) (.kp [115] (.cond (.tmp 115) (.seq (.region laws_FnExactTravelField_r32 false) .ret) .skip))) (.kp [] (.seq (.region laws_FnExactTravelField_r33 false) .ret))))))))))))))))))))))))))))))))))))))))))))))))))⟩
theorem laws_FnExactTravelField_r10_dr {i_laws_toSheet i_laws_eqSheet : FuncId} : drawOkW wStat (laws_FnExactTravelField_r10 i_laws_toSheet i_laws_eqSheet) = true := by kernel_rfl
attribute [push_cast] laws_FnExactTravelField_r10_dr
def laws_FnExactTravelField_ok (c : Contract) : Prop := AlwaysTrue [sheetK, intK, intK, floatK, floatK] c
theorem rowTravelField_f {C : Ctab} {i1 i2 i3 i4 i5 i6 i7 i8 i9 : FuncId} {c1 c2 c3 c4 c5 c6 c7 c8 c9 : Contract} (h1 : Has C i1 c1 laws_szSheet_ok) (h2 : Has C i2 c2 laws_toSheet_ok) (h3 : Has C i3 c3 spec_TravelField_ok) (h4 : Has C i4 c4 impl_TravelField_ok) (h5 : Has C i5 c5 laws_eqField_ok) (h6 : Has C i6 c6 laws_eqSheet_ok) (h7 : HasW C i7 c7 laws_markSheet_ok) (h8 : HasW C i8 c8 laws_markField_ok) (h9 : Has C i9 c9 laws_heldField_ok) (σ : Heap) (w0 t0 : Int) (wr0 : Bool) (sv0 lv0 : Value) (sp0 lo0 : List Nat) (n1 : Int) (hi1 : inK .i64 n1) (n2 : Int) (hi2 : inK .i64 n2) (f3 : Nat) (hw3 : f3 < 4294967296) (f4 : Nat) (hw4 : f4 < 4294967296) (a0 : Row σ 1 sv0 sp0.length (f32s sp0)) (b0 : Row σ 1 lv0 lo0.length (f32s lo0)) (ha0 : sp0.length ≤ 9223372036854775807) (hb0 : lo0.length ≤ 9223372036854775807) (hs0 : ∀ x ∈ sp0, x < 4294967296) (hl0 : ∀ x ∈ lo0, x < 4294967296) (hz0 : ¬ szSheet sp0 lo0 1048576 < 0)
    (hok : tvOk w0 t0 wr0 sp0 lo0 n1 n2 f3 f4 = false) : Ret (gcC C (laws_FnExactTravelField i1 i2 i3 i4 i5 i6 i7 i8 i9) true) [shV w0 t0 wr0 sv0 lv0, .int .i64 n1, .int .i64 n2, .float .f32 f3, .float .f32 f4] σ fun v _ => v = .bool true := by
  have z0 := szSheet_fact sp0 lo0 (1048576) (by omega)
  have y0_ : decide (szSheet sp0 lo0 1048576 < 0) = false := decide_eq_false hz0
  have ma0 : sp0.length ≤ 1048576 := by omega
  have mb0 : lo0.length ≤ 1048576 := by omega
  refine ret_gc rfl rfl ?_
  repeat' (first | refine ff ?_ | (apply EvR.aCall h1.at_; (· exact eva); (· apply h1.ok <;> exact sid); (rintro _ _ ⟨rfl, rfl⟩; refine EvR.nrm ?_; try simp only [hok, flRes_f, flRows_f, List.append_nil])) | (apply EvR.aCall h2.at_; (· exact eva); (· apply h2.ok <;> exact sid); (rintro _ _ ⟨rfl, rfl⟩; refine EvR.nrm ?_; try simp only [hok, flRes_f, flRows_f, List.append_nil])) | (apply EvR.aCall h6.at_; (· exact eva); (· apply h6.ok <;> exact sid); (rintro _ _ ⟨rfl, rfl⟩; refine EvR.nrm ?_; try simp only [hok, flRes_f, flRows_f, List.append_nil])) | (apply EvR.aCall h5.at_; (· exact eva); (· apply h5.ok <;> exact sid); (rintro _ _ ⟨rfl, rfl⟩; refine EvR.nrm ?_; try simp only [hok, flRes_f, flRows_f, List.append_nil])) | ((first | refine sR ?_ ?_ | refine sC ?_ ?_) <;> (intro hb; (try rw [hb]); (try simp only [bb] at hb); (try (exfalso; first | omega | exact hb trivial)))) | (apply endS trivial; rotate_left; (· exact eva); (· rfl); try refine ⟨?_, rfl⟩) | fail)
  (apply EvR.aCall h3.at_; (· exact eva); (· exact  h3.ok _ w0 t0 wr0 _ _ sp0 lo0 n1 n2 f3 f4 ⟨Row.ownF rfl rfl, Row.ownF rfl rfl⟩ ma0 mb0 hs0 hl0); (rintro _ _ ⟨rfl, rfl⟩; refine EvR.nrm ?_))
  rw [hok, flRes_f, flRows_f]
  try refine EvR.nrm ?_
  repeat' (first | refine ff ?_ | (apply EvR.aCall h1.at_; (· exact eva); (· apply h1.ok <;> exact sid); (rintro _ _ ⟨rfl, rfl⟩; refine EvR.nrm ?_; try simp only [hok, flRes_f, flRows_f, List.append_nil])) | (apply EvR.aCall h2.at_; (· exact eva); (· apply h2.ok <;> exact sid); (rintro _ _ ⟨rfl, rfl⟩; refine EvR.nrm ?_; try simp only [hok, flRes_f, flRows_f, List.append_nil])) | (apply EvR.aCall h6.at_; (· exact eva); (· apply h6.ok <;> exact sid); (rintro _ _ ⟨rfl, rfl⟩; refine EvR.nrm ?_; try simp only [hok, flRes_f, flRows_f, List.append_nil])) | (apply EvR.aCall h5.at_; (· exact eva); (· apply h5.ok <;> exact sid); (rintro _ _ ⟨rfl, rfl⟩; refine EvR.nrm ?_; try simp only [hok, flRes_f, flRows_f, List.append_nil])) | ((first | refine sR ?_ ?_ | refine sC ?_ ?_) <;> (intro hb; (try rw [hb]); (try simp only [bb] at hb); (try (exfalso; first | omega | exact hb trivial)))) | (apply endS trivial; rotate_left; (· exact eva); (· rfl); try refine ⟨?_, rfl⟩) | fail)
  (apply EvR.aCall h4.at_; (· exact eva); (· exact  h4.ok _ w0 t0 wr0 _ _ sp0 lo0 n1 n2 f3 f4 ⟨Row.ownF rfl rfl, Row.ownF rfl rfl⟩ ma0 mb0 hs0 hl0); (rintro _ _ ⟨rfl, rfl⟩; refine EvR.nrm ?_))
  rw [hok, flRes_f, flRows_f]
  try refine EvR.nrm ?_
  repeat' (first | refine ff ?_ | (apply EvR.aCall h1.at_; (· exact eva); (· apply h1.ok <;> exact sid); (rintro _ _ ⟨rfl, rfl⟩; refine EvR.nrm ?_; try simp only [hok, flRes_f, flRows_f, List.append_nil])) | (apply EvR.aCall h2.at_; (· exact eva); (· apply h2.ok <;> exact sid); (rintro _ _ ⟨rfl, rfl⟩; refine EvR.nrm ?_; try simp only [hok, flRes_f, flRows_f, List.append_nil])) | (apply EvR.aCall h6.at_; (· exact eva); (· apply h6.ok <;> exact sid); (rintro _ _ ⟨rfl, rfl⟩; refine EvR.nrm ?_; try simp only [hok, flRes_f, flRows_f, List.append_nil])) | (apply EvR.aCall h5.at_; (· exact eva); (· apply h5.ok <;> exact sid); (rintro _ _ ⟨rfl, rfl⟩; refine EvR.nrm ?_; try simp only [hok, flRes_f, flRows_f, List.append_nil])) | ((first | refine sR ?_ ?_ | refine sC ?_ ?_) <;> (intro hb; (try rw [hb]); (try simp only [bb] at hb); (try (exfalso; first | omega | exact hb trivial)))) | (apply endS trivial; rotate_left; (· exact eva); (· rfl); try refine ⟨?_, rfl⟩) | fail)
  (apply EvR.aCall h7.at_; (· exact eva); (· exact  h7.ok.2 _ _ _ _ _ _ sp0 lo0 _ (by omega) (hget _ _ 4) (hget _ _ 5) ma0 mb0 (by omega) (by omega)); (rintro _ _ ⟨rfl, rfl⟩; refine EvR.nrm ?_))
  repeat' (first | refine ff ?_ | (apply EvR.aCall h1.at_; (· exact eva); (· apply h1.ok <;> exact sid); (rintro _ _ ⟨rfl, rfl⟩; refine EvR.nrm ?_; try simp only [hok, flRes_f, flRows_f, List.append_nil])) | (apply EvR.aCall h2.at_; (· exact eva); (· apply h2.ok <;> exact sid); (rintro _ _ ⟨rfl, rfl⟩; refine EvR.nrm ?_; try simp only [hok, flRes_f, flRows_f, List.append_nil])) | (apply EvR.aCall h6.at_; (· exact eva); (· apply h6.ok <;> exact sid); (rintro _ _ ⟨rfl, rfl⟩; refine EvR.nrm ?_; try simp only [hok, flRes_f, flRows_f, List.append_nil])) | (apply EvR.aCall h5.at_; (· exact eva); (· apply h5.ok <;> exact sid); (rintro _ _ ⟨rfl, rfl⟩; refine EvR.nrm ?_; try simp only [hok, flRes_f, flRows_f, List.append_nil])) | ((first | refine sR ?_ ?_ | refine sC ?_ ?_) <;> (intro hb; (try rw [hb]); (try simp only [bb] at hb); (try (exfalso; first | omega | exact hb trivial)))) | (apply endS trivial; rotate_left; (· exact eva); (· rfl); try refine ⟨?_, rfl⟩) | fail)
  (apply EvR.aCall h8.at_; (· exact eva); (· exact  h8.ok.1 _ 1); (rintro _ _ ⟨rfl, rfl⟩; refine EvR.nrm ?_))
  repeat' (first | refine ff ?_ | ((first | refine sR ?_ ?_ | refine sC ?_ ?_) <;> (intro hb; (try rw [hb]); (try simp only [bb] at hb); (try (exfalso; first | omega | exact hb trivial)))) | (apply endS trivial; rotate_left; (· exact eva); (· rfl); try refine ⟨?_, rfl⟩) | fail)
  (apply EvR.aCall h9.at_; (· exact eva); (· exact  h9.ok _ _ _ _ 0 0 0 1 ⟨rfl, rfl, rfl⟩ ⟨rfl, rfl, rfl⟩ ⟨rfl, rfl, rfl⟩ (by omega) (by omega) (by omega) (by omega) (by omega)); (rintro _ _ ⟨rfl, rfl⟩; refine EvR.nrm ?_))
  repeat' (first | refine ff ?_ | (apply EvR.aCall h1.at_; (· exact eva); (· apply h1.ok <;> exact sid); (rintro _ _ ⟨rfl, rfl⟩; refine EvR.nrm ?_; try simp only [hok, flRes_f, flRows_f, List.append_nil])) | (apply EvR.aCall h2.at_; (· exact eva); (· apply h2.ok <;> exact sid); (rintro _ _ ⟨rfl, rfl⟩; refine EvR.nrm ?_; try simp only [hok, flRes_f, flRows_f, List.append_nil])) | (apply EvR.aCall h6.at_; (· exact eva); (· apply h6.ok <;> exact sid); (rintro _ _ ⟨rfl, rfl⟩; refine EvR.nrm ?_; try simp only [hok, flRes_f, flRows_f, List.append_nil])) | (apply EvR.aCall h5.at_; (· exact eva); (· apply h5.ok <;> exact sid); (rintro _ _ ⟨rfl, rfl⟩; refine EvR.nrm ?_; try simp only [hok, flRes_f, flRows_f, List.append_nil])) | ((first | refine sR ?_ ?_ | refine sC ?_ ?_) <;> (intro hb; (try rw [hb]); (try simp only [bb] at hb); (try (exfalso; first | omega | exact hb trivial)))) | (apply endS trivial; rotate_left; (· exact eva); (· rfl); try refine ⟨?_, rfl⟩) | fail)
  (apply EvR.aCall h4.at_; (· exact eva); (· exact  h4.ok _ w0 t0 wr0 _ _ sp0 lo0 n1 n2 f3 f4 ⟨Row.ownF rfl rfl, Row.ownF rfl rfl⟩ ma0 mb0 hs0 hl0); (rintro _ _ ⟨rfl, rfl⟩; refine EvR.nrm ?_))
  rw [hok, flRes_f, flRows_f]
  try refine EvR.nrm ?_
  repeat' (first | refine ff ?_ | (apply EvR.aCall h1.at_; (· exact eva); (· apply h1.ok <;> exact sid); (rintro _ _ ⟨rfl, rfl⟩; refine EvR.nrm ?_; try simp only [hok, flRes_f, flRows_f, List.append_nil])) | (apply EvR.aCall h2.at_; (· exact eva); (· apply h2.ok <;> exact sid); (rintro _ _ ⟨rfl, rfl⟩; refine EvR.nrm ?_; try simp only [hok, flRes_f, flRows_f, List.append_nil])) | (apply EvR.aCall h6.at_; (· exact eva); (· apply h6.ok <;> exact sid); (rintro _ _ ⟨rfl, rfl⟩; refine EvR.nrm ?_; try simp only [hok, flRes_f, flRows_f, List.append_nil])) | (apply EvR.aCall h5.at_; (· exact eva); (· apply h5.ok <;> exact sid); (rintro _ _ ⟨rfl, rfl⟩; refine EvR.nrm ?_; try simp only [hok, flRes_f, flRows_f, List.append_nil])) | ((first | refine sR ?_ ?_ | refine sC ?_ ?_) <;> (intro hb; (try rw [hb]); (try simp only [bb] at hb); (try (exfalso; first | omega | exact hb trivial)))) | (apply endS trivial; rotate_left; (· exact eva); (· rfl); try refine ⟨?_, rfl⟩) | fail)
  (apply EvR.aCall h9.at_; (· exact eva); (· exact  h9.ok _ _ _ _ 0 0 0 1 ⟨rfl, rfl, rfl⟩ ⟨rfl, rfl, rfl⟩ ⟨rfl, rfl, rfl⟩ (by omega) (by omega) (by omega) (by omega) (by omega)); (rintro _ _ ⟨rfl, rfl⟩; refine EvR.nrm ?_))
  repeat' (first | refine ff ?_ | ((first | refine sR ?_ ?_ | refine sC ?_ ?_) <;> (intro hb; (try rw [hb]); (try simp only [bb] at hb); (try (exfalso; first | omega | exact hb trivial)))) | (apply endS trivial; rotate_left; (· exact eva); (· rfl); try refine ⟨?_, rfl⟩) | fail)
  rfl

theorem rowTravelField_t {C : Ctab} {i1 i2 i3 i4 i5 i6 i7 i8 i9 : FuncId} {c1 c2 c3 c4 c5 c6 c7 c8 c9 : Contract} (h1 : Has C i1 c1 laws_szSheet_ok) (h2 : Has C i2 c2 laws_toSheet_ok) (h3 : Has C i3 c3 spec_TravelField_ok) (h4 : Has C i4 c4 impl_TravelField_ok) (h5 : Has C i5 c5 laws_eqField_ok) (h6 : Has C i6 c6 laws_eqSheet_ok) (h7 : HasW C i7 c7 laws_markSheet_ok) (h8 : HasW C i8 c8 laws_markField_ok) (h9 : Has C i9 c9 laws_heldField_ok) (σ : Heap) (w0 t0 : Int) (wr0 : Bool) (sv0 lv0 : Value) (sp0 lo0 : List Nat) (n1 : Int) (hi1 : inK .i64 n1) (n2 : Int) (hi2 : inK .i64 n2) (f3 : Nat) (hw3 : f3 < 4294967296) (f4 : Nat) (hw4 : f4 < 4294967296) (a0 : Row σ 1 sv0 sp0.length (f32s sp0)) (b0 : Row σ 1 lv0 lo0.length (f32s lo0)) (ha0 : sp0.length ≤ 9223372036854775807) (hb0 : lo0.length ≤ 9223372036854775807) (hs0 : ∀ x ∈ sp0, x < 4294967296) (hl0 : ∀ x ∈ lo0, x < 4294967296) (hz0 : ¬ szSheet sp0 lo0 1048576 < 0)
    (hok : tvOk w0 t0 wr0 sp0 lo0 n1 n2 f3 f4 = true) : Ret (gcC C (laws_FnExactTravelField i1 i2 i3 i4 i5 i6 i7 i8 i9) true) [shV w0 t0 wr0 sv0 lv0, .int .i64 n1, .int .i64 n2, .float .f32 f3, .float .f32 f4] σ fun v _ => v = .bool true := by
  have z0 := szSheet_fact sp0 lo0 (1048576) (by omega)
  have y0_ : decide (szSheet sp0 lo0 1048576 < 0) = false := decide_eq_false hz0
  have ma0 : sp0.length ≤ 1048576 := by omega
  have mb0 : lo0.length ≤ 1048576 := by omega
  have L1 : (tvE w0 t0 sp0 n1 n2 f3 f4).length ≤ 1048576 := by unfold tvE; rw [List.length_map, List.length_range]; exact ma0
  have L2 : (tvX w0 t0 sp0 n1 n2 f3 f4).length ≤ 1048576 := by unfold tvX; rw [List.length_map, List.length_range]; exact ma0
  have L3 : (tvY w0 t0 sp0 n1 n2 f3 f4).length ≤ 1048576 := by unfold tvY; rw [List.length_map, List.length_range]; exact ma0
  obtain ⟨R1, E1⟩ : ∃ R, tvE w0 t0 sp0 n1 n2 f3 f4 = R := ⟨_, rfl⟩
  obtain ⟨R2, E2⟩ : ∃ R, tvX w0 t0 sp0 n1 n2 f3 f4 = R := ⟨_, rfl⟩
  obtain ⟨R3, E3⟩ : ∃ R, tvY w0 t0 sp0 n1 n2 f3 f4 = R := ⟨_, rfl⟩
  rw [E1] at L1
  rw [E2] at L2
  rw [E3] at L3
  refine ret_gc rfl rfl ?_
  repeat' (first | refine ff ?_ | (apply EvR.aCall h1.at_; (· exact eva); (· apply h1.ok <;> exact sid); (rintro _ _ ⟨rfl, rfl⟩; refine EvR.nrm ?_; try simp only [hok, E1, E2, E3, flRes_t, flRows_t, slV])) | (apply EvR.aCall h2.at_; (· exact eva); (· apply h2.ok <;> exact sid); (rintro _ _ ⟨rfl, rfl⟩; refine EvR.nrm ?_; try simp only [hok, E1, E2, E3, flRes_t, flRows_t, slV])) | (apply EvR.aCall h6.at_; (· exact eva); (· apply h6.ok <;> exact sid); (rintro _ _ ⟨rfl, rfl⟩; refine EvR.nrm ?_; try simp only [hok, E1, E2, E3, flRes_t, flRows_t, slV])) | (apply EvR.aCall h5.at_; (· exact eva); (· apply h5.ok <;> exact sid); (rintro _ _ ⟨rfl, rfl⟩; refine EvR.nrm ?_; try simp only [hok, E1, E2, E3, flRes_t, flRows_t, slV])) | ((first | refine sR ?_ ?_ | refine sC ?_ ?_) <;> (intro hb; (try rw [hb]); (try simp only [bb] at hb); (try (exfalso; first | omega | exact hb trivial)))) | (apply endS trivial; rotate_left; (· exact eva); (· rfl); try refine ⟨?_, rfl⟩) | fail)
  (apply EvR.aCall h3.at_; (· exact eva); (· exact  h3.ok _ w0 t0 wr0 _ _ sp0 lo0 n1 n2 f3 f4 ⟨Row.ownF rfl rfl, Row.ownF rfl rfl⟩ ma0 mb0 hs0 hl0); (rintro _ _ ⟨rfl, rfl⟩; refine EvR.nrm ?_))
  rw [hok, flRes_t, flRows_t, E1, E2, E3]
  refine EvR.nrm ?_
  repeat' (first | refine ff ?_ | (apply EvR.aCall h1.at_; (· exact eva); (· apply h1.ok <;> exact sid); (rintro _ _ ⟨rfl, rfl⟩; refine EvR.nrm ?_; try simp only [hok, E1, E2, E3, flRes_t, flRows_t, slV])) | (apply EvR.aCall h2.at_; (· exact eva); (· apply h2.ok <;> exact sid); (rintro _ _ ⟨rfl, rfl⟩; refine EvR.nrm ?_; try simp only [hok, E1, E2, E3, flRes_t, flRows_t, slV])) | (apply EvR.aCall h6.at_; (· exact eva); (· apply h6.ok <;> exact sid); (rintro _ _ ⟨rfl, rfl⟩; refine EvR.nrm ?_; try simp only [hok, E1, E2, E3, flRes_t, flRows_t, slV])) | (apply EvR.aCall h5.at_; (· exact eva); (· apply h5.ok <;> exact sid); (rintro _ _ ⟨rfl, rfl⟩; refine EvR.nrm ?_; try simp only [hok, E1, E2, E3, flRes_t, flRows_t, slV])) | ((first | refine sR ?_ ?_ | refine sC ?_ ?_) <;> (intro hb; (try rw [hb]); (try simp only [bb] at hb); (try (exfalso; first | omega | exact hb trivial)))) | (apply endS trivial; rotate_left; (· exact eva); (· rfl); try refine ⟨?_, rfl⟩) | fail)
  (apply EvR.aCall h4.at_; (· exact eva); (· exact  h4.ok _ w0 t0 wr0 _ _ sp0 lo0 n1 n2 f3 f4 ⟨Row.ownF rfl rfl, Row.ownF rfl rfl⟩ ma0 mb0 hs0 hl0); (rintro _ _ ⟨rfl, rfl⟩; refine EvR.nrm ?_))
  rw [hok, flRes_t, flRows_t, E1, E2, E3]
  refine EvR.nrm ?_
  repeat' (first | refine ff ?_ | (apply EvR.aCall h1.at_; (· exact eva); (· apply h1.ok <;> exact sid); (rintro _ _ ⟨rfl, rfl⟩; refine EvR.nrm ?_; try simp only [hok, E1, E2, E3, flRes_t, flRows_t, slV])) | (apply EvR.aCall h2.at_; (· exact eva); (· apply h2.ok <;> exact sid); (rintro _ _ ⟨rfl, rfl⟩; refine EvR.nrm ?_; try simp only [hok, E1, E2, E3, flRes_t, flRows_t, slV])) | (apply EvR.aCall h6.at_; (· exact eva); (· apply h6.ok <;> exact sid); (rintro _ _ ⟨rfl, rfl⟩; refine EvR.nrm ?_; try simp only [hok, E1, E2, E3, flRes_t, flRows_t, slV])) | (apply EvR.aCall h5.at_; (· exact eva); (· apply h5.ok <;> exact sid); (rintro _ _ ⟨rfl, rfl⟩; refine EvR.nrm ?_; try simp only [hok, E1, E2, E3, flRes_t, flRows_t, slV])) | ((first | refine sR ?_ ?_ | refine sC ?_ ?_) <;> (intro hb; (try rw [hb]); (try simp only [bb] at hb); (try (exfalso; first | omega | exact hb trivial)))) | (apply endS trivial; rotate_left; (· exact eva); (· rfl); try refine ⟨?_, rfl⟩) | fail)
  (apply EvR.aCall h7.at_; (· exact eva); (· exact  h7.ok.2 _ _ _ _ _ _ sp0 lo0 _ (by omega) (hget _ _ 7) (hget _ _ 8) ma0 mb0 (by omega) (by omega)); (rintro _ _ ⟨rfl, rfl⟩; refine EvR.nrm ?_))
  repeat' (first | refine ff ?_ | (apply EvR.aCall h1.at_; (· exact eva); (· apply h1.ok <;> exact sid); (rintro _ _ ⟨rfl, rfl⟩; refine EvR.nrm ?_; try simp only [hok, E1, E2, E3, flRes_t, flRows_t, slV])) | (apply EvR.aCall h2.at_; (· exact eva); (· apply h2.ok <;> exact sid); (rintro _ _ ⟨rfl, rfl⟩; refine EvR.nrm ?_; try simp only [hok, E1, E2, E3, flRes_t, flRows_t, slV])) | (apply EvR.aCall h6.at_; (· exact eva); (· apply h6.ok <;> exact sid); (rintro _ _ ⟨rfl, rfl⟩; refine EvR.nrm ?_; try simp only [hok, E1, E2, E3, flRes_t, flRows_t, slV])) | (apply EvR.aCall h5.at_; (· exact eva); (· apply h5.ok <;> exact sid); (rintro _ _ ⟨rfl, rfl⟩; refine EvR.nrm ?_; try simp only [hok, E1, E2, E3, flRes_t, flRows_t, slV])) | ((first | refine sR ?_ ?_ | refine sC ?_ ?_) <;> (intro hb; (try rw [hb]); (try simp only [bb] at hb); (try (exfalso; first | omega | exact hb trivial)))) | (apply endS trivial; rotate_left; (· exact eva); (· rfl); try refine ⟨?_, rfl⟩) | fail)
  (apply EvR.aCall h8.at_; (· exact eva); (· exact  h8.ok.2 _ _ _ _ R1 R2 R3 _ _ _ 1 rfl rfl rfl (by omega) (by omega) (by omega) (hget _ _ 10) (hget _ _ 11) (hget _ _ 12) L1 L2 L3 (by omega) (by omega)); (rintro _ _ ⟨rfl, rfl⟩; refine EvR.nrm ?_))
  repeat' (first | refine ff ?_ | ((first | refine sR ?_ ?_ | refine sC ?_ ?_) <;> (intro hb; (try rw [hb]); (try simp only [bb] at hb); (try (exfalso; first | omega | exact hb trivial)))) | (apply endS trivial; rotate_left; (· exact eva); (· rfl); try refine ⟨?_, rfl⟩) | fail)
  (apply EvR.aCall h9.at_; (· exact eva); (· exact  h9.ok _ _ _ _ R1.length R2.length R3.length 1 (Row.own rfl (by omega) (by rw [f32s_length, marks_length]; omega)) (Row.own rfl (by omega) (by rw [f32s_length, marks_length]; omega)) (Row.own rfl (by omega) (by rw [f32s_length, marks_length]; omega)) L1 L2 L3 (by omega) (by omega)); (rintro _ _ ⟨rfl, rfl⟩; refine EvR.nrm ?_))
  repeat' (first | refine ff ?_ | (apply EvR.aCall h1.at_; (· exact eva); (· apply h1.ok <;> exact sid); (rintro _ _ ⟨rfl, rfl⟩; refine EvR.nrm ?_; try simp only [hok, E1, E2, E3, flRes_t, flRows_t, slV])) | (apply EvR.aCall h2.at_; (· exact eva); (· apply h2.ok <;> exact sid); (rintro _ _ ⟨rfl, rfl⟩; refine EvR.nrm ?_; try simp only [hok, E1, E2, E3, flRes_t, flRows_t, slV])) | (apply EvR.aCall h6.at_; (· exact eva); (· apply h6.ok <;> exact sid); (rintro _ _ ⟨rfl, rfl⟩; refine EvR.nrm ?_; try simp only [hok, E1, E2, E3, flRes_t, flRows_t, slV])) | (apply EvR.aCall h5.at_; (· exact eva); (· apply h5.ok <;> exact sid); (rintro _ _ ⟨rfl, rfl⟩; refine EvR.nrm ?_; try simp only [hok, E1, E2, E3, flRes_t, flRows_t, slV])) | ((first | refine sR ?_ ?_ | refine sC ?_ ?_) <;> (intro hb; (try rw [hb]); (try simp only [bb] at hb); (try (exfalso; first | omega | exact hb trivial)))) | (apply endS trivial; rotate_left; (· exact eva); (· rfl); try refine ⟨?_, rfl⟩) | fail)
  (apply EvR.aCall h4.at_; (· exact eva); (· exact  h4.ok _ w0 t0 wr0 _ _ sp0 lo0 n1 n2 f3 f4 ⟨Row.ownF rfl rfl, Row.ownF rfl rfl⟩ ma0 mb0 hs0 hl0); (rintro _ _ ⟨rfl, rfl⟩; refine EvR.nrm ?_))
  rw [hok, flRes_t, flRows_t, E1, E2, E3]
  refine EvR.nrm ?_
  repeat' (first | refine ff ?_ | (apply EvR.aCall h1.at_; (· exact eva); (· apply h1.ok <;> exact sid); (rintro _ _ ⟨rfl, rfl⟩; refine EvR.nrm ?_; try simp only [hok, E1, E2, E3, flRes_t, flRows_t, slV])) | (apply EvR.aCall h2.at_; (· exact eva); (· apply h2.ok <;> exact sid); (rintro _ _ ⟨rfl, rfl⟩; refine EvR.nrm ?_; try simp only [hok, E1, E2, E3, flRes_t, flRows_t, slV])) | (apply EvR.aCall h6.at_; (· exact eva); (· apply h6.ok <;> exact sid); (rintro _ _ ⟨rfl, rfl⟩; refine EvR.nrm ?_; try simp only [hok, E1, E2, E3, flRes_t, flRows_t, slV])) | (apply EvR.aCall h5.at_; (· exact eva); (· apply h5.ok <;> exact sid); (rintro _ _ ⟨rfl, rfl⟩; refine EvR.nrm ?_; try simp only [hok, E1, E2, E3, flRes_t, flRows_t, slV])) | ((first | refine sR ?_ ?_ | refine sC ?_ ?_) <;> (intro hb; (try rw [hb]); (try simp only [bb] at hb); (try (exfalso; first | omega | exact hb trivial)))) | (apply endS trivial; rotate_left; (· exact eva); (· rfl); try refine ⟨?_, rfl⟩) | fail)
  (apply EvR.aCall h9.at_; (· exact eva); (· exact  h9.ok _ _ _ _ R1.length R2.length R3.length 1 (Row.own rfl (by omega) (by rw [f32s_length, marks_length]; omega)) (Row.own rfl (by omega) (by rw [f32s_length, marks_length]; omega)) (Row.own rfl (by omega) (by rw [f32s_length, marks_length]; omega)) L1 L2 L3 (by omega) (by omega)); (rintro _ _ ⟨rfl, rfl⟩; refine EvR.nrm ?_))
  repeat' (first | refine ff ?_ | ((first | refine sR ?_ ?_ | refine sC ?_ ?_) <;> (intro hb; (try rw [hb]); (try simp only [bb] at hb); (try (exfalso; first | omega | exact hb trivial)))) | (apply endS trivial; rotate_left; (· exact eva); (· rfl); try refine ⟨?_, rfl⟩) | fail)
  rfl

theorem laws_FnExactTravelField_law {C : Ctab} {i1 i2 i3 i4 i5 i6 i7 i8 i9 : FuncId} {c1 c2 c3 c4 c5 c6 c7 c8 c9 : Contract} (h1 : Has C i1 c1 laws_szSheet_ok) (h2 : Has C i2 c2 laws_toSheet_ok) (h3 : Has C i3 c3 spec_TravelField_ok) (h4 : Has C i4 c4 impl_TravelField_ok) (h5 : Has C i5 c5 laws_eqField_ok) (h6 : Has C i6 c6 laws_eqSheet_ok) (h7 : HasW C i7 c7 laws_markSheet_ok) (h8 : HasW C i8 c8 laws_markField_ok) (h9 : Has C i9 c9 laws_heldField_ok) : laws_FnExactTravelField_ok (gcC C (laws_FnExactTravelField i1 i2 i3 i4 i5 i6 i7 i8 i9) true) := by
  intro σ avs hh
  match avs, hh with
  | [v0, v1, v2, v3, v4], ⟨g0, g1, g2, g3, g4, _⟩ =>
    obtain ⟨w0, t0, wr0, sv0, lv0, sp0, lo0, rfl, ⟨a0, b0⟩, ha0, hb0, _, _, hs0, hl0⟩ := sheet_absW g0
    obtain ⟨n1, rfl, hi1⟩ := int_abs g1
    obtain ⟨n2, rfl, hi2⟩ := int_abs g2
    obtain ⟨f3, rfl, hv3⟩ := float_abs g3
    have hw3 := wf32 hv3
    obtain ⟨f4, rfl, hv4⟩ := float_abs g4
    have hw4 := wf32 hv4
    have z0 := szSheet_fact sp0 lo0 (1048576) (by omega)
    cases y0_ : decide (szSheet sp0 lo0 1048576 < 0)
    case true =>
      have hz0 := of_decide_eq_true y0_
      refine ret_gc rfl rfl ?_
      repeat' (first | refine ff ?_ | (apply EvR.aCall h1.at_; (· exact eva); (· apply h1.ok <;> exact sid); (rintro _ _ ⟨rfl, rfl⟩; refine EvR.nrm ?_; try simp only [y0_])) | ((first | refine sR ?_ ?_ | refine sC ?_ ?_) <;> (intro hb; (try rw [hb]); (try simp only [bb] at hb); (try (exfalso; first | omega | exact hb trivial)))) | (apply endS trivial; rotate_left; (· exact eva); (· rfl); try refine ⟨?_, rfl⟩) | fail)
      all_goals rfl
    have hz0 := of_decide_eq_false y0_
    cases hok : tvOk w0 t0 wr0 sp0 lo0 n1 n2 f3 f4
    · exact rowTravelField_f h1 h2 h3 h4 h5 h6 h7 h8 h9 σ w0 t0 wr0 sv0 lv0 sp0 lo0 n1 hi1 n2 hi2 f3 hw3 f4 hw4 a0 b0 ha0 hb0 hs0 hl0 hz0 hok
    · exact rowTravelField_t h1 h2 h3 h4 h5 h6 h7 h8 h9 σ w0 t0 wr0 sv0 lv0 sp0 lo0 n1 hi1 n2 hi2 f3 hw3 f4 hw4 a0 b0 ha0 hb0 hs0 hl0 hz0 hok
end Go.Abs


