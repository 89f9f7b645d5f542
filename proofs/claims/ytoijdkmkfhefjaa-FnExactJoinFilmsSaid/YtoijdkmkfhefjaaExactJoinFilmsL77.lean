/- Law of a row's function: JoinFilms. Conditions: the laws of what it calls. -/
import Derived.Test.YtoijdkmkfhefjaaExactJoinFilmsL76
namespace Go.Abs

set_option linter.unusedSimpArgs false
set_option linter.unusedVariables false
set_option maxHeartbeats 16000000
set_option maxRecDepth 100000
/- loop.example/g01201/laws.FnExactJoinFilms -/
def laws_FnExactJoinFilms_r0 : List SOper := [
  ⟨(some 2), none, .box (.tmp 0), 0⟩,
  ⟨(some 3), none, .box (.tmp 1), 0⟩,
  ⟨(some 4), none, .mov (.const (.bool false)), 0⟩]
def laws_FnExactJoinFilms_r1 : List SOper := [
  ⟨(some 5), none, .mov (.const (.int .i64 1048576)), 0⟩]
def laws_FnExactJoinFilms_r2 (i_laws_szFilm : FuncId) : List SOper := [
  ⟨(some 17), none, .loadN 6 (.tmp 2), 0⟩,
  ⟨(some 18), none, .mov (.tmp 5), 0⟩,
  ⟨(some 19), none, .call (.func i_laws_szFilm) [(.tmp 17), (.tmp 18)], 3⟩,
  ⟨(some 5), none, .mov (.tmp 19), 7⟩]
def laws_FnExactJoinFilms_r3 : List SOper := [
  ⟨(some 20), none, .mov (.tmp 5), 0⟩,
  ⟨(some 21), none, .bin .lss .other (.tmp 20) (.const (.int .i64 0)), 1⟩]
def laws_FnExactJoinFilms_r4 : List SOper := [
  ⟨(some 4), none, .mov (.const (.bool true)), 0⟩]
def laws_FnExactJoinFilms_r5 (i_laws_szFilm : FuncId) : List SOper := [
  ⟨(some 22), none, .loadN 6 (.tmp 3), 0⟩,
  ⟨(some 23), none, .mov (.tmp 5), 0⟩,
  ⟨(some 24), none, .call (.func i_laws_szFilm) [(.tmp 22), (.tmp 23)], 3⟩,
  ⟨(some 5), none, .mov (.tmp 24), 7⟩]
def laws_FnExactJoinFilms_r6 : List SOper := [
  ⟨(some 25), none, .mov (.tmp 5), 0⟩,
  ⟨(some 26), none, .bin .lss .other (.tmp 25) (.const (.int .i64 0)), 1⟩]
def laws_FnExactJoinFilms_r7 : List SOper := [
  ⟨(some 4), none, .mov (.const (.bool true)), 0⟩]
def laws_FnExactJoinFilms_r8 (i_laws_toFilm i_spec_JoinFilms : FuncId) : List SOper := [
  ⟨(some 28), none, .loadN 6 (.tmp 2), 0⟩,
  ⟨(some 29), none, .call (.func i_laws_toFilm) [(.tmp 28)], 1⟩,
  ⟨(some 30), none, .loadN 6 (.tmp 3), 0⟩,
  ⟨(some 31), none, .call (.func i_laws_toFilm) [(.tmp 30)], 7⟩,
  ⟨(some 32), none, .call (.func i_spec_JoinFilms) [(.tmp 29), (.tmp 31)], 15⟩,
  ⟨(some 27), none, .mov (.tmp 32), 31⟩,
  ⟨(some 33), none, .extract (.tmp 27) 0, 63⟩,
  ⟨(some 34), none, .extract (.tmp 27) 1, 63⟩,
  ⟨(some 6), none, .alloc [(.int .i64 0), (.int .i64 0), (.bool false), (.slice none 0 0), (.slice none 0 0), (.slice none 0 0)], 0⟩,
  ⟨none, none, .store 6 (.tmp 6) (.tmp 33), 383⟩,
  ⟨(some 7), none, .mov (.tmp 34), 1023⟩]
def laws_FnExactJoinFilms_r9 (i_laws_toFilm : FuncId) : List SOper := [
  ⟨(some 35), none, .loadN 6 (.tmp 2), 0⟩,
  ⟨(some 36), none, .call (.func i_laws_toFilm) [(.tmp 35)], 1⟩,
  ⟨(some 8), none, .alloc [(.int .i64 0), (.int .i64 0), (.bool false), (.slice none 0 0), (.slice none 0 0), (.slice none 0 0)], 0⟩,
  ⟨none, none, .store 6 (.tmp 8) (.tmp 36), 7⟩]
def laws_FnExactJoinFilms_r10 (i_laws_toFilm : FuncId) : List SOper := [
  ⟨(some 37), none, .loadN 6 (.tmp 3), 0⟩,
  ⟨(some 38), none, .call (.func i_laws_toFilm) [(.tmp 37)], 1⟩,
  ⟨(some 9), none, .alloc [(.int .i64 0), (.int .i64 0), (.bool false), (.slice none 0 0), (.slice none 0 0), (.slice none 0 0)], 0⟩,
  ⟨none, none, .store 6 (.tmp 9) (.tmp 38), 7⟩]
def laws_FnExactJoinFilms_r11 (i_impl_JoinFilms : FuncId) : List SOper := [
  ⟨(some 40), none, .loadN 6 (.tmp 8), 0⟩,
  ⟨(some 41), none, .loadN 6 (.tmp 9), 0⟩,
  ⟨(some 42), none, .call (.func i_impl_JoinFilms) [(.tmp 40), (.tmp 41)], 3⟩,
  ⟨(some 39), none, .mov (.tmp 42), 7⟩,
  ⟨(some 43), none, .extract (.tmp 39) 0, 15⟩,
  ⟨(some 44), none, .extract (.tmp 39) 1, 15⟩,
  ⟨(some 10), none, .alloc [(.int .i64 0), (.int .i64 0), (.bool false), (.slice none 0 0), (.slice none 0 0), (.slice none 0 0)], 0⟩,
  ⟨none, none, .store 6 (.tmp 10) (.tmp 43), 95⟩,
  ⟨(some 11), none, .mov (.tmp 44), 255⟩]
def laws_FnExactJoinFilms_r12 (i_laws_eqFilm : FuncId) : List SOper := [
  ⟨(some 45), none, .loadN 6 (.tmp 10), 0⟩,
  ⟨(some 46), none, .loadN 6 (.tmp 6), 0⟩,
  ⟨(some 47), none, .call (.func i_laws_eqFilm) [(.tmp 45), (.tmp 46)], 3⟩,
  ⟨(some 48), none, .un .not (.tmp 47), 7⟩,
  ⟨(some 49), none, .mov (.tmp 48), 15⟩,
  ⟨(some 50), (some (49, false)), .mov (.tmp 11), 31⟩,
  ⟨(some 51), (some (49, false)), .mov (.tmp 7), 31⟩,
  ⟨(some 52), (some (49, false)), .bin .neq .bool (.tmp 50) (.tmp 51), 127⟩,
  ⟨(some 53), none, .pick (.tmp 49) (.const (.bool true)) (.tmp 52), 255⟩]
def laws_FnExactJoinFilms_r13 : List SOper := [
  ⟨(some 4), none, .mov (.const (.bool false)), 0⟩]
def laws_FnExactJoinFilms_r14 (i_laws_toFilm i_laws_eqFilm : FuncId) : List SOper := [
  ⟨(some 54), none, .loadN 6 (.tmp 8), 0⟩,
  ⟨(some 55), none, .loadN 6 (.tmp 2), 0⟩,
  ⟨(some 56), none, .call (.func i_laws_toFilm) [(.tmp 55)], 2⟩,
  ⟨(some 57), none, .call (.func i_laws_eqFilm) [(.tmp 54), (.tmp 56)], 7⟩,
  ⟨(some 58), none, .un .not (.tmp 57), 15⟩]
def laws_FnExactJoinFilms_r15 : List SOper := [
  ⟨(some 4), none, .mov (.const (.bool false)), 0⟩]
def laws_FnExactJoinFilms_r16 (i_laws_toFilm i_laws_eqFilm : FuncId) : List SOper := [
  ⟨(some 59), none, .loadN 6 (.tmp 9), 0⟩,
  ⟨(some 60), none, .loadN 6 (.tmp 3), 0⟩,
  ⟨(some 61), none, .call (.func i_laws_toFilm) [(.tmp 60)], 2⟩,
  ⟨(some 62), none, .call (.func i_laws_eqFilm) [(.tmp 59), (.tmp 61)], 7⟩,
  ⟨(some 63), none, .un .not (.tmp 62), 15⟩]
def laws_FnExactJoinFilms_r17 : List SOper := [
  ⟨(some 4), none, .mov (.const (.bool false)), 0⟩]
def laws_FnExactJoinFilms_r18 : List SOper := [
  ⟨(some 12), none, .mov (.const (.int .i64 1)), 0⟩]
def laws_FnExactJoinFilms_r19 (i_laws_markFilm : FuncId) : List SOper := [
  ⟨(some 64), none, .loadN 6 (.tmp 8), 0⟩,
  ⟨(some 65), none, .mov (.tmp 12), 0⟩,
  ⟨(some 66), none, .call (.func i_laws_markFilm) [(.tmp 64), (.tmp 65)], 3⟩,
  ⟨(some 12), none, .mov (.tmp 66), 7⟩]
def laws_FnExactJoinFilms_r20 (i_laws_markFilm : FuncId) : List SOper := [
  ⟨(some 67), none, .loadN 6 (.tmp 9), 0⟩,
  ⟨(some 68), none, .mov (.tmp 12), 0⟩,
  ⟨(some 69), none, .call (.func i_laws_markFilm) [(.tmp 67), (.tmp 68)], 3⟩,
  ⟨(some 12), none, .mov (.tmp 69), 7⟩]
def laws_FnExactJoinFilms_r21 (i_laws_eqFilm : FuncId) : List SOper := [
  ⟨(some 70), none, .mov (.tmp 12), 0⟩,
  ⟨(some 71), none, .bin .lss .other (.tmp 70) (.const (.int .i64 0)), 1⟩,
  ⟨(some 72), none, .mov (.tmp 71), 3⟩,
  ⟨(some 73), (some (72, false)), .loadN 6 (.tmp 10), 7⟩,
  ⟨(some 74), (some (72, false)), .loadN 6 (.tmp 6), 7⟩,
  ⟨(some 75), (some (72, false)), .call (.func i_laws_eqFilm) [(.tmp 73), (.tmp 74)], 31⟩,
  ⟨(some 76), (some (72, false)), .un .not (.tmp 75), 63⟩,
  ⟨(some 77), none, .pick (.tmp 72) (.const (.bool true)) (.tmp 76), 127⟩,
  ⟨(some 78), none, .mov (.tmp 77), 255⟩,
  ⟨(some 79), (some (78, false)), .mov (.tmp 11), 511⟩,
  ⟨(some 80), (some (78, false)), .mov (.tmp 7), 511⟩,
  ⟨(some 81), (some (78, false)), .bin .neq .bool (.tmp 79) (.tmp 80), 2047⟩,
  ⟨(some 82), none, .pick (.tmp 78) (.const (.bool true)) (.tmp 81), 4095⟩]
def laws_FnExactJoinFilms_r22 : List SOper := [
  ⟨(some 4), none, .mov (.const (.bool false)), 0⟩]
def laws_FnExactJoinFilms_r23 : List SOper := [
  ⟨(some 13), none, .mov (.const (.int .i64 1)), 0⟩]
def laws_FnExactJoinFilms_r24 (i_laws_markFilm : FuncId) : List SOper := [
  ⟨(some 83), none, .loadN 6 (.tmp 10), 0⟩,
  ⟨(some 84), none, .mov (.tmp 13), 0⟩,
  ⟨(some 85), none, .call (.func i_laws_markFilm) [(.tmp 83), (.tmp 84)], 3⟩,
  ⟨(some 13), none, .mov (.tmp 85), 7⟩]
def laws_FnExactJoinFilms_r25 : List SOper := [
  ⟨(some 14), none, .mov (.const (.int .i64 1)), 0⟩]
def laws_FnExactJoinFilms_r26 (i_laws_heldFilm : FuncId) : List SOper := [
  ⟨(some 86), none, .loadN 6 (.tmp 10), 0⟩,
  ⟨(some 87), none, .mov (.tmp 14), 0⟩,
  ⟨(some 88), none, .call (.func i_laws_heldFilm) [(.tmp 86), (.tmp 87)], 3⟩,
  ⟨(some 14), none, .mov (.tmp 88), 7⟩]
def laws_FnExactJoinFilms_r27 : List SOper := [
  ⟨(some 89), none, .mov (.tmp 14), 0⟩,
  ⟨(some 90), none, .bin .lss .other (.tmp 89) (.const (.int .i64 0)), 1⟩]
def laws_FnExactJoinFilms_r28 : List SOper := [
  ⟨(some 4), none, .mov (.const (.bool false)), 0⟩]
def laws_FnExactJoinFilms_r29 : List SOper := [
  ⟨(some 91), none, .mov (.tmp 14), 0⟩,
  ⟨(some 92), none, .mov (.tmp 13), 0⟩,
  ⟨(some 93), none, .bin .neq .other (.tmp 91) (.tmp 92), 3⟩]
def laws_FnExactJoinFilms_r30 : List SOper := [
  ⟨(some 4), none, .mov (.const (.bool false)), 0⟩]
def laws_FnExactJoinFilms_r31 (i_laws_toFilm i_impl_JoinFilms : FuncId) : List SOper := [
  ⟨(some 95), none, .loadN 6 (.tmp 2), 0⟩,
  ⟨(some 96), none, .call (.func i_laws_toFilm) [(.tmp 95)], 1⟩,
  ⟨(some 97), none, .loadN 6 (.tmp 3), 0⟩,
  ⟨(some 98), none, .call (.func i_laws_toFilm) [(.tmp 97)], 7⟩,
  ⟨(some 99), none, .call (.func i_impl_JoinFilms) [(.tmp 96), (.tmp 98)], 15⟩,
  ⟨(some 94), none, .mov (.tmp 99), 31⟩,
  ⟨(some 100), none, .extract (.tmp 94) 0, 63⟩,
  ⟨(some 101), none, .extract (.tmp 94) 1, 63⟩,
  ⟨(some 15), none, .alloc [(.int .i64 0), (.int .i64 0), (.bool false), (.slice none 0 0), (.slice none 0 0), (.slice none 0 0)], 0⟩,
  ⟨none, none, .store 6 (.tmp 15) (.tmp 100), 383⟩,
  ⟨(some 16), none, .mov (.tmp 101), 1023⟩]
def laws_FnExactJoinFilms_r32 (i_laws_eqFilm : FuncId) : List SOper := [
  ⟨(some 102), none, .loadN 6 (.tmp 15), 0⟩,
  ⟨(some 103), none, .loadN 6 (.tmp 6), 0⟩,
  ⟨(some 104), none, .call (.func i_laws_eqFilm) [(.tmp 102), (.tmp 103)], 3⟩,
  ⟨(some 105), none, .un .not (.tmp 104), 7⟩,
  ⟨(some 106), none, .mov (.tmp 105), 15⟩,
  ⟨(some 107), (some (106, false)), .mov (.tmp 16), 31⟩,
  ⟨(some 108), (some (106, false)), .mov (.tmp 7), 31⟩,
  ⟨(some 109), (some (106, false)), .bin .neq .bool (.tmp 107) (.tmp 108), 127⟩,
  ⟨(some 110), none, .pick (.tmp 106) (.const (.bool true)) (.tmp 109), 255⟩]
def laws_FnExactJoinFilms_r33 : List SOper := [
  ⟨(some 4), none, .mov (.const (.bool false)), 0⟩]
def laws_FnExactJoinFilms_r34 : List SOper := [
  ⟨(some 14), none, .mov (.const (.int .i64 1)), 0⟩]
def laws_FnExactJoinFilms_r35 (i_laws_heldFilm : FuncId) : List SOper := [
  ⟨(some 111), none, .loadN 6 (.tmp 10), 0⟩,
  ⟨(some 112), none, .mov (.tmp 14), 0⟩,
  ⟨(some 113), none, .call (.func i_laws_heldFilm) [(.tmp 111), (.tmp 112)], 3⟩,
  ⟨(some 14), none, .mov (.tmp 113), 7⟩]
def laws_FnExactJoinFilms_r36 : List SOper := [
  ⟨(some 114), none, .mov (.tmp 14), 0⟩,
  ⟨(some 115), none, .bin .lss .other (.tmp 114) (.const (.int .i64 0)), 1⟩]
def laws_FnExactJoinFilms_r37 : List SOper := [
  ⟨(some 4), none, .mov (.const (.bool false)), 0⟩]
def laws_FnExactJoinFilms_r38 : List SOper := [
  ⟨(some 116), none, .mov (.tmp 14), 0⟩,
  ⟨(some 117), none, .mov (.tmp 13), 0⟩,
  ⟨(some 118), none, .bin .neq .other (.tmp 116) (.tmp 117), 3⟩]
def laws_FnExactJoinFilms_r39 : List SOper := [
  ⟨(some 4), none, .mov (.const (.bool false)), 0⟩]
def laws_FnExactJoinFilms_r40 : List SOper := [
  ⟨(some 4), none, .mov (.const (.bool true)), 0⟩]
def laws_FnExactJoinFilms (i_laws_szFilm i_laws_toFilm i_spec_JoinFilms i_impl_JoinFilms i_laws_eqFilm i_laws_markFilm i_laws_heldFilm : FuncId) : SFunc := ⟨119, [.tmp 4], (.kp [0, 1] (.seq (.region laws_FnExactJoinFilms_r0 false) (.kp [2, 3] (.seq (.region laws_FnExactJoinFilms_r1 false) (.kp [2, 3, 5] (.seq (.region (laws_FnExactJoinFilms_r2 i_laws_szFilm) false) (.kp [2, 3, 5] (.seq (.seq (.region laws_FnExactJoinFilms_r3 false) (.kp [2, 3, 5, 21] (.cond (.tmp 21) (.seq (.region laws_FnExactJoinFilms_r4 false) .ret) .skip))) (.kp [2, 3, 5] (.seq (.region (laws_FnExactJoinFilms_r5 i_laws_szFilm) false) (.kp [2, 3, 5] (.seq (.seq (.region laws_FnExactJoinFilms_r6 false) (.kp [2, 3, 26] (.cond (.tmp 26) (.seq (.region laws_FnExactJoinFilms_r7 false) .ret) .skip))) (.kp [2, 3] (.seq (.region (laws_FnExactJoinFilms_r8 i_laws_toFilm i_spec_JoinFilms) true) (.kp [2, 3, 6, 7] (.seq (.region (laws_FnExactJoinFilms_r9 i_laws_toFilm) false) (.kp [2, 3, 6, 7, 8] (.seq (.region (laws_FnExactJoinFilms_r10 i_laws_toFilm) false) (.kp [2, 3, 6, 7, 8, 9] (.seq (.region (laws_FnExactJoinFilms_r11 i_impl_JoinFilms) false) (.kp [2, 3, 6, 7, 8, 9, 10, 11] (.seq (.seq (.region (laws_FnExactJoinFilms_r12 i_laws_eqFilm) false) (.kp [2, 3, 6, 7, 8, 9, 10, 11, 53] (.cond (.tmp 53) (.seq (.region laws_FnExactJoinFilms_r13 false) .ret) .skip))) (.kp [2, 3, 6, 7, 8, 9, 10, 11] (.seq (.seq (.region (laws_FnExactJoinFilms_r14 i_laws_toFilm i_laws_eqFilm) true) (.kp [2, 3, 6, 7, 8, 9, 10, 11, 58] (.cond (.tmp 58) (.seq (.region laws_FnExactJoinFilms_r15 false) .ret) .skip))) (.kp [2, 3, 6, 7, 8, 9, 10, 11] (.seq (.seq (.region (laws_FnExactJoinFilms_r16 i_laws_toFilm i_laws_eqFilm) true) (.kp [2, 3, 6, 7, 8, 9, 10, 11, 63] (.cond (.tmp 63) (.seq (.region laws_FnExactJoinFilms_r17 false) .ret) .skip))) (.kp [2, 3, 6, 7, 8, 9, 10, 11] (.seq (.region laws_FnExactJoinFilms_r18 false) (.kp [2, 3, 6, 7, 8, 9, 10, 11, 12] (.seq (.region (laws_FnExactJoinFilms_r19 i_laws_markFilm) false) (.kp [2, 3, 6, 7, 9, 10, 11, 12] (.seq (.region (laws_FnExactJoinFilms_r20 i_laws_markFilm) false) (.kp [2, 3, 6, 7, 10, 11, 12] (.seq (.seq (.region (laws_FnExactJoinFilms_r21 i_laws_eqFilm) false) (.kp [2, 3, 6, 7, 10, 82] (.cond (.tmp 82) (.seq (.region laws_FnExactJoinFilms_r22 false) .ret) .skip))) (.kp [2, 3, 6, 7, 10] (.seq (.region laws_FnExactJoinFilms_r23 false) (.kp [2, 3, 6, 7, 10, 13] (.seq (.region (laws_FnExactJoinFilms_r24 i_laws_markFilm) false) (.kp [2, 3, 6, 7, 10, 13] (.seq (.region laws_FnExactJoinFilms_r25 false) (.kp [2, 3, 6, 7, 10, 13, 14] (.seq (.region (laws_FnExactJoinFilms_r26 i_laws_heldFilm) false) (.kp [2, 3, 6, 7, 10, 13, 14] (.seq (.seq (.region laws_FnExactJoinFilms_r27 false) (.kp [2, 3, 6, 7, 10, 13, 14, 90] (.cond (.tmp 90) (.seq (.region laws_FnExactJoinFilms_r28 false) .ret) .skip))) (.kp [2, 3, 6, 7, 10, 13, 14] (.seq (.seq (.region laws_FnExactJoinFilms_r29 false) (.kp [2, 3, 6, 7, 10, 13, 93] (.cond (.tmp 93) (.seq (.region laws_FnExactJoinFilms_r30 false) .ret) .skip))) (.kp [2, 3, 6, 7, 10, 13] (.seq (.region (laws_FnExactJoinFilms_r31 i_laws_toFilm i_impl_JoinFilms) true) (.kp [6, 7, 10, 13, 15, 16] (.seq (.seq (.region (laws_FnExactJoinFilms_r32 i_laws_eqFilm) false) (.kp [10, 13, 110] (.cond (.tmp 110) (.seq (.region laws_FnExactJoinFilms_r33 false) .ret) .skip))) (.kp [10, 13] (.seq (.region laws_FnExactJoinFilms_r34 false) (.kp [10, 13, 14] (.seq (.region (laws_FnExactJoinFilms_r35 i_laws_heldFilm) false) (.kp [13, 14] (.seq (.seq (.region laws_FnExactJoinFilms_r36 false) (.kp [13, 14, 115] (.cond (.tmp 115) (.seq (.region laws_FnExactJoinFilms_r37 false) .ret) .skip))) (.kp [13, 14] (.seq (.seq (.region laws_FnExactJoinFilms_r38 false) (.kp [118] (.cond (.tmp 118) (.seq (.region laws_FnExactJoinFilms_r39 false) .ret) .skip))) (.kp [] (.seq (.region laws_FnExactJoinFilms_r40 false) .ret))))))))))))))))))))))))))))))))))))))))))))))))))))))))))))⟩
theorem laws_FnExactJoinFilms_r8_dr {i_laws_toFilm i_spec_JoinFilms : FuncId} : (drawOkS (laws_FnExactJoinFilms_r8 i_laws_toFilm i_spec_JoinFilms) && storesOnly (laws_FnExactJoinFilms_r8 i_laws_toFilm i_spec_JoinFilms)) = true := by kernel_rfl
attribute [push_cast] laws_FnExactJoinFilms_r8_dr
theorem laws_FnExactJoinFilms_r14_dr {i_laws_toFilm i_laws_eqFilm : FuncId} : drawOkW wStat (laws_FnExactJoinFilms_r14 i_laws_toFilm i_laws_eqFilm) = true := by kernel_rfl
attribute [push_cast] laws_FnExactJoinFilms_r14_dr
theorem laws_FnExactJoinFilms_r16_dr {i_laws_toFilm i_laws_eqFilm : FuncId} : drawOkW wStat (laws_FnExactJoinFilms_r16 i_laws_toFilm i_laws_eqFilm) = true := by kernel_rfl
attribute [push_cast] laws_FnExactJoinFilms_r16_dr
theorem laws_FnExactJoinFilms_r31_dr {i_laws_toFilm i_impl_JoinFilms : FuncId} : (drawOkS (laws_FnExactJoinFilms_r31 i_laws_toFilm i_impl_JoinFilms) && storesOnly (laws_FnExactJoinFilms_r31 i_laws_toFilm i_impl_JoinFilms)) = true := by kernel_rfl
attribute [push_cast] laws_FnExactJoinFilms_r31_dr
def laws_FnExactJoinFilms_ok (c : Contract) : Prop := AlwaysTrue [filmK, filmK] c
theorem rowJoinFilms_f {C : Ctab} {i1 i2 i3 i4 i5 i6 i7 : FuncId} {c1 c2 c3 c4 c5 c6 c7 : Contract} (h1 : Has C i1 c1 laws_szFilm_ok) (h2 : Has C i2 c2 laws_toFilm_ok) (h3 : Has C i3 c3 spec_JoinFilms_ok) (h4 : Has C i4 c4 impl_JoinFilms_ok) (h5 : Has C i5 c5 laws_eqFilm_ok) (h6 : HasW C i6 c6 laws_markFilm_ok) (h7 : Has C i7 c7 laws_heldFilm_ok) (σ : Heap) (w0 h0_ : Int) (wr0 : Bool) (sv0 lv0 : Value) (sp0 lo0 : List Nat) (r0 : ShR σ sv0 lv0 sp0 lo0) (ba0 : sp0.length ≤ 9223372036854775807) (bb0 : lo0.length ≤ 9223372036854775807) (fv0 : Value) (fs0 : List Fld) (rf0 : FlsR σ fv0 fs0) (bf0 : bigF fs0) (ia0 : in32 sp0) (ib0 : in32 lo0) (w1 h1_ : Int) (wr1 : Bool) (sv1 lv1 : Value) (sp1 lo1 : List Nat) (r1 : ShR σ sv1 lv1 sp1 lo1) (ba1 : sp1.length ≤ 9223372036854775807) (bb1 : lo1.length ≤ 9223372036854775807) (fv1 : Value) (fs1 : List Fld) (rf1 : FlsR σ fv1 fs1) (bf1 : bigF fs1) (ia1 : in32 sp1) (ib1 : in32 lo1) (hz0 : ¬ szFilm sp0 lo0 fs0 (1048576) < 0) (hz1 : ¬ szFilm sp1 lo1 fs1 (szFilm sp0 lo0 fs0 (1048576)) < 0)
    (hok : joinOk w0 h0_ wr0 sp0 lo0 fs0 w1 h1_ wr1 sp1 lo1 fs1 = false) : Ret (gcC C (laws_FnExactJoinFilms i1 i2 i3 i4 i5 i6 i7) true) [fmV w0 h0_ wr0 sv0 lv0 fv0, fmV w1 h1_ wr1 sv1 lv1 fv1] σ fun v _ => v = .bool true := by
  have ka0 := r0.s.ok
  have kb0 := r0.l.ok
  have kc0 := rf0.ok
  have ka1 := r1.s.ok
  have kb1 := r1.l.ok
  have kc1 := rf1.ok
  have z0 := szFilm_fact sp0 lo0 fs0 (1048576) (by omega) (by omega)
  obtain ⟨na0, nb0, hfit0, hsum0⟩ := z0.2.2 (by omega)
  have z1 := szFilm_fact sp1 lo1 fs1 (szFilm sp0 lo0 fs0 (1048576)) (by omega) (by omega)
  obtain ⟨na1, nb1, hfit1, hsum1⟩ := z1.2.2 (by omega)
  refine ret_gc rfl rfl ?_
  repeat' (first | refine ff ?_ | ((first | refine EvR.aSplB ?_ ?_ | refine Ev.aSplB ?_ ?_) <;> (intro hb; (try rw [hb]); (try simp only [Bool.not_eq_true', Bool.not_eq_false', Bool.not_eq_eq_eq_not, Bool.not_true, Bool.not_false, decide_eq_true_eq, decide_eq_false_iff_not, Bool.and_eq_true, Bool.and_eq_false_iff, Bool.or_eq_true, Bool.or_eq_false_iff] at hb); (try (exfalso; first | omega | exact hb trivial)))) | (apply endS trivial; rotate_left; (· exact eva); (· rfl); try refine ⟨?_, rfl⟩) | fail)
  (apply EvR.aCall h1.at_; (· exact eva); (· exact  h1.ok _ w0 h0_ wr0 sv0 lv0 fv0 sp0 lo0 fs0 (1048576) ⟨r0.s.ext _, r0.l.ext _⟩ (rf0.ext _) ba0 bb0 bf0 (by omega) (by omega)); (rintro _ _ ⟨rfl, rfl⟩; refine EvR.nrm ?_))
  repeat' (first | refine ff ?_ | ((first | refine EvR.aSplB ?_ ?_ | refine Ev.aSplB ?_ ?_) <;> (intro hb; (try rw [hb]); (try simp only [Bool.not_eq_true', Bool.not_eq_false', Bool.not_eq_eq_eq_not, Bool.not_true, Bool.not_false, decide_eq_true_eq, decide_eq_false_iff_not, Bool.and_eq_true, Bool.and_eq_false_iff, Bool.or_eq_true, Bool.or_eq_false_iff] at hb); (try (exfalso; first | omega | exact hb trivial)))) | (apply endS trivial; rotate_left; (· exact eva); (· rfl); try refine ⟨?_, rfl⟩) | fail)
  (apply EvR.aCall h1.at_; (· exact eva); (· exact  h1.ok _ w1 h1_ wr1 sv1 lv1 fv1 sp1 lo1 fs1 (szFilm sp0 lo0 fs0 (1048576)) ⟨r1.s.ext _, r1.l.ext _⟩ (rf1.ext _) ba1 bb1 bf1 (by omega) (by omega)); (rintro _ _ ⟨rfl, rfl⟩; refine EvR.nrm ?_))
  repeat' (first | refine ff ?_ | ((first | refine EvR.aSplB ?_ ?_ | refine Ev.aSplB ?_ ?_) <;> (intro hb; (try rw [hb]); (try simp only [Bool.not_eq_true', Bool.not_eq_false', Bool.not_eq_eq_eq_not, Bool.not_true, Bool.not_false, decide_eq_true_eq, decide_eq_false_iff_not, Bool.and_eq_true, Bool.and_eq_false_iff, Bool.or_eq_true, Bool.or_eq_false_iff] at hb); (try (exfalso; first | omega | exact hb trivial)))) | (apply endS trivial; rotate_left; (· exact eva); (· rfl); try refine ⟨?_, rfl⟩) | fail)
  apply EvR.aCall h2.at_; (· exact eva); (· exact h2.ok _ w0 h0_ wr0 sv0 lv0 fv0 sp0 lo0 fs0 (r0.pre ((Pre.refl σ).app _)) (rf0.pre ((Pre.refl σ).app _)) na0 nb0 hfit0); rintro _ _ ⟨τ1, s1, l1, b1, R1, rfl, rfl, o1⟩
  refine EvR.base2 fun A1 S1 f_1 e_1 q_1 => ?_
  rw [← e_1, ← f_1] at o1
  have v_1 : Pre σ A1 := by rw [f_1]; exact (Pre.refl _).app _
  have pt_t0 : PtAt A1 (σ.length + 0) 0 [.int .i64 w0, .int .i64 h0_, .bool wr0, sv0, lv0, fv0] := by rw [f_1]; exact PtAt.own rfl
  have pt_t1 : PtAt A1 (σ.length + 1) 0 [.int .i64 w1, .int .i64 h1_, .bool wr1, sv1, lv1, fv1] := by rw [f_1]; exact PtAt.own rfl
  have g_t0_1 : PtAt S1 (σ.length + 0) 0 [.int .i64 w0, .int .i64 h0_, .bool wr0, sv0, lv0, fv0] := pt_t0.pre q_1
  have g_t1_1 : PtAt S1 (σ.length + 1) 0 [.int .i64 w1, .int .i64 h1_, .bool wr1, sv1, lv1, fv1] := pt_t1.pre q_1
  refine EvR.nrm ?_
  repeat' (first | refine ff ?_ | ((first | refine EvR.aSplB ?_ ?_ | refine Ev.aSplB ?_ ?_) <;> (intro hb; (try rw [hb]); (try simp only [Bool.not_eq_true', Bool.not_eq_false', Bool.not_eq_eq_eq_not, Bool.not_true, Bool.not_false, decide_eq_true_eq, decide_eq_false_iff_not, Bool.and_eq_true, Bool.and_eq_false_iff, Bool.or_eq_true, Bool.or_eq_false_iff] at hb); (try (exfalso; first | omega | exact hb trivial)))) | (apply endS trivial; rotate_left; (· exact eva); (· rfl); try refine ⟨?_, rfl⟩) | fail)
  apply EvR.aCall h2.at_; (· exact eva); (· exact h2.ok _ w1 h1_ wr1 sv1 lv1 fv1 sp1 lo1 fs1 (r1.pre ((v_1.trans q_1).app _)) (rf1.pre ((v_1.trans q_1).app _)) na1 nb1 hfit1); rintro _ _ ⟨τ2, s2, l2, b2, R2, rfl, rfl, o2⟩
  refine EvR.base2 fun A2 S2 f_2 e_2 q_2 => ?_
  rw [← e_2, ← f_2] at o2
  have v_2 : Pre S1 A2 := by rw [f_2]; exact (Pre.refl _).app _
  clear g_t0_1 g_t1_1
  have g_t0_2 : PtAt S2 (σ.length + 0) 0 [.int .i64 w0, .int .i64 h0_, .bool wr0, sv0, lv0, fv0] := pt_t0.pre (q_1.trans (v_2.trans q_2))
  have g_t1_2 : PtAt S2 (σ.length + 1) 0 [.int .i64 w1, .int .i64 h1_, .bool wr1, sv1, lv1, fv1] := pt_t1.pre (q_1.trans (v_2.trans q_2))
  refine EvR.nrm ?_
  repeat' (first | refine ff ?_ | ((first | refine EvR.aSplB ?_ ?_ | refine Ev.aSplB ?_ ?_) <;> (intro hb; (try rw [hb]); (try simp only [Bool.not_eq_true', Bool.not_eq_false', Bool.not_eq_eq_eq_not, Bool.not_true, Bool.not_false, decide_eq_true_eq, decide_eq_false_iff_not, Bool.and_eq_true, Bool.and_eq_false_iff, Bool.or_eq_true, Bool.or_eq_false_iff] at hb); (try (exfalso; first | omega | exact hb trivial)))) | (apply endS trivial; rotate_left; (· exact eva); (· rfl); try refine ⟨?_, rfl⟩) | fail)
  apply EvR.aCall h3.at_; (· exact eva); (· exact h3.ok _ w0 h0_ wr0 _ _ _ sp0 lo0 fs0 w1 h1_ wr1 _ _ _ sp1 lo1 fs1 ((o1.pre (v_2.trans q_2)).ext _).sheet ((o1.pre (v_2.trans q_2)).ext _).fls ((o2.pre (Pre.refl S2)).ext _).sheet ((o2.pre (Pre.refl S2)).ext _).fls na0 nb0 hfit0 na1 nb1 hfit1 ia0 ib0 ia1 ib1); rintro _ _ hres
  obtain ⟨⟨τ3, rfl⟩, rfl⟩ := hres.f hok
  clear hres
  refine EvR.base2 fun A3 S3 f_3 e_3 q_3 => ?_
  have v_3 : Pre S2 A3 := by rw [f_3]; exact (Pre.refl _).app _
  clear g_t0_2 g_t1_2
  have g_t0_3 : PtAt S3 (σ.length + 0) 0 [.int .i64 w0, .int .i64 h0_, .bool wr0, sv0, lv0, fv0] := pt_t0.pre (q_1.trans (v_2.trans (q_2.trans (v_3.trans q_3))))
  have g_t1_3 : PtAt S3 (σ.length + 1) 0 [.int .i64 w1, .int .i64 h1_, .bool wr1, sv1, lv1, fv1] := pt_t1.pre (q_1.trans (v_2.trans (q_2.trans (v_3.trans q_3))))
  refine EvR.nrm ?_
  repeat' (first | refine ff ?_ | ((first | refine EvR.aSplB ?_ ?_ | refine Ev.aSplB ?_ ?_) <;> (intro hb; (try rw [hb]); (try simp only [Bool.not_eq_true', Bool.not_eq_false', Bool.not_eq_eq_eq_not, Bool.not_true, Bool.not_false, decide_eq_true_eq, decide_eq_false_iff_not, Bool.and_eq_true, Bool.and_eq_false_iff, Bool.or_eq_true, Bool.or_eq_false_iff] at hb); (try (exfalso; first | omega | exact hb trivial)))) | (apply endS trivial; rotate_left; (· exact eva); (· rfl); try refine ⟨?_, rfl⟩) | fail)
  refine EvR.base fun S4 f_4 => ?_
  have v_4 : Pre S3 S4 := by rw [f_4]; exact (Pre.refl _).app _
  have pt_spec : PtAt S4 (S3.length + 0) 0 [.int .i64 0, .int .i64 0, .bool false, .slice none 0 0, .slice none 0 0, .slice none 0 0] := by rw [f_4]; exact PtAt.own rfl
  clear g_t0_3 g_t1_3
  have g_t0_4 : PtAt S4 (σ.length + 0) 0 [.int .i64 w0, .int .i64 h0_, .bool wr0, sv0, lv0, fv0] := pt_t0.pre (q_1.trans (v_2.trans (q_2.trans (v_3.trans (q_3.trans v_4)))))
  have g_t1_4 : PtAt S4 (σ.length + 1) 0 [.int .i64 w1, .int .i64 h1_, .bool wr1, sv1, lv1, fv1] := pt_t1.pre (q_1.trans (v_2.trans (q_2.trans (v_3.trans (q_3.trans v_4)))))
  refine EvR.nrm ?_
  apply EvR.aCall h2.at_; (· exact eva); (· exact h2.ok _ w0 h0_ wr0 sv0 lv0 fv0 sp0 lo0 fs0 (r0.pre ((v_1.trans (q_1.trans (v_2.trans (q_2.trans (v_3.trans (q_3.trans v_4)))))).app _)) (rf0.pre ((v_1.trans (q_1.trans (v_2.trans (q_2.trans (v_3.trans (q_3.trans v_4)))))).app _)) na0 nb0 hfit0); rintro _ _ ⟨τ5, s5, l5, b5, R5, rfl, rfl, o5⟩
  refine EvR.base2 fun A5 S5 f_5 e_5 q_5 => ?_
  rw [← e_5, ← f_5] at o5
  have v_5 : Pre S4 A5 := by rw [f_5]; exact (Pre.refl _).app _
  clear g_t0_4 g_t1_4
  have g_t0_5 : PtAt S5 (σ.length + 0) 0 [.int .i64 w0, .int .i64 h0_, .bool wr0, sv0, lv0, fv0] := pt_t0.pre (q_1.trans (v_2.trans (q_2.trans (v_3.trans (q_3.trans (v_4.trans (v_5.trans q_5)))))))
  have g_t1_5 : PtAt S5 (σ.length + 1) 0 [.int .i64 w1, .int .i64 h1_, .bool wr1, sv1, lv1, fv1] := pt_t1.pre (q_1.trans (v_2.trans (q_2.trans (v_3.trans (q_3.trans (v_4.trans (v_5.trans q_5)))))))
  have g_spec_5 : PtAt S5 (S3.length + 0) 0 [.int .i64 0, .int .i64 0, .bool false, .slice none 0 0, .slice none 0 0, .slice none 0 0] := pt_spec.pre (v_5.trans q_5)
  refine EvR.nrm ?_
  repeat' (first | refine ff ?_ | ((first | refine EvR.aSplB ?_ ?_ | refine Ev.aSplB ?_ ?_) <;> (intro hb; (try rw [hb]); (try simp only [Bool.not_eq_true', Bool.not_eq_false', Bool.not_eq_eq_eq_not, Bool.not_true, Bool.not_false, decide_eq_true_eq, decide_eq_false_iff_not, Bool.and_eq_true, Bool.and_eq_false_iff, Bool.or_eq_true, Bool.or_eq_false_iff] at hb); (try (exfalso; first | omega | exact hb trivial)))) | (apply endS trivial; rotate_left; (· exact eva); (· rfl); try refine ⟨?_, rfl⟩) | fail)
  apply EvR.aCall h2.at_; (· exact eva); (· exact h2.ok _ w1 h1_ wr1 sv1 lv1 fv1 sp1 lo1 fs1 (r1.pre ((v_1.trans (q_1.trans (v_2.trans (q_2.trans (v_3.trans (q_3.trans (v_4.trans (v_5.trans q_5)))))))).app _)) (rf1.pre ((v_1.trans (q_1.trans (v_2.trans (q_2.trans (v_3.trans (q_3.trans (v_4.trans (v_5.trans q_5)))))))).app _)) na1 nb1 hfit1); rintro _ _ ⟨τ6, s6, l6, b6, R6, rfl, rfl, o6⟩
  refine EvR.base2 fun A6 S6 f_6 e_6 q_6 => ?_
  rw [← e_6, ← f_6] at o6
  have v_6 : Pre S5 A6 := by rw [f_6]; exact (Pre.refl _).app _
  have pt_c0 : PtAt A6 (S5.length + 0) 0 [.int .i64 w0, .int .i64 h0_, .bool wr0, slV s5 sp0.length, slV l5 lo0.length, slV b5 fs0.length] := by rw [f_6]; exact PtAt.own rfl
  clear g_t0_5 g_t1_5 g_spec_5
  have g_t0_6 : PtAt S6 (σ.length + 0) 0 [.int .i64 w0, .int .i64 h0_, .bool wr0, sv0, lv0, fv0] := pt_t0.pre (q_1.trans (v_2.trans (q_2.trans (v_3.trans (q_3.trans (v_4.trans (v_5.trans (q_5.trans (v_6.trans q_6)))))))))
  have g_t1_6 : PtAt S6 (σ.length + 1) 0 [.int .i64 w1, .int .i64 h1_, .bool wr1, sv1, lv1, fv1] := pt_t1.pre (q_1.trans (v_2.trans (q_2.trans (v_3.trans (q_3.trans (v_4.trans (v_5.trans (q_5.trans (v_6.trans q_6)))))))))
  have g_spec_6 : PtAt S6 (S3.length + 0) 0 [.int .i64 0, .int .i64 0, .bool false, .slice none 0 0, .slice none 0 0, .slice none 0 0] := pt_spec.pre (v_5.trans (q_5.trans (v_6.trans q_6)))
  have g_c0_6 : PtAt S6 (S5.length + 0) 0 [.int .i64 w0, .int .i64 h0_, .bool wr0, slV s5 sp0.length, slV l5 lo0.length, slV b5 fs0.length] := pt_c0.pre q_6
  refine EvR.nrm ?_
  repeat' (first | refine ff ?_ | ((first | refine EvR.aSplB ?_ ?_ | refine Ev.aSplB ?_ ?_) <;> (intro hb; (try rw [hb]); (try simp only [Bool.not_eq_true', Bool.not_eq_false', Bool.not_eq_eq_eq_not, Bool.not_true, Bool.not_false, decide_eq_true_eq, decide_eq_false_iff_not, Bool.and_eq_true, Bool.and_eq_false_iff, Bool.or_eq_true, Bool.or_eq_false_iff] at hb); (try (exfalso; first | omega | exact hb trivial)))) | (apply endS trivial; rotate_left; (· exact eva); (· rfl); try refine ⟨?_, rfl⟩) | fail)
  apply EvR.aCall h4.at_; (· exact eva); (· exact h4.ok _ w0 h0_ wr0 _ _ _ sp0 lo0 fs0 w1 h1_ wr1 _ _ _ sp1 lo1 fs1 ((o5.pre (v_6.trans q_6)).ext _).sheet ((o5.pre (v_6.trans q_6)).ext _).fls ((o6.pre (Pre.refl S6)).ext _).sheet ((o6.pre (Pre.refl S6)).ext _).fls na0 nb0 hfit0 na1 nb1 hfit1 ia0 ib0 ia1 ib1); rintro _ _ hres
  obtain ⟨⟨τ7, rfl⟩, rfl⟩ := hres.f hok
  clear hres
  refine EvR.base2 fun A7 S7 f_7 e_7 q_7 => ?_
  have v_7 : Pre S6 A7 := by rw [f_7]; exact (Pre.refl _).app _
  have pt_c1 : PtAt A7 (S6.length + 0) 0 [.int .i64 w1, .int .i64 h1_, .bool wr1, slV s6 sp1.length, slV l6 lo1.length, slV b6 fs1.length] := by rw [f_7]; exact PtAt.own rfl
  clear g_t0_6 g_t1_6 g_spec_6 g_c0_6
  have g_t0_7 : PtAt S7 (σ.length + 0) 0 [.int .i64 w0, .int .i64 h0_, .bool wr0, sv0, lv0, fv0] := pt_t0.pre (q_1.trans (v_2.trans (q_2.trans (v_3.trans (q_3.trans (v_4.trans (v_5.trans (q_5.trans (v_6.trans (q_6.trans (v_7.trans q_7)))))))))))
  have g_t1_7 : PtAt S7 (σ.length + 1) 0 [.int .i64 w1, .int .i64 h1_, .bool wr1, sv1, lv1, fv1] := pt_t1.pre (q_1.trans (v_2.trans (q_2.trans (v_3.trans (q_3.trans (v_4.trans (v_5.trans (q_5.trans (v_6.trans (q_6.trans (v_7.trans q_7)))))))))))
  have g_spec_7 : PtAt S7 (S3.length + 0) 0 [.int .i64 0, .int .i64 0, .bool false, .slice none 0 0, .slice none 0 0, .slice none 0 0] := pt_spec.pre (v_5.trans (q_5.trans (v_6.trans (q_6.trans (v_7.trans q_7)))))
  have g_c0_7 : PtAt S7 (S5.length + 0) 0 [.int .i64 w0, .int .i64 h0_, .bool wr0, slV s5 sp0.length, slV l5 lo0.length, slV b5 fs0.length] := pt_c0.pre (q_6.trans (v_7.trans q_7))
  have g_c1_7 : PtAt S7 (S6.length + 0) 0 [.int .i64 w1, .int .i64 h1_, .bool wr1, slV s6 sp1.length, slV l6 lo1.length, slV b6 fs1.length] := pt_c1.pre q_7
  refine EvR.nrm ?_
  repeat' (first | refine ff ?_ | ((first | refine EvR.aSplB ?_ ?_ | refine Ev.aSplB ?_ ?_) <;> (intro hb; (try rw [hb]); (try simp only [Bool.not_eq_true', Bool.not_eq_false', Bool.not_eq_eq_eq_not, Bool.not_true, Bool.not_false, decide_eq_true_eq, decide_eq_false_iff_not, Bool.and_eq_true, Bool.and_eq_false_iff, Bool.or_eq_true, Bool.or_eq_false_iff] at hb); (try (exfalso; first | omega | exact hb trivial)))) | (apply endS trivial; rotate_left; (· exact eva); (· rfl); try refine ⟨?_, rfl⟩) | fail)
  (apply EvR.aCall h5.at_; (· exact eva); (· exact  h5.ok _ 0 0 false _ _ _ _ _ _ [] [] [] (noShR _) (noFlsR _) (noShR _) (noFlsR _) (by simp) (by simp) noFits); (rintro _ _ ⟨rfl, rfl⟩; refine EvR.nrm ?_))
  repeat' (first | refine ff ?_ | ((first | refine EvR.aSplB ?_ ?_ | refine Ev.aSplB ?_ ?_) <;> (intro hb; (try rw [hb]); (try simp only [Bool.not_eq_true', Bool.not_eq_false', Bool.not_eq_eq_eq_not, Bool.not_true, Bool.not_false, decide_eq_true_eq, decide_eq_false_iff_not, Bool.and_eq_true, Bool.and_eq_false_iff, Bool.or_eq_true, Bool.or_eq_false_iff] at hb); (try (exfalso; first | omega | exact hb trivial)))) | (apply endS trivial; rotate_left; (· exact eva); (· rfl); try refine ⟨?_, rfl⟩) | fail)
  apply EvR.aCall h2.at_; (· exact eva); (· exact h2.ok _ w0 h0_ wr0 sv0 lv0 fv0 sp0 lo0 fs0 (r0.pre ((v_1.trans (q_1.trans (v_2.trans (q_2.trans (v_3.trans (q_3.trans (v_4.trans (v_5.trans (q_5.trans (v_6.trans (q_6.trans (v_7.trans q_7)))))))))))).app _)) (rf0.pre ((v_1.trans (q_1.trans (v_2.trans (q_2.trans (v_3.trans (q_3.trans (v_4.trans (v_5.trans (q_5.trans (v_6.trans (q_6.trans (v_7.trans q_7)))))))))))).app _)) na0 nb0 hfit0); rintro _ _ ⟨τ8, s8, l8, b8, R8, rfl, rfl, o8⟩
  refine EvR.base2 fun A8 S8 f_8 e_8 q_8 => ?_
  rw [← e_8, ← f_8] at o8
  have v_8 : Pre S7 A8 := by rw [f_8]; exact (Pre.refl _).app _
  have pt_res : PtAt A8 (S7.length + 0) 0 [.int .i64 0, .int .i64 0, .bool false, .slice none 0 0, .slice none 0 0, .slice none 0 0] := by rw [f_8]; exact PtAt.own rfl
  clear g_t0_7 g_t1_7 g_spec_7 g_c0_7 g_c1_7
  have g_t0_8 : PtAt S8 (σ.length + 0) 0 [.int .i64 w0, .int .i64 h0_, .bool wr0, sv0, lv0, fv0] := pt_t0.pre (q_1.trans (v_2.trans (q_2.trans (v_3.trans (q_3.trans (v_4.trans (v_5.trans (q_5.trans (v_6.trans (q_6.trans (v_7.trans (q_7.trans (v_8.trans q_8)))))))))))))
  have g_t1_8 : PtAt S8 (σ.length + 1) 0 [.int .i64 w1, .int .i64 h1_, .bool wr1, sv1, lv1, fv1] := pt_t1.pre (q_1.trans (v_2.trans (q_2.trans (v_3.trans (q_3.trans (v_4.trans (v_5.trans (q_5.trans (v_6.trans (q_6.trans (v_7.trans (q_7.trans (v_8.trans q_8)))))))))))))
  have g_spec_8 : PtAt S8 (S3.length + 0) 0 [.int .i64 0, .int .i64 0, .bool false, .slice none 0 0, .slice none 0 0, .slice none 0 0] := pt_spec.pre (v_5.trans (q_5.trans (v_6.trans (q_6.trans (v_7.trans (q_7.trans (v_8.trans q_8)))))))
  have g_c0_8 : PtAt S8 (S5.length + 0) 0 [.int .i64 w0, .int .i64 h0_, .bool wr0, slV s5 sp0.length, slV l5 lo0.length, slV b5 fs0.length] := pt_c0.pre (q_6.trans (v_7.trans (q_7.trans (v_8.trans q_8))))
  have g_c1_8 : PtAt S8 (S6.length + 0) 0 [.int .i64 w1, .int .i64 h1_, .bool wr1, slV s6 sp1.length, slV l6 lo1.length, slV b6 fs1.length] := pt_c1.pre (q_7.trans (v_8.trans q_8))
  have g_res_8 : PtAt S8 (S7.length + 0) 0 [.int .i64 0, .int .i64 0, .bool false, .slice none 0 0, .slice none 0 0, .slice none 0 0] := pt_res.pre q_8
  refine EvR.nrm ?_
  repeat' (first | refine ff ?_ | ((first | refine EvR.aSplB ?_ ?_ | refine Ev.aSplB ?_ ?_) <;> (intro hb; (try rw [hb]); (try simp only [Bool.not_eq_true', Bool.not_eq_false', Bool.not_eq_eq_eq_not, Bool.not_true, Bool.not_false, decide_eq_true_eq, decide_eq_false_iff_not, Bool.and_eq_true, Bool.and_eq_false_iff, Bool.or_eq_true, Bool.or_eq_false_iff] at hb); (try (exfalso; first | omega | exact hb trivial)))) | (apply endS trivial; rotate_left; (· exact eva); (· rfl); try refine ⟨?_, rfl⟩) | fail)
  (apply EvR.aCall h5.at_; (· exact eva); (· exact  h5.ok _ w0 h0_ wr0 _ _ _ _ _ _ sp0 lo0 fs0 ((o5.pre (v_6.trans (q_6.trans (v_7.trans (q_7.trans (v_8.trans q_8)))))).ext _).sheet ((o5.pre (v_6.trans (q_6.trans (v_7.trans (q_7.trans (v_8.trans q_8)))))).ext _).fls (o8.ext _).sheet (o8.ext _).fls na0 nb0 hfit0); (rintro _ _ ⟨rfl, rfl⟩; refine EvR.nrm ?_))
  repeat' (first | refine ff ?_ | ((first | refine EvR.aSplB ?_ ?_ | refine Ev.aSplB ?_ ?_) <;> (intro hb; (try rw [hb]); (try simp only [Bool.not_eq_true', Bool.not_eq_false', Bool.not_eq_eq_eq_not, Bool.not_true, Bool.not_false, decide_eq_true_eq, decide_eq_false_iff_not, Bool.and_eq_true, Bool.and_eq_false_iff, Bool.or_eq_true, Bool.or_eq_false_iff] at hb); (try (exfalso; first | omega | exact hb trivial)))) | (apply endS trivial; rotate_left; (· exact eva); (· rfl); try refine ⟨?_, rfl⟩) | fail)
  apply EvR.aCall h2.at_; (· exact eva); (· exact h2.ok _ w1 h1_ wr1 sv1 lv1 fv1 sp1 lo1 fs1 (r1.pre ((v_1.trans (q_1.trans (v_2.trans (q_2.trans (v_3.trans (q_3.trans (v_4.trans (v_5.trans (q_5.trans (v_6.trans (q_6.trans (v_7.trans (q_7.trans (v_8.trans q_8)))))))))))))).app _)) (rf1.pre ((v_1.trans (q_1.trans (v_2.trans (q_2.trans (v_3.trans (q_3.trans (v_4.trans (v_5.trans (q_5.trans (v_6.trans (q_6.trans (v_7.trans (q_7.trans (v_8.trans q_8)))))))))))))).app _)) na1 nb1 hfit1); rintro _ _ ⟨τ9, s9, l9, b9, R9, rfl, rfl, o9⟩
  refine EvR.base2 fun A9 S9 f_9 e_9 q_9 => ?_
  rw [← e_9, ← f_9] at o9
  have v_9 : Pre S8 A9 := by rw [f_9]; exact (Pre.refl _).app _
  clear g_t0_8 g_t1_8 g_spec_8 g_c0_8 g_c1_8 g_res_8
  have g_t0_9 : PtAt S9 (σ.length + 0) 0 [.int .i64 w0, .int .i64 h0_, .bool wr0, sv0, lv0, fv0] := pt_t0.pre (q_1.trans (v_2.trans (q_2.trans (v_3.trans (q_3.trans (v_4.trans (v_5.trans (q_5.trans (v_6.trans (q_6.trans (v_7.trans (q_7.trans (v_8.trans (q_8.trans (v_9.trans q_9)))))))))))))))
  have g_t1_9 : PtAt S9 (σ.length + 1) 0 [.int .i64 w1, .int .i64 h1_, .bool wr1, sv1, lv1, fv1] := pt_t1.pre (q_1.trans (v_2.trans (q_2.trans (v_3.trans (q_3.trans (v_4.trans (v_5.trans (q_5.trans (v_6.trans (q_6.trans (v_7.trans (q_7.trans (v_8.trans (q_8.trans (v_9.trans q_9)))))))))))))))
  have g_spec_9 : PtAt S9 (S3.length + 0) 0 [.int .i64 0, .int .i64 0, .bool false, .slice none 0 0, .slice none 0 0, .slice none 0 0] := pt_spec.pre (v_5.trans (q_5.trans (v_6.trans (q_6.trans (v_7.trans (q_7.trans (v_8.trans (q_8.trans (v_9.trans q_9)))))))))
  have g_c0_9 : PtAt S9 (S5.length + 0) 0 [.int .i64 w0, .int .i64 h0_, .bool wr0, slV s5 sp0.length, slV l5 lo0.length, slV b5 fs0.length] := pt_c0.pre (q_6.trans (v_7.trans (q_7.trans (v_8.trans (q_8.trans (v_9.trans q_9))))))
  have g_c1_9 : PtAt S9 (S6.length + 0) 0 [.int .i64 w1, .int .i64 h1_, .bool wr1, slV s6 sp1.length, slV l6 lo1.length, slV b6 fs1.length] := pt_c1.pre (q_7.trans (v_8.trans (q_8.trans (v_9.trans q_9))))
  have g_res_9 : PtAt S9 (S7.length + 0) 0 [.int .i64 0, .int .i64 0, .bool false, .slice none 0 0, .slice none 0 0, .slice none 0 0] := pt_res.pre (q_8.trans (v_9.trans q_9))
  refine EvR.nrm ?_
  repeat' (first | refine ff ?_ | ((first | refine EvR.aSplB ?_ ?_ | refine Ev.aSplB ?_ ?_) <;> (intro hb; (try rw [hb]); (try simp only [Bool.not_eq_true', Bool.not_eq_false', Bool.not_eq_eq_eq_not, Bool.not_true, Bool.not_false, decide_eq_true_eq, decide_eq_false_iff_not, Bool.and_eq_true, Bool.and_eq_false_iff, Bool.or_eq_true, Bool.or_eq_false_iff] at hb); (try (exfalso; first | omega | exact hb trivial)))) | (apply endS trivial; rotate_left; (· exact eva); (· rfl); try refine ⟨?_, rfl⟩) | fail)
  (apply EvR.aCall h5.at_; (· exact eva); (· exact  h5.ok _ w1 h1_ wr1 _ _ _ _ _ _ sp1 lo1 fs1 ((o6.pre (v_7.trans (q_7.trans (v_8.trans (q_8.trans (v_9.trans q_9)))))).ext _).sheet ((o6.pre (v_7.trans (q_7.trans (v_8.trans (q_8.trans (v_9.trans q_9)))))).ext _).fls (o9.ext _).sheet (o9.ext _).fls na1 nb1 hfit1); (rintro _ _ ⟨rfl, rfl⟩; refine EvR.nrm ?_))
  repeat' (first | refine ff ?_ | ((first | refine EvR.aSplB ?_ ?_ | refine Ev.aSplB ?_ ?_) <;> (intro hb; (try rw [hb]); (try simp only [Bool.not_eq_true', Bool.not_eq_false', Bool.not_eq_eq_eq_not, Bool.not_true, Bool.not_false, decide_eq_true_eq, decide_eq_false_iff_not, Bool.and_eq_true, Bool.and_eq_false_iff, Bool.or_eq_true, Bool.or_eq_false_iff] at hb); (try (exfalso; first | omega | exact hb trivial)))) | (apply endS trivial; rotate_left; (· exact eva); (· rfl); try refine ⟨?_, rfl⟩) | fail)
  apply EvR.aCall h6.at_; (· exact eva); (· exact h6.ok.2 _ w0 h0_ wr0 A5.length s5 l5 b5 R5 sp0 lo0 fs0 (1) ((o5.pre (v_6.trans (q_6.trans (v_7.trans (q_7.trans (v_8.trans (q_8.trans (v_9.trans q_9)))))))).ext _) na0 nb0 hfit0.1 (small_of o5.con hfit0) (by rw [tot_sum o5.con]; omega) (by omega) (by omega)); rintro _ _ ⟨rfl, t10, rfl⟩
  obtain ⟨T10, eT10⟩ : ∃ T : Nat, T = tot ((s5, sp0) :: (l5, lo0) :: R5) := ⟨_, rfl⟩
  have bT10 : T10 ≤ 4194304 := by rw [eT10]; simp only [tot]; rw [tot_sum o5.con]; omega
  rw [← eT10]
  refine EvR.baseM fun A10 S10 f_10 e_10 q_10 => ?_
  have v_10 : Pre S9 A10 := by rw [f_10]; exact (Pre.refl _).app _
  have len_10 := v_5.len
  have y_10 : Pre S4 S10 := Pre.trans (Pre.mark (v_5.trans (q_5.trans (v_6.trans (q_6.trans (v_7.trans (q_7.trans (v_8.trans (q_8.trans (v_9.trans (q_9.trans v_10)))))))))) (1) fun p hp => by have := o5.lows p hp; omega) q_10
  have tops_10 := o5.tops
  have len_10a := (v_6.trans (q_6.trans v_7)).len
  have len_10_1 := v_6.len
  have o6_10 := o6.keep (H' := S10) fun o_ h0_ h1_ => mark_at q_10 tops_10 (by omega) (v_7.trans (q_7.trans (v_8.trans (q_8.trans (v_9.trans (q_9.trans v_10)))))) h1_
  have g_t0_10 : PtAt S10 (σ.length + 0) 0 [.int .i64 w0, .int .i64 h0_, .bool wr0, sv0, lv0, fv0] := pt_t0.pre ((q_1.trans (v_2.trans (q_2.trans (v_3.trans (q_3.trans v_4))))).trans y_10)
  have g_t1_10 : PtAt S10 (σ.length + 1) 0 [.int .i64 w1, .int .i64 h1_, .bool wr1, sv1, lv1, fv1] := pt_t1.pre ((q_1.trans (v_2.trans (q_2.trans (v_3.trans (q_3.trans v_4))))).trans y_10)
  have g_spec_10 : PtAt S10 (S3.length + 0) 0 [.int .i64 0, .int .i64 0, .bool false, .slice none 0 0, .slice none 0 0, .slice none 0 0] := pt_spec.pre ((Pre.refl S4).trans y_10)
  have g_c1_10 : PtAt S10 (S6.length + 0) 0 [.int .i64 w1, .int .i64 h1_, .bool wr1, slV s6 sp1.length, slV l6 lo1.length, slV b6 fs1.length] := pt_c1.same (mark_at q_10 tops_10 (by have := (v_6.trans q_6).len; omega) (q_7.trans (v_8.trans (q_8.trans (v_9.trans (q_9.trans v_10))))) pt_c1.lt)
  have g_res_10 : PtAt S10 (S7.length + 0) 0 [.int .i64 0, .int .i64 0, .bool false, .slice none 0 0, .slice none 0 0, .slice none 0 0] := pt_res.same (mark_at q_10 tops_10 (by have := (v_6.trans (q_6.trans (v_7.trans q_7))).len; omega) (q_8.trans (v_9.trans (q_9.trans v_10))) pt_res.lt)
  clear g_t0_9 g_t1_9 g_spec_9 g_c0_9 g_c1_9 g_res_9
  refine EvR.nrm ?_
  repeat' (first | refine ff ?_ | ((first | refine EvR.aSplB ?_ ?_ | refine Ev.aSplB ?_ ?_) <;> (intro hb; (try rw [hb]); (try simp only [Bool.not_eq_true', Bool.not_eq_false', Bool.not_eq_eq_eq_not, Bool.not_true, Bool.not_false, decide_eq_true_eq, decide_eq_false_iff_not, Bool.and_eq_true, Bool.and_eq_false_iff, Bool.or_eq_true, Bool.or_eq_false_iff] at hb); (try (exfalso; first | omega | exact hb trivial)))) | (apply endS trivial; rotate_left; (· exact eva); (· rfl); try refine ⟨?_, rfl⟩) | fail)
  apply EvR.aCall h6.at_; (· exact eva); (· exact h6.ok.2 _ w1 h1_ wr1 A6.length s6 l6 b6 R6 sp1 lo1 fs1 (1 + T10) ((o6_10.pre (Pre.refl S10)).ext _) na1 nb1 hfit1.1 (small_of o6.con hfit1) (by rw [tot_sum o6.con]; omega) (by omega) (by omega)); rintro _ _ ⟨rfl, t11, rfl⟩
  obtain ⟨T11, eT11⟩ : ∃ T : Nat, T = tot ((s6, sp1) :: (l6, lo1) :: R6) := ⟨_, rfl⟩
  have bT11 : T11 ≤ 4194304 := by rw [eT11]; simp only [tot]; rw [tot_sum o6.con]; omega
  rw [← eT11]
  refine EvR.baseM fun A11 S11 f_11 e_11 q_11 => ?_
  have v_11 : Pre S10 A11 := by rw [f_11]; exact (Pre.refl _).app _
  have len_11 := (v_5.trans (q_5.trans v_6)).len
  have y_11 : Pre S4 S11 := Pre.trans (Pre.mark (y_10.trans v_11) (1 + T10) fun p hp => by have := o6.lows p hp; omega) q_11
  have tops_11 := o6.tops
  have len_11a := v_7.len
  have g_t0_11 : PtAt S11 (σ.length + 0) 0 [.int .i64 w0, .int .i64 h0_, .bool wr0, sv0, lv0, fv0] := pt_t0.pre ((q_1.trans (v_2.trans (q_2.trans (v_3.trans (q_3.trans v_4))))).trans y_11)
  have g_t1_11 : PtAt S11 (σ.length + 1) 0 [.int .i64 w1, .int .i64 h1_, .bool wr1, sv1, lv1, fv1] := pt_t1.pre ((q_1.trans (v_2.trans (q_2.trans (v_3.trans (q_3.trans v_4))))).trans y_11)
  have g_spec_11 : PtAt S11 (S3.length + 0) 0 [.int .i64 0, .int .i64 0, .bool false, .slice none 0 0, .slice none 0 0, .slice none 0 0] := pt_spec.pre ((Pre.refl S4).trans y_11)
  have g_res_11 : PtAt S11 (S7.length + 0) 0 [.int .i64 0, .int .i64 0, .bool false, .slice none 0 0, .slice none 0 0, .slice none 0 0] := g_res_10.same (mark_at q_11 tops_11 (by have := (v_7.trans q_7).len; omega) v_11 g_res_10.lt)
  clear g_t0_10 g_t1_10 g_spec_10 g_c1_10 g_res_10
  refine EvR.nrm ?_
  repeat' (first | refine ff ?_ | ((first | refine EvR.aSplB ?_ ?_ | refine Ev.aSplB ?_ ?_) <;> (intro hb; (try rw [hb]); (try simp only [Bool.not_eq_true', Bool.not_eq_false', Bool.not_eq_eq_eq_not, Bool.not_true, Bool.not_false, decide_eq_true_eq, decide_eq_false_iff_not, Bool.and_eq_true, Bool.and_eq_false_iff, Bool.or_eq_true, Bool.or_eq_false_iff] at hb); (try (exfalso; first | omega | exact hb trivial)))) | (apply endS trivial; rotate_left; (· exact eva); (· rfl); try refine ⟨?_, rfl⟩) | fail)
  (apply EvR.aCall h5.at_; (· exact eva); (· exact  h5.ok _ 0 0 false _ _ _ _ _ _ [] [] [] (noShR _) (noFlsR _) (noShR _) (noFlsR _) (by simp) (by simp) noFits); (rintro _ _ ⟨rfl, rfl⟩; refine EvR.nrm ?_))
  repeat' (first | refine ff ?_ | ((first | refine EvR.aSplB ?_ ?_ | refine Ev.aSplB ?_ ?_) <;> (intro hb; (try rw [hb]); (try simp only [Bool.not_eq_true', Bool.not_eq_false', Bool.not_eq_eq_eq_not, Bool.not_true, Bool.not_false, decide_eq_true_eq, decide_eq_false_iff_not, Bool.and_eq_true, Bool.and_eq_false_iff, Bool.or_eq_true, Bool.or_eq_false_iff] at hb); (try (exfalso; first | omega | exact hb trivial)))) | (apply endS trivial; rotate_left; (· exact eva); (· rfl); try refine ⟨?_, rfl⟩) | fail)
  apply EvR.aCall h6.at_; (· exact eva); (· exact h6.ok.1.1 _ 1); rintro _ _ ⟨rfl, t12, rfl⟩
  refine EvR.base2 fun A12 S12 f_12 e_12 q_12 => ?_
  have v_12 : Pre S11 A12 := by rw [f_12]; exact (Pre.refl _).app _
  clear g_t0_11 g_t1_11 g_spec_11
  have g_t0_12 : PtAt S12 (σ.length + 0) 0 [.int .i64 w0, .int .i64 h0_, .bool wr0, sv0, lv0, fv0] := pt_t0.pre (q_1.trans (v_2.trans (q_2.trans (v_3.trans (q_3.trans (v_4.trans (y_11.trans (v_12.trans q_12))))))))
  have g_t1_12 : PtAt S12 (σ.length + 1) 0 [.int .i64 w1, .int .i64 h1_, .bool wr1, sv1, lv1, fv1] := pt_t1.pre (q_1.trans (v_2.trans (q_2.trans (v_3.trans (q_3.trans (v_4.trans (y_11.trans (v_12.trans q_12))))))))
  have g_spec_12 : PtAt S12 (S3.length + 0) 0 [.int .i64 0, .int .i64 0, .bool false, .slice none 0 0, .slice none 0 0, .slice none 0 0] := pt_spec.pre (y_11.trans (v_12.trans q_12))
  have g_res_12 : PtAt S12 (S7.length + 0) 0 [.int .i64 0, .int .i64 0, .bool false, .slice none 0 0, .slice none 0 0, .slice none 0 0] := g_res_11.pre (v_12.trans q_12)
  refine EvR.nrm ?_
  repeat' (first | refine ff ?_ | ((first | refine EvR.aSplB ?_ ?_ | refine Ev.aSplB ?_ ?_) <;> (intro hb; (try rw [hb]); (try simp only [Bool.not_eq_true', Bool.not_eq_false', Bool.not_eq_eq_eq_not, Bool.not_true, Bool.not_false, decide_eq_true_eq, decide_eq_false_iff_not, Bool.and_eq_true, Bool.and_eq_false_iff, Bool.or_eq_true, Bool.or_eq_false_iff] at hb); (try (exfalso; first | omega | exact hb trivial)))) | (apply endS trivial; rotate_left; (· exact eva); (· rfl); try refine ⟨?_, rfl⟩) | fail)
  (apply EvR.aCall h7.at_; (· exact eva); (· exact  h7.ok.1.1 _ 1 (by omega) (by omega)); (rintro _ _ ⟨rfl, rfl⟩; refine EvR.nrm ?_))
  repeat' (first | refine ff ?_ | ((first | refine EvR.aSplB ?_ ?_ | refine Ev.aSplB ?_ ?_) <;> (intro hb; (try rw [hb]); (try simp only [Bool.not_eq_true', Bool.not_eq_false', Bool.not_eq_eq_eq_not, Bool.not_true, Bool.not_false, decide_eq_true_eq, decide_eq_false_iff_not, Bool.and_eq_true, Bool.and_eq_false_iff, Bool.or_eq_true, Bool.or_eq_false_iff] at hb); (try (exfalso; first | omega | exact hb trivial)))) | (apply endS trivial; rotate_left; (· exact eva); (· rfl); try refine ⟨?_, rfl⟩) | fail)
  apply EvR.aCall h2.at_; (· exact eva); (· exact h2.ok _ w0 h0_ wr0 sv0 lv0 fv0 sp0 lo0 fs0 (r0.pre ((v_1.trans (q_1.trans (v_2.trans (q_2.trans (v_3.trans (q_3.trans (v_4.trans (y_11.trans (v_12.trans q_12))))))))).app _)) (rf0.pre ((v_1.trans (q_1.trans (v_2.trans (q_2.trans (v_3.trans (q_3.trans (v_4.trans (y_11.trans (v_12.trans q_12))))))))).app _)) na0 nb0 hfit0); rintro _ _ ⟨τ13, s13, l13, b13, R13, rfl, rfl, o13⟩
  refine EvR.base2 fun A13 S13 f_13 e_13 q_13 => ?_
  rw [← e_13, ← f_13] at o13
  have v_13 : Pre S12 A13 := by rw [f_13]; exact (Pre.refl _).app _
  clear g_t0_12 g_t1_12 g_spec_12 g_res_12
  have g_t0_13 : PtAt S13 (σ.length + 0) 0 [.int .i64 w0, .int .i64 h0_, .bool wr0, sv0, lv0, fv0] := pt_t0.pre (q_1.trans (v_2.trans (q_2.trans (v_3.trans (q_3.trans (v_4.trans (y_11.trans (v_12.trans (q_12.trans (v_13.trans q_13))))))))))
  have g_t1_13 : PtAt S13 (σ.length + 1) 0 [.int .i64 w1, .int .i64 h1_, .bool wr1, sv1, lv1, fv1] := pt_t1.pre (q_1.trans (v_2.trans (q_2.trans (v_3.trans (q_3.trans (v_4.trans (y_11.trans (v_12.trans (q_12.trans (v_13.trans q_13))))))))))
  have g_spec_13 : PtAt S13 (S3.length + 0) 0 [.int .i64 0, .int .i64 0, .bool false, .slice none 0 0, .slice none 0 0, .slice none 0 0] := pt_spec.pre (y_11.trans (v_12.trans (q_12.trans (v_13.trans q_13))))
  have g_res_13 : PtAt S13 (S7.length + 0) 0 [.int .i64 0, .int .i64 0, .bool false, .slice none 0 0, .slice none 0 0, .slice none 0 0] := g_res_11.pre (v_12.trans (q_12.trans (v_13.trans q_13)))
  refine EvR.nrm ?_
  repeat' (first | refine ff ?_ | ((first | refine EvR.aSplB ?_ ?_ | refine Ev.aSplB ?_ ?_) <;> (intro hb; (try rw [hb]); (try simp only [Bool.not_eq_true', Bool.not_eq_false', Bool.not_eq_eq_eq_not, Bool.not_true, Bool.not_false, decide_eq_true_eq, decide_eq_false_iff_not, Bool.and_eq_true, Bool.and_eq_false_iff, Bool.or_eq_true, Bool.or_eq_false_iff] at hb); (try (exfalso; first | omega | exact hb trivial)))) | (apply endS trivial; rotate_left; (· exact eva); (· rfl); try refine ⟨?_, rfl⟩) | fail)
  apply EvR.aCall h2.at_; (· exact eva); (· exact h2.ok _ w1 h1_ wr1 sv1 lv1 fv1 sp1 lo1 fs1 (r1.pre ((v_1.trans (q_1.trans (v_2.trans (q_2.trans (v_3.trans (q_3.trans (v_4.trans (y_11.trans (v_12.trans (q_12.trans (v_13.trans q_13))))))))))).app _)) (rf1.pre ((v_1.trans (q_1.trans (v_2.trans (q_2.trans (v_3.trans (q_3.trans (v_4.trans (y_11.trans (v_12.trans (q_12.trans (v_13.trans q_13))))))))))).app _)) na1 nb1 hfit1); rintro _ _ ⟨τ14, s14, l14, b14, R14, rfl, rfl, o14⟩
  refine EvR.base2 fun A14 S14 f_14 e_14 q_14 => ?_
  rw [← e_14, ← f_14] at o14
  have v_14 : Pre S13 A14 := by rw [f_14]; exact (Pre.refl _).app _
  clear g_t0_13 g_t1_13 g_spec_13 g_res_13
  have g_t0_14 : PtAt S14 (σ.length + 0) 0 [.int .i64 w0, .int .i64 h0_, .bool wr0, sv0, lv0, fv0] := pt_t0.pre (q_1.trans (v_2.trans (q_2.trans (v_3.trans (q_3.trans (v_4.trans (y_11.trans (v_12.trans (q_12.trans (v_13.trans (q_13.trans (v_14.trans q_14))))))))))))
  have g_t1_14 : PtAt S14 (σ.length + 1) 0 [.int .i64 w1, .int .i64 h1_, .bool wr1, sv1, lv1, fv1] := pt_t1.pre (q_1.trans (v_2.trans (q_2.trans (v_3.trans (q_3.trans (v_4.trans (y_11.trans (v_12.trans (q_12.trans (v_13.trans (q_13.trans (v_14.trans q_14))))))))))))
  have g_spec_14 : PtAt S14 (S3.length + 0) 0 [.int .i64 0, .int .i64 0, .bool false, .slice none 0 0, .slice none 0 0, .slice none 0 0] := pt_spec.pre (y_11.trans (v_12.trans (q_12.trans (v_13.trans (q_13.trans (v_14.trans q_14))))))
  have g_res_14 : PtAt S14 (S7.length + 0) 0 [.int .i64 0, .int .i64 0, .bool false, .slice none 0 0, .slice none 0 0, .slice none 0 0] := g_res_11.pre (v_12.trans (q_12.trans (v_13.trans (q_13.trans (v_14.trans q_14)))))
  refine EvR.nrm ?_
  repeat' (first | refine ff ?_ | ((first | refine EvR.aSplB ?_ ?_ | refine Ev.aSplB ?_ ?_) <;> (intro hb; (try rw [hb]); (try simp only [Bool.not_eq_true', Bool.not_eq_false', Bool.not_eq_eq_eq_not, Bool.not_true, Bool.not_false, decide_eq_true_eq, decide_eq_false_iff_not, Bool.and_eq_true, Bool.and_eq_false_iff, Bool.or_eq_true, Bool.or_eq_false_iff] at hb); (try (exfalso; first | omega | exact hb trivial)))) | (apply endS trivial; rotate_left; (· exact eva); (· rfl); try refine ⟨?_, rfl⟩) | fail)
  apply EvR.aCall h4.at_; (· exact eva); (· exact h4.ok _ w0 h0_ wr0 _ _ _ sp0 lo0 fs0 w1 h1_ wr1 _ _ _ sp1 lo1 fs1 ((o13.pre (v_14.trans q_14)).ext _).sheet ((o13.pre (v_14.trans q_14)).ext _).fls ((o14.pre (Pre.refl S14)).ext _).sheet ((o14.pre (Pre.refl S14)).ext _).fls na0 nb0 hfit0 na1 nb1 hfit1 ia0 ib0 ia1 ib1); rintro _ _ hres
  obtain ⟨⟨τ15, rfl⟩, rfl⟩ := hres.f hok
  clear hres
  refine EvR.base2 fun A15 S15 f_15 e_15 q_15 => ?_
  have v_15 : Pre S14 A15 := by rw [f_15]; exact (Pre.refl _).app _
  clear g_t0_14 g_t1_14 g_spec_14 g_res_14
  have g_t0_15 : PtAt S15 (σ.length + 0) 0 [.int .i64 w0, .int .i64 h0_, .bool wr0, sv0, lv0, fv0] := pt_t0.pre (q_1.trans (v_2.trans (q_2.trans (v_3.trans (q_3.trans (v_4.trans (y_11.trans (v_12.trans (q_12.trans (v_13.trans (q_13.trans (v_14.trans (q_14.trans (v_15.trans q_15))))))))))))))
  have g_t1_15 : PtAt S15 (σ.length + 1) 0 [.int .i64 w1, .int .i64 h1_, .bool wr1, sv1, lv1, fv1] := pt_t1.pre (q_1.trans (v_2.trans (q_2.trans (v_3.trans (q_3.trans (v_4.trans (y_11.trans (v_12.trans (q_12.trans (v_13.trans (q_13.trans (v_14.trans (q_14.trans (v_15.trans q_15))))))))))))))
  have g_spec_15 : PtAt S15 (S3.length + 0) 0 [.int .i64 0, .int .i64 0, .bool false, .slice none 0 0, .slice none 0 0, .slice none 0 0] := pt_spec.pre (y_11.trans (v_12.trans (q_12.trans (v_13.trans (q_13.trans (v_14.trans (q_14.trans (v_15.trans q_15))))))))
  have g_res_15 : PtAt S15 (S7.length + 0) 0 [.int .i64 0, .int .i64 0, .bool false, .slice none 0 0, .slice none 0 0, .slice none 0 0] := g_res_11.pre (v_12.trans (q_12.trans (v_13.trans (q_13.trans (v_14.trans (q_14.trans (v_15.trans q_15)))))))
  refine EvR.nrm ?_
  repeat' (first | refine ff ?_ | ((first | refine EvR.aSplB ?_ ?_ | refine Ev.aSplB ?_ ?_) <;> (intro hb; (try rw [hb]); (try simp only [Bool.not_eq_true', Bool.not_eq_false', Bool.not_eq_eq_eq_not, Bool.not_true, Bool.not_false, decide_eq_true_eq, decide_eq_false_iff_not, Bool.and_eq_true, Bool.and_eq_false_iff, Bool.or_eq_true, Bool.or_eq_false_iff] at hb); (try (exfalso; first | omega | exact hb trivial)))) | (apply endS trivial; rotate_left; (· exact eva); (· rfl); try refine ⟨?_, rfl⟩) | fail)
  (apply EvR.aCall h5.at_; (· exact eva); (· exact  h5.ok _ 0 0 false _ _ _ _ _ _ [] [] [] (noShR _) (noFlsR _) (noShR _) (noFlsR _) (by simp) (by simp) noFits); (rintro _ _ ⟨rfl, rfl⟩; refine EvR.nrm ?_))
  repeat' (first | refine ff ?_ | ((first | refine EvR.aSplB ?_ ?_ | refine Ev.aSplB ?_ ?_) <;> (intro hb; (try rw [hb]); (try simp only [Bool.not_eq_true', Bool.not_eq_false', Bool.not_eq_eq_eq_not, Bool.not_true, Bool.not_false, decide_eq_true_eq, decide_eq_false_iff_not, Bool.and_eq_true, Bool.and_eq_false_iff, Bool.or_eq_true, Bool.or_eq_false_iff] at hb); (try (exfalso; first | omega | exact hb trivial)))) | (apply endS trivial; rotate_left; (· exact eva); (· rfl); try refine ⟨?_, rfl⟩) | fail)
  (apply EvR.aCall h7.at_; (· exact eva); (· exact  h7.ok.1.1 _ 1 (by omega) (by omega)); (rintro _ _ ⟨rfl, rfl⟩; refine EvR.nrm ?_))
  repeat' (first | refine ff ?_ | ((first | refine EvR.aSplB ?_ ?_ | refine Ev.aSplB ?_ ?_) <;> (intro hb; (try rw [hb]); (try simp only [Bool.not_eq_true', Bool.not_eq_false', Bool.not_eq_eq_eq_not, Bool.not_true, Bool.not_false, decide_eq_true_eq, decide_eq_false_iff_not, Bool.and_eq_true, Bool.and_eq_false_iff, Bool.or_eq_true, Bool.or_eq_false_iff] at hb); (try (exfalso; first | omega | exact hb trivial)))) | (apply endS trivial; rotate_left; (· exact eva); (· rfl); try refine ⟨?_, rfl⟩) | fail)
  apply endK (v_1.trans (q_1.trans (v_2.trans (q_2.trans (v_3.trans (q_3.trans (v_4.trans (y_11.trans (v_12.trans (q_12.trans (v_13.trans (q_13.trans (v_14.trans (q_14.trans (v_15.trans q_15)))))))))))))))
  · trivial
  · rfl
  · exact eva
  · rfl
theorem rowJoinFilms_t {C : Ctab} {i1 i2 i3 i4 i5 i6 i7 : FuncId} {c1 c2 c3 c4 c5 c6 c7 : Contract} (h1 : Has C i1 c1 laws_szFilm_ok) (h2 : Has C i2 c2 laws_toFilm_ok) (h3 : Has C i3 c3 spec_JoinFilms_ok) (h4 : Has C i4 c4 impl_JoinFilms_ok) (h5 : Has C i5 c5 laws_eqFilm_ok) (h6 : HasW C i6 c6 laws_markFilm_ok) (h7 : Has C i7 c7 laws_heldFilm_ok) (σ : Heap) (w0 h0_ : Int) (wr0 : Bool) (sv0 lv0 : Value) (sp0 lo0 : List Nat) (r0 : ShR σ sv0 lv0 sp0 lo0) (ba0 : sp0.length ≤ 9223372036854775807) (bb0 : lo0.length ≤ 9223372036854775807) (fv0 : Value) (fs0 : List Fld) (rf0 : FlsR σ fv0 fs0) (bf0 : bigF fs0) (ia0 : in32 sp0) (ib0 : in32 lo0) (w1 h1_ : Int) (wr1 : Bool) (sv1 lv1 : Value) (sp1 lo1 : List Nat) (r1 : ShR σ sv1 lv1 sp1 lo1) (ba1 : sp1.length ≤ 9223372036854775807) (bb1 : lo1.length ≤ 9223372036854775807) (fv1 : Value) (fs1 : List Fld) (rf1 : FlsR σ fv1 fs1) (bf1 : bigF fs1) (ia1 : in32 sp1) (ib1 : in32 lo1) (hz0 : ¬ szFilm sp0 lo0 fs0 (1048576) < 0) (hz1 : ¬ szFilm sp1 lo1 fs1 (szFilm sp0 lo0 fs0 (1048576)) < 0)
    (hok : joinOk w0 h0_ wr0 sp0 lo0 fs0 w1 h1_ wr1 sp1 lo1 fs1 = true) : Ret (gcC C (laws_FnExactJoinFilms i1 i2 i3 i4 i5 i6 i7) true) [fmV w0 h0_ wr0 sv0 lv0 fv0, fmV w1 h1_ wr1 sv1 lv1 fv1] σ fun v _ => v = .bool true := by
  have ka0 := r0.s.ok
  have kb0 := r0.l.ok
  have kc0 := rf0.ok
  have ka1 := r1.s.ok
  have kb1 := r1.l.ok
  have kc1 := rf1.ok
  have z0 := szFilm_fact sp0 lo0 fs0 (1048576) (by omega) (by omega)
  obtain ⟨na0, nb0, hfit0, hsum0⟩ := z0.2.2 (by omega)
  have z1 := szFilm_fact sp1 lo1 fs1 (szFilm sp0 lo0 fs0 (1048576)) (by omega) (by omega)
  obtain ⟨na1, nb1, hfit1, hsum1⟩ := z1.2.2 (by omega)
  obtain ⟨gs, hgs⟩ : ∃ gs, gs = fs0 ++ fs1 := ⟨_, rfl⟩
  have gfit : fitsF gs := by rw [hgs]; exact fitsF_join hok hfit0 hfit1
  have gsum : sumF gs ≤ 4194304 := by rw [hgs, sumF_append]; omega
  have gn1 := na0
  have gn2 := nb0
  refine ret_gc rfl rfl ?_
  repeat' (first | refine ff ?_ | ((first | refine EvR.aSplB ?_ ?_ | refine Ev.aSplB ?_ ?_) <;> (intro hb; (try rw [hb]); (try simp only [Bool.not_eq_true', Bool.not_eq_false', Bool.not_eq_eq_eq_not, Bool.not_true, Bool.not_false, decide_eq_true_eq, decide_eq_false_iff_not, Bool.and_eq_true, Bool.and_eq_false_iff, Bool.or_eq_true, Bool.or_eq_false_iff] at hb); (try (exfalso; first | omega | exact hb trivial)))) | (apply endS trivial; rotate_left; (· exact eva); (· rfl); try refine ⟨?_, rfl⟩) | fail)
  (apply EvR.aCall h1.at_; (· exact eva); (· exact  h1.ok _ w0 h0_ wr0 sv0 lv0 fv0 sp0 lo0 fs0 (1048576) ⟨r0.s.ext _, r0.l.ext _⟩ (rf0.ext _) ba0 bb0 bf0 (by omega) (by omega)); (rintro _ _ ⟨rfl, rfl⟩; refine EvR.nrm ?_))
  repeat' (first | refine ff ?_ | ((first | refine EvR.aSplB ?_ ?_ | refine Ev.aSplB ?_ ?_) <;> (intro hb; (try rw [hb]); (try simp only [Bool.not_eq_true', Bool.not_eq_false', Bool.not_eq_eq_eq_not, Bool.not_true, Bool.not_false, decide_eq_true_eq, decide_eq_false_iff_not, Bool.and_eq_true, Bool.and_eq_false_iff, Bool.or_eq_true, Bool.or_eq_false_iff] at hb); (try (exfalso; first | omega | exact hb trivial)))) | (apply endS trivial; rotate_left; (· exact eva); (· rfl); try refine ⟨?_, rfl⟩) | fail)
  (apply EvR.aCall h1.at_; (· exact eva); (· exact  h1.ok _ w1 h1_ wr1 sv1 lv1 fv1 sp1 lo1 fs1 (szFilm sp0 lo0 fs0 (1048576)) ⟨r1.s.ext _, r1.l.ext _⟩ (rf1.ext _) ba1 bb1 bf1 (by omega) (by omega)); (rintro _ _ ⟨rfl, rfl⟩; refine EvR.nrm ?_))
  repeat' (first | refine ff ?_ | ((first | refine EvR.aSplB ?_ ?_ | refine Ev.aSplB ?_ ?_) <;> (intro hb; (try rw [hb]); (try simp only [Bool.not_eq_true', Bool.not_eq_false', Bool.not_eq_eq_eq_not, Bool.not_true, Bool.not_false, decide_eq_true_eq, decide_eq_false_iff_not, Bool.and_eq_true, Bool.and_eq_false_iff, Bool.or_eq_true, Bool.or_eq_false_iff] at hb); (try (exfalso; first | omega | exact hb trivial)))) | (apply endS trivial; rotate_left; (· exact eva); (· rfl); try refine ⟨?_, rfl⟩) | fail)
  apply EvR.aCall h2.at_; (· exact eva); (· exact h2.ok _ w0 h0_ wr0 sv0 lv0 fv0 sp0 lo0 fs0 (r0.pre ((Pre.refl σ).app _)) (rf0.pre ((Pre.refl σ).app _)) na0 nb0 hfit0); rintro _ _ ⟨τ1, s1, l1, b1, R1, rfl, rfl, o1⟩
  refine EvR.base2 fun A1 S1 f_1 e_1 q_1 => ?_
  rw [← e_1, ← f_1] at o1
  have v_1 : Pre σ A1 := by rw [f_1]; exact (Pre.refl _).app _
  have pt_t0 : PtAt A1 (σ.length + 0) 0 [.int .i64 w0, .int .i64 h0_, .bool wr0, sv0, lv0, fv0] := by rw [f_1]; exact PtAt.own rfl
  have pt_t1 : PtAt A1 (σ.length + 1) 0 [.int .i64 w1, .int .i64 h1_, .bool wr1, sv1, lv1, fv1] := by rw [f_1]; exact PtAt.own rfl
  have g_t0_1 : PtAt S1 (σ.length + 0) 0 [.int .i64 w0, .int .i64 h0_, .bool wr0, sv0, lv0, fv0] := pt_t0.pre q_1
  have g_t1_1 : PtAt S1 (σ.length + 1) 0 [.int .i64 w1, .int .i64 h1_, .bool wr1, sv1, lv1, fv1] := pt_t1.pre q_1
  refine EvR.nrm ?_
  repeat' (first | refine ff ?_ | ((first | refine EvR.aSplB ?_ ?_ | refine Ev.aSplB ?_ ?_) <;> (intro hb; (try rw [hb]); (try simp only [Bool.not_eq_true', Bool.not_eq_false', Bool.not_eq_eq_eq_not, Bool.not_true, Bool.not_false, decide_eq_true_eq, decide_eq_false_iff_not, Bool.and_eq_true, Bool.and_eq_false_iff, Bool.or_eq_true, Bool.or_eq_false_iff] at hb); (try (exfalso; first | omega | exact hb trivial)))) | (apply endS trivial; rotate_left; (· exact eva); (· rfl); try refine ⟨?_, rfl⟩) | fail)
  apply EvR.aCall h2.at_; (· exact eva); (· exact h2.ok _ w1 h1_ wr1 sv1 lv1 fv1 sp1 lo1 fs1 (r1.pre ((v_1.trans q_1).app _)) (rf1.pre ((v_1.trans q_1).app _)) na1 nb1 hfit1); rintro _ _ ⟨τ2, s2, l2, b2, R2, rfl, rfl, o2⟩
  refine EvR.base2 fun A2 S2 f_2 e_2 q_2 => ?_
  rw [← e_2, ← f_2] at o2
  have v_2 : Pre S1 A2 := by rw [f_2]; exact (Pre.refl _).app _
  clear g_t0_1 g_t1_1
  have g_t0_2 : PtAt S2 (σ.length + 0) 0 [.int .i64 w0, .int .i64 h0_, .bool wr0, sv0, lv0, fv0] := pt_t0.pre (q_1.trans (v_2.trans q_2))
  have g_t1_2 : PtAt S2 (σ.length + 1) 0 [.int .i64 w1, .int .i64 h1_, .bool wr1, sv1, lv1, fv1] := pt_t1.pre (q_1.trans (v_2.trans q_2))
  refine EvR.nrm ?_
  repeat' (first | refine ff ?_ | ((first | refine EvR.aSplB ?_ ?_ | refine Ev.aSplB ?_ ?_) <;> (intro hb; (try rw [hb]); (try simp only [Bool.not_eq_true', Bool.not_eq_false', Bool.not_eq_eq_eq_not, Bool.not_true, Bool.not_false, decide_eq_true_eq, decide_eq_false_iff_not, Bool.and_eq_true, Bool.and_eq_false_iff, Bool.or_eq_true, Bool.or_eq_false_iff] at hb); (try (exfalso; first | omega | exact hb trivial)))) | (apply endS trivial; rotate_left; (· exact eva); (· rfl); try refine ⟨?_, rfl⟩) | fail)
  apply EvR.aCall h3.at_; (· exact eva); (· exact h3.ok _ w0 h0_ wr0 _ _ _ sp0 lo0 fs0 w1 h1_ wr1 _ _ _ sp1 lo1 fs1 ((o1.pre (v_2.trans q_2)).ext _).sheet ((o1.pre (v_2.trans q_2)).ext _).fls ((o2.pre (Pre.refl S2)).ext _).sheet ((o2.pre (Pre.refl S2)).ext _).fls na0 nb0 hfit0 na1 nb1 hfit1 ia0 ib0 ia1 ib1); rintro _ _ hres
  obtain ⟨τ3, s3, l3, b3, R3, rfl, rfl, o3⟩ := hres.t hok
  clear hres
  rw [← hgs] at o3 ⊢
  refine EvR.base2 fun A3 S3 f_3 e_3 q_3 => ?_
  rw [← e_3, ← f_3] at o3
  have v_3 : Pre S2 A3 := by rw [f_3]; exact (Pre.refl _).app _
  clear g_t0_2 g_t1_2
  have g_t0_3 : PtAt S3 (σ.length + 0) 0 [.int .i64 w0, .int .i64 h0_, .bool wr0, sv0, lv0, fv0] := pt_t0.pre (q_1.trans (v_2.trans (q_2.trans (v_3.trans q_3))))
  have g_t1_3 : PtAt S3 (σ.length + 1) 0 [.int .i64 w1, .int .i64 h1_, .bool wr1, sv1, lv1, fv1] := pt_t1.pre (q_1.trans (v_2.trans (q_2.trans (v_3.trans q_3))))
  refine EvR.nrm ?_
  repeat' (first | refine ff ?_ | ((first | refine EvR.aSplB ?_ ?_ | refine Ev.aSplB ?_ ?_) <;> (intro hb; (try rw [hb]); (try simp only [Bool.not_eq_true', Bool.not_eq_false', Bool.not_eq_eq_eq_not, Bool.not_true, Bool.not_false, decide_eq_true_eq, decide_eq_false_iff_not, Bool.and_eq_true, Bool.and_eq_false_iff, Bool.or_eq_true, Bool.or_eq_false_iff] at hb); (try (exfalso; first | omega | exact hb trivial)))) | (apply endS trivial; rotate_left; (· exact eva); (· rfl); try refine ⟨?_, rfl⟩) | fail)
  refine EvR.base fun S4 f_4 => ?_
  have v_4 : Pre S3 S4 := by rw [f_4]; exact (Pre.refl _).app _
  have pt_spec : PtAt S4 (S3.length + 0) 0 [.int .i64 w0, .int .i64 h0_, .bool wr0, slV s3 sp0.length, slV l3 lo0.length, slV b3 gs.length] := by rw [f_4]; exact PtAt.own rfl
  clear g_t0_3 g_t1_3
  have g_t0_4 : PtAt S4 (σ.length + 0) 0 [.int .i64 w0, .int .i64 h0_, .bool wr0, sv0, lv0, fv0] := pt_t0.pre (q_1.trans (v_2.trans (q_2.trans (v_3.trans (q_3.trans v_4)))))
  have g_t1_4 : PtAt S4 (σ.length + 1) 0 [.int .i64 w1, .int .i64 h1_, .bool wr1, sv1, lv1, fv1] := pt_t1.pre (q_1.trans (v_2.trans (q_2.trans (v_3.trans (q_3.trans v_4)))))
  refine EvR.nrm ?_
  apply EvR.aCall h2.at_; (· exact eva); (· exact h2.ok _ w0 h0_ wr0 sv0 lv0 fv0 sp0 lo0 fs0 (r0.pre ((v_1.trans (q_1.trans (v_2.trans (q_2.trans (v_3.trans (q_3.trans v_4)))))).app _)) (rf0.pre ((v_1.trans (q_1.trans (v_2.trans (q_2.trans (v_3.trans (q_3.trans v_4)))))).app _)) na0 nb0 hfit0); rintro _ _ ⟨τ5, s5, l5, b5, R5, rfl, rfl, o5⟩
  refine EvR.base2 fun A5 S5 f_5 e_5 q_5 => ?_
  rw [← e_5, ← f_5] at o5
  have v_5 : Pre S4 A5 := by rw [f_5]; exact (Pre.refl _).app _
  clear g_t0_4 g_t1_4
  have g_t0_5 : PtAt S5 (σ.length + 0) 0 [.int .i64 w0, .int .i64 h0_, .bool wr0, sv0, lv0, fv0] := pt_t0.pre (q_1.trans (v_2.trans (q_2.trans (v_3.trans (q_3.trans (v_4.trans (v_5.trans q_5)))))))
  have g_t1_5 : PtAt S5 (σ.length + 1) 0 [.int .i64 w1, .int .i64 h1_, .bool wr1, sv1, lv1, fv1] := pt_t1.pre (q_1.trans (v_2.trans (q_2.trans (v_3.trans (q_3.trans (v_4.trans (v_5.trans q_5)))))))
  have g_spec_5 : PtAt S5 (S3.length + 0) 0 [.int .i64 w0, .int .i64 h0_, .bool wr0, slV s3 sp0.length, slV l3 lo0.length, slV b3 gs.length] := pt_spec.pre (v_5.trans q_5)
  refine EvR.nrm ?_
  repeat' (first | refine ff ?_ | ((first | refine EvR.aSplB ?_ ?_ | refine Ev.aSplB ?_ ?_) <;> (intro hb; (try rw [hb]); (try simp only [Bool.not_eq_true', Bool.not_eq_false', Bool.not_eq_eq_eq_not, Bool.not_true, Bool.not_false, decide_eq_true_eq, decide_eq_false_iff_not, Bool.and_eq_true, Bool.and_eq_false_iff, Bool.or_eq_true, Bool.or_eq_false_iff] at hb); (try (exfalso; first | omega | exact hb trivial)))) | (apply endS trivial; rotate_left; (· exact eva); (· rfl); try refine ⟨?_, rfl⟩) | fail)
  apply EvR.aCall h2.at_; (· exact eva); (· exact h2.ok _ w1 h1_ wr1 sv1 lv1 fv1 sp1 lo1 fs1 (r1.pre ((v_1.trans (q_1.trans (v_2.trans (q_2.trans (v_3.trans (q_3.trans (v_4.trans (v_5.trans q_5)))))))).app _)) (rf1.pre ((v_1.trans (q_1.trans (v_2.trans (q_2.trans (v_3.trans (q_3.trans (v_4.trans (v_5.trans q_5)))))))).app _)) na1 nb1 hfit1); rintro _ _ ⟨τ6, s6, l6, b6, R6, rfl, rfl, o6⟩
  refine EvR.base2 fun A6 S6 f_6 e_6 q_6 => ?_
  rw [← e_6, ← f_6] at o6
  have v_6 : Pre S5 A6 := by rw [f_6]; exact (Pre.refl _).app _
  have pt_c0 : PtAt A6 (S5.length + 0) 0 [.int .i64 w0, .int .i64 h0_, .bool wr0, slV s5 sp0.length, slV l5 lo0.length, slV b5 fs0.length] := by rw [f_6]; exact PtAt.own rfl
  clear g_t0_5 g_t1_5 g_spec_5
  have g_t0_6 : PtAt S6 (σ.length + 0) 0 [.int .i64 w0, .int .i64 h0_, .bool wr0, sv0, lv0, fv0] := pt_t0.pre (q_1.trans (v_2.trans (q_2.trans (v_3.trans (q_3.trans (v_4.trans (v_5.trans (q_5.trans (v_6.trans q_6)))))))))
  have g_t1_6 : PtAt S6 (σ.length + 1) 0 [.int .i64 w1, .int .i64 h1_, .bool wr1, sv1, lv1, fv1] := pt_t1.pre (q_1.trans (v_2.trans (q_2.trans (v_3.trans (q_3.trans (v_4.trans (v_5.trans (q_5.trans (v_6.trans q_6)))))))))
  have g_spec_6 : PtAt S6 (S3.length + 0) 0 [.int .i64 w0, .int .i64 h0_, .bool wr0, slV s3 sp0.length, slV l3 lo0.length, slV b3 gs.length] := pt_spec.pre (v_5.trans (q_5.trans (v_6.trans q_6)))
  have g_c0_6 : PtAt S6 (S5.length + 0) 0 [.int .i64 w0, .int .i64 h0_, .bool wr0, slV s5 sp0.length, slV l5 lo0.length, slV b5 fs0.length] := pt_c0.pre q_6
  refine EvR.nrm ?_
  repeat' (first | refine ff ?_ | ((first | refine EvR.aSplB ?_ ?_ | refine Ev.aSplB ?_ ?_) <;> (intro hb; (try rw [hb]); (try simp only [Bool.not_eq_true', Bool.not_eq_false', Bool.not_eq_eq_eq_not, Bool.not_true, Bool.not_false, decide_eq_true_eq, decide_eq_false_iff_not, Bool.and_eq_true, Bool.and_eq_false_iff, Bool.or_eq_true, Bool.or_eq_false_iff] at hb); (try (exfalso; first | omega | exact hb trivial)))) | (apply endS trivial; rotate_left; (· exact eva); (· rfl); try refine ⟨?_, rfl⟩) | fail)
  apply EvR.aCall h4.at_; (· exact eva); (· exact h4.ok _ w0 h0_ wr0 _ _ _ sp0 lo0 fs0 w1 h1_ wr1 _ _ _ sp1 lo1 fs1 ((o5.pre (v_6.trans q_6)).ext _).sheet ((o5.pre (v_6.trans q_6)).ext _).fls ((o6.pre (Pre.refl S6)).ext _).sheet ((o6.pre (Pre.refl S6)).ext _).fls na0 nb0 hfit0 na1 nb1 hfit1 ia0 ib0 ia1 ib1); rintro _ _ hres
  obtain ⟨τ7, s7, l7, b7, R7, rfl, rfl, o7⟩ := hres.t hok
  clear hres
  rw [← hgs] at o7 ⊢
  refine EvR.base2 fun A7 S7 f_7 e_7 q_7 => ?_
  rw [← e_7, ← f_7] at o7
  have v_7 : Pre S6 A7 := by rw [f_7]; exact (Pre.refl _).app _
  have pt_c1 : PtAt A7 (S6.length + 0) 0 [.int .i64 w1, .int .i64 h1_, .bool wr1, slV s6 sp1.length, slV l6 lo1.length, slV b6 fs1.length] := by rw [f_7]; exact PtAt.own rfl
  clear g_t0_6 g_t1_6 g_spec_6 g_c0_6
  have g_t0_7 : PtAt S7 (σ.length + 0) 0 [.int .i64 w0, .int .i64 h0_, .bool wr0, sv0, lv0, fv0] := pt_t0.pre (q_1.trans (v_2.trans (q_2.trans (v_3.trans (q_3.trans (v_4.trans (v_5.trans (q_5.trans (v_6.trans (q_6.trans (v_7.trans q_7)))))))))))
  have g_t1_7 : PtAt S7 (σ.length + 1) 0 [.int .i64 w1, .int .i64 h1_, .bool wr1, sv1, lv1, fv1] := pt_t1.pre (q_1.trans (v_2.trans (q_2.trans (v_3.trans (q_3.trans (v_4.trans (v_5.trans (q_5.trans (v_6.trans (q_6.trans (v_7.trans q_7)))))))))))
  have g_spec_7 : PtAt S7 (S3.length + 0) 0 [.int .i64 w0, .int .i64 h0_, .bool wr0, slV s3 sp0.length, slV l3 lo0.length, slV b3 gs.length] := pt_spec.pre (v_5.trans (q_5.trans (v_6.trans (q_6.trans (v_7.trans q_7)))))
  have g_c0_7 : PtAt S7 (S5.length + 0) 0 [.int .i64 w0, .int .i64 h0_, .bool wr0, slV s5 sp0.length, slV l5 lo0.length, slV b5 fs0.length] := pt_c0.pre (q_6.trans (v_7.trans q_7))
  have g_c1_7 : PtAt S7 (S6.length + 0) 0 [.int .i64 w1, .int .i64 h1_, .bool wr1, slV s6 sp1.length, slV l6 lo1.length, slV b6 fs1.length] := pt_c1.pre q_7
  refine EvR.nrm ?_
  repeat' (first | refine ff ?_ | ((first | refine EvR.aSplB ?_ ?_ | refine Ev.aSplB ?_ ?_) <;> (intro hb; (try rw [hb]); (try simp only [Bool.not_eq_true', Bool.not_eq_false', Bool.not_eq_eq_eq_not, Bool.not_true, Bool.not_false, decide_eq_true_eq, decide_eq_false_iff_not, Bool.and_eq_true, Bool.and_eq_false_iff, Bool.or_eq_true, Bool.or_eq_false_iff] at hb); (try (exfalso; first | omega | exact hb trivial)))) | (apply endS trivial; rotate_left; (· exact eva); (· rfl); try refine ⟨?_, rfl⟩) | fail)
  (apply EvR.aCall h5.at_; (· exact eva); (· exact  h5.ok _ w0 h0_ wr0 _ _ _ _ _ _ sp0 lo0 gs ((o7.pre (Pre.refl S7)).ext _).sheet ((o7.pre (Pre.refl S7)).ext _).fls ((o3.pre (v_4.trans (v_5.trans (q_5.trans (v_6.trans (q_6.trans (v_7.trans q_7))))))).ext _).sheet ((o3.pre (v_4.trans (v_5.trans (q_5.trans (v_6.trans (q_6.trans (v_7.trans q_7))))))).ext _).fls gn1 gn2 gfit); (rintro _ _ ⟨rfl, rfl⟩; refine EvR.nrm ?_))
  repeat' (first | refine ff ?_ | ((first | refine EvR.aSplB ?_ ?_ | refine Ev.aSplB ?_ ?_) <;> (intro hb; (try rw [hb]); (try simp only [Bool.not_eq_true', Bool.not_eq_false', Bool.not_eq_eq_eq_not, Bool.not_true, Bool.not_false, decide_eq_true_eq, decide_eq_false_iff_not, Bool.and_eq_true, Bool.and_eq_false_iff, Bool.or_eq_true, Bool.or_eq_false_iff] at hb); (try (exfalso; first | omega | exact hb trivial)))) | (apply endS trivial; rotate_left; (· exact eva); (· rfl); try refine ⟨?_, rfl⟩) | fail)
  apply EvR.aCall h2.at_; (· exact eva); (· exact h2.ok _ w0 h0_ wr0 sv0 lv0 fv0 sp0 lo0 fs0 (r0.pre ((v_1.trans (q_1.trans (v_2.trans (q_2.trans (v_3.trans (q_3.trans (v_4.trans (v_5.trans (q_5.trans (v_6.trans (q_6.trans (v_7.trans q_7)))))))))))).app _)) (rf0.pre ((v_1.trans (q_1.trans (v_2.trans (q_2.trans (v_3.trans (q_3.trans (v_4.trans (v_5.trans (q_5.trans (v_6.trans (q_6.trans (v_7.trans q_7)))))))))))).app _)) na0 nb0 hfit0); rintro _ _ ⟨τ8, s8, l8, b8, R8, rfl, rfl, o8⟩
  refine EvR.base2 fun A8 S8 f_8 e_8 q_8 => ?_
  rw [← e_8, ← f_8] at o8
  have v_8 : Pre S7 A8 := by rw [f_8]; exact (Pre.refl _).app _
  have pt_res : PtAt A8 (S7.length + 0) 0 [.int .i64 w0, .int .i64 h0_, .bool wr0, slV s7 sp0.length, slV l7 lo0.length, slV b7 gs.length] := by rw [f_8]; exact PtAt.own rfl
  clear g_t0_7 g_t1_7 g_spec_7 g_c0_7 g_c1_7
  have g_t0_8 : PtAt S8 (σ.length + 0) 0 [.int .i64 w0, .int .i64 h0_, .bool wr0, sv0, lv0, fv0] := pt_t0.pre (q_1.trans (v_2.trans (q_2.trans (v_3.trans (q_3.trans (v_4.trans (v_5.trans (q_5.trans (v_6.trans (q_6.trans (v_7.trans (q_7.trans (v_8.trans q_8)))))))))))))
  have g_t1_8 : PtAt S8 (σ.length + 1) 0 [.int .i64 w1, .int .i64 h1_, .bool wr1, sv1, lv1, fv1] := pt_t1.pre (q_1.trans (v_2.trans (q_2.trans (v_3.trans (q_3.trans (v_4.trans (v_5.trans (q_5.trans (v_6.trans (q_6.trans (v_7.trans (q_7.trans (v_8.trans q_8)))))))))))))
  have g_spec_8 : PtAt S8 (S3.length + 0) 0 [.int .i64 w0, .int .i64 h0_, .bool wr0, slV s3 sp0.length, slV l3 lo0.length, slV b3 gs.length] := pt_spec.pre (v_5.trans (q_5.trans (v_6.trans (q_6.trans (v_7.trans (q_7.trans (v_8.trans q_8)))))))
  have g_c0_8 : PtAt S8 (S5.length + 0) 0 [.int .i64 w0, .int .i64 h0_, .bool wr0, slV s5 sp0.length, slV l5 lo0.length, slV b5 fs0.length] := pt_c0.pre (q_6.trans (v_7.trans (q_7.trans (v_8.trans q_8))))
  have g_c1_8 : PtAt S8 (S6.length + 0) 0 [.int .i64 w1, .int .i64 h1_, .bool wr1, slV s6 sp1.length, slV l6 lo1.length, slV b6 fs1.length] := pt_c1.pre (q_7.trans (v_8.trans q_8))
  have g_res_8 : PtAt S8 (S7.length + 0) 0 [.int .i64 w0, .int .i64 h0_, .bool wr0, slV s7 sp0.length, slV l7 lo0.length, slV b7 gs.length] := pt_res.pre q_8
  refine EvR.nrm ?_
  repeat' (first | refine ff ?_ | ((first | refine EvR.aSplB ?_ ?_ | refine Ev.aSplB ?_ ?_) <;> (intro hb; (try rw [hb]); (try simp only [Bool.not_eq_true', Bool.not_eq_false', Bool.not_eq_eq_eq_not, Bool.not_true, Bool.not_false, decide_eq_true_eq, decide_eq_false_iff_not, Bool.and_eq_true, Bool.and_eq_false_iff, Bool.or_eq_true, Bool.or_eq_false_iff] at hb); (try (exfalso; first | omega | exact hb trivial)))) | (apply endS trivial; rotate_left; (· exact eva); (· rfl); try refine ⟨?_, rfl⟩) | fail)
  (apply EvR.aCall h5.at_; (· exact eva); (· exact  h5.ok _ w0 h0_ wr0 _ _ _ _ _ _ sp0 lo0 fs0 ((o5.pre (v_6.trans (q_6.trans (v_7.trans (q_7.trans (v_8.trans q_8)))))).ext _).sheet ((o5.pre (v_6.trans (q_6.trans (v_7.trans (q_7.trans (v_8.trans q_8)))))).ext _).fls (o8.ext _).sheet (o8.ext _).fls na0 nb0 hfit0); (rintro _ _ ⟨rfl, rfl⟩; refine EvR.nrm ?_))
  repeat' (first | refine ff ?_ | ((first | refine EvR.aSplB ?_ ?_ | refine Ev.aSplB ?_ ?_) <;> (intro hb; (try rw [hb]); (try simp only [Bool.not_eq_true', Bool.not_eq_false', Bool.not_eq_eq_eq_not, Bool.not_true, Bool.not_false, decide_eq_true_eq, decide_eq_false_iff_not, Bool.and_eq_true, Bool.and_eq_false_iff, Bool.or_eq_true, Bool.or_eq_false_iff] at hb); (try (exfalso; first | omega | exact hb trivial)))) | (apply endS trivial; rotate_left; (· exact eva); (· rfl); try refine ⟨?_, rfl⟩) | fail)
  apply EvR.aCall h2.at_; (· exact eva); (· exact h2.ok _ w1 h1_ wr1 sv1 lv1 fv1 sp1 lo1 fs1 (r1.pre ((v_1.trans (q_1.trans (v_2.trans (q_2.trans (v_3.trans (q_3.trans (v_4.trans (v_5.trans (q_5.trans (v_6.trans (q_6.trans (v_7.trans (q_7.trans (v_8.trans q_8)))))))))))))).app _)) (rf1.pre ((v_1.trans (q_1.trans (v_2.trans (q_2.trans (v_3.trans (q_3.trans (v_4.trans (v_5.trans (q_5.trans (v_6.trans (q_6.trans (v_7.trans (q_7.trans (v_8.trans q_8)))))))))))))).app _)) na1 nb1 hfit1); rintro _ _ ⟨τ9, s9, l9, b9, R9, rfl, rfl, o9⟩
  refine EvR.base2 fun A9 S9 f_9 e_9 q_9 => ?_
  rw [← e_9, ← f_9] at o9
  have v_9 : Pre S8 A9 := by rw [f_9]; exact (Pre.refl _).app _
  clear g_t0_8 g_t1_8 g_spec_8 g_c0_8 g_c1_8 g_res_8
  have g_t0_9 : PtAt S9 (σ.length + 0) 0 [.int .i64 w0, .int .i64 h0_, .bool wr0, sv0, lv0, fv0] := pt_t0.pre (q_1.trans (v_2.trans (q_2.trans (v_3.trans (q_3.trans (v_4.trans (v_5.trans (q_5.trans (v_6.trans (q_6.trans (v_7.trans (q_7.trans (v_8.trans (q_8.trans (v_9.trans q_9)))))))))))))))
  have g_t1_9 : PtAt S9 (σ.length + 1) 0 [.int .i64 w1, .int .i64 h1_, .bool wr1, sv1, lv1, fv1] := pt_t1.pre (q_1.trans (v_2.trans (q_2.trans (v_3.trans (q_3.trans (v_4.trans (v_5.trans (q_5.trans (v_6.trans (q_6.trans (v_7.trans (q_7.trans (v_8.trans (q_8.trans (v_9.trans q_9)))))))))))))))
  have g_spec_9 : PtAt S9 (S3.length + 0) 0 [.int .i64 w0, .int .i64 h0_, .bool wr0, slV s3 sp0.length, slV l3 lo0.length, slV b3 gs.length] := pt_spec.pre (v_5.trans (q_5.trans (v_6.trans (q_6.trans (v_7.trans (q_7.trans (v_8.trans (q_8.trans (v_9.trans q_9)))))))))
  have g_c0_9 : PtAt S9 (S5.length + 0) 0 [.int .i64 w0, .int .i64 h0_, .bool wr0, slV s5 sp0.length, slV l5 lo0.length, slV b5 fs0.length] := pt_c0.pre (q_6.trans (v_7.trans (q_7.trans (v_8.trans (q_8.trans (v_9.trans q_9))))))
  have g_c1_9 : PtAt S9 (S6.length + 0) 0 [.int .i64 w1, .int .i64 h1_, .bool wr1, slV s6 sp1.length, slV l6 lo1.length, slV b6 fs1.length] := pt_c1.pre (q_7.trans (v_8.trans (q_8.trans (v_9.trans q_9))))
  have g_res_9 : PtAt S9 (S7.length + 0) 0 [.int .i64 w0, .int .i64 h0_, .bool wr0, slV s7 sp0.length, slV l7 lo0.length, slV b7 gs.length] := pt_res.pre (q_8.trans (v_9.trans q_9))
  refine EvR.nrm ?_
  repeat' (first | refine ff ?_ | ((first | refine EvR.aSplB ?_ ?_ | refine Ev.aSplB ?_ ?_) <;> (intro hb; (try rw [hb]); (try simp only [Bool.not_eq_true', Bool.not_eq_false', Bool.not_eq_eq_eq_not, Bool.not_true, Bool.not_false, decide_eq_true_eq, decide_eq_false_iff_not, Bool.and_eq_true, Bool.and_eq_false_iff, Bool.or_eq_true, Bool.or_eq_false_iff] at hb); (try (exfalso; first | omega | exact hb trivial)))) | (apply endS trivial; rotate_left; (· exact eva); (· rfl); try refine ⟨?_, rfl⟩) | fail)
  (apply EvR.aCall h5.at_; (· exact eva); (· exact  h5.ok _ w1 h1_ wr1 _ _ _ _ _ _ sp1 lo1 fs1 ((o6.pre (v_7.trans (q_7.trans (v_8.trans (q_8.trans (v_9.trans q_9)))))).ext _).sheet ((o6.pre (v_7.trans (q_7.trans (v_8.trans (q_8.trans (v_9.trans q_9)))))).ext _).fls (o9.ext _).sheet (o9.ext _).fls na1 nb1 hfit1); (rintro _ _ ⟨rfl, rfl⟩; refine EvR.nrm ?_))
  repeat' (first | refine ff ?_ | ((first | refine EvR.aSplB ?_ ?_ | refine Ev.aSplB ?_ ?_) <;> (intro hb; (try rw [hb]); (try simp only [Bool.not_eq_true', Bool.not_eq_false', Bool.not_eq_eq_eq_not, Bool.not_true, Bool.not_false, decide_eq_true_eq, decide_eq_false_iff_not, Bool.and_eq_true, Bool.and_eq_false_iff, Bool.or_eq_true, Bool.or_eq_false_iff] at hb); (try (exfalso; first | omega | exact hb trivial)))) | (apply endS trivial; rotate_left; (· exact eva); (· rfl); try refine ⟨?_, rfl⟩) | fail)
  apply EvR.aCall h6.at_; (· exact eva); (· exact h6.ok.2 _ w0 h0_ wr0 A5.length s5 l5 b5 R5 sp0 lo0 fs0 (1) ((o5.pre (v_6.trans (q_6.trans (v_7.trans (q_7.trans (v_8.trans (q_8.trans (v_9.trans q_9)))))))).ext _) na0 nb0 hfit0.1 (small_of o5.con hfit0) (by rw [tot_sum o5.con]; omega) (by omega) (by omega)); rintro _ _ ⟨rfl, t10, rfl⟩
  obtain ⟨T10, eT10⟩ : ∃ T : Nat, T = tot ((s5, sp0) :: (l5, lo0) :: R5) := ⟨_, rfl⟩
  have bT10 : T10 ≤ 4194304 := by rw [eT10]; simp only [tot]; rw [tot_sum o5.con]; omega
  rw [← eT10]
  refine EvR.baseM fun A10 S10 f_10 e_10 q_10 => ?_
  have v_10 : Pre S9 A10 := by rw [f_10]; exact (Pre.refl _).app _
  have len_10 := v_5.len
  have y_10 : Pre S4 S10 := Pre.trans (Pre.mark (v_5.trans (q_5.trans (v_6.trans (q_6.trans (v_7.trans (q_7.trans (v_8.trans (q_8.trans (v_9.trans (q_9.trans v_10)))))))))) (1) fun p hp => by have := o5.lows p hp; omega) q_10
  have tops_10 := o5.tops
  have len_10a := (v_6.trans (q_6.trans v_7)).len
  have len_10_1 := v_6.len
  have o6_10 := o6.keep (H' := S10) fun o_ h0_ h1_ => mark_at q_10 tops_10 (by omega) (v_7.trans (q_7.trans (v_8.trans (q_8.trans (v_9.trans (q_9.trans v_10)))))) h1_
  have o7_10 := o7.keep (H' := S10) fun o_ h0_ h1_ => mark_at q_10 tops_10 (by omega) (v_8.trans (q_8.trans (v_9.trans (q_9.trans v_10)))) h1_
  have g_t0_10 : PtAt S10 (σ.length + 0) 0 [.int .i64 w0, .int .i64 h0_, .bool wr0, sv0, lv0, fv0] := pt_t0.pre ((q_1.trans (v_2.trans (q_2.trans (v_3.trans (q_3.trans v_4))))).trans y_10)
  have g_t1_10 : PtAt S10 (σ.length + 1) 0 [.int .i64 w1, .int .i64 h1_, .bool wr1, sv1, lv1, fv1] := pt_t1.pre ((q_1.trans (v_2.trans (q_2.trans (v_3.trans (q_3.trans v_4))))).trans y_10)
  have g_spec_10 : PtAt S10 (S3.length + 0) 0 [.int .i64 w0, .int .i64 h0_, .bool wr0, slV s3 sp0.length, slV l3 lo0.length, slV b3 gs.length] := pt_spec.pre ((Pre.refl S4).trans y_10)
  have g_c1_10 : PtAt S10 (S6.length + 0) 0 [.int .i64 w1, .int .i64 h1_, .bool wr1, slV s6 sp1.length, slV l6 lo1.length, slV b6 fs1.length] := pt_c1.same (mark_at q_10 tops_10 (by have := (v_6.trans q_6).len; omega) (q_7.trans (v_8.trans (q_8.trans (v_9.trans (q_9.trans v_10))))) pt_c1.lt)
  have g_res_10 : PtAt S10 (S7.length + 0) 0 [.int .i64 w0, .int .i64 h0_, .bool wr0, slV s7 sp0.length, slV l7 lo0.length, slV b7 gs.length] := pt_res.same (mark_at q_10 tops_10 (by have := (v_6.trans (q_6.trans (v_7.trans q_7))).len; omega) (q_8.trans (v_9.trans (q_9.trans v_10))) pt_res.lt)
  clear g_t0_9 g_t1_9 g_spec_9 g_c0_9 g_c1_9 g_res_9
  refine EvR.nrm ?_
  repeat' (first | refine ff ?_ | ((first | refine EvR.aSplB ?_ ?_ | refine Ev.aSplB ?_ ?_) <;> (intro hb; (try rw [hb]); (try simp only [Bool.not_eq_true', Bool.not_eq_false', Bool.not_eq_eq_eq_not, Bool.not_true, Bool.not_false, decide_eq_true_eq, decide_eq_false_iff_not, Bool.and_eq_true, Bool.and_eq_false_iff, Bool.or_eq_true, Bool.or_eq_false_iff] at hb); (try (exfalso; first | omega | exact hb trivial)))) | (apply endS trivial; rotate_left; (· exact eva); (· rfl); try refine ⟨?_, rfl⟩) | fail)
  apply EvR.aCall h6.at_; (· exact eva); (· exact h6.ok.2 _ w1 h1_ wr1 A6.length s6 l6 b6 R6 sp1 lo1 fs1 (1 + T10) ((o6_10.pre (Pre.refl S10)).ext _) na1 nb1 hfit1.1 (small_of o6.con hfit1) (by rw [tot_sum o6.con]; omega) (by omega) (by omega)); rintro _ _ ⟨rfl, t11, rfl⟩
  obtain ⟨T11, eT11⟩ : ∃ T : Nat, T = tot ((s6, sp1) :: (l6, lo1) :: R6) := ⟨_, rfl⟩
  have bT11 : T11 ≤ 4194304 := by rw [eT11]; simp only [tot]; rw [tot_sum o6.con]; omega
  rw [← eT11]
  refine EvR.baseM fun A11 S11 f_11 e_11 q_11 => ?_
  have v_11 : Pre S10 A11 := by rw [f_11]; exact (Pre.refl _).app _
  have len_11 := (v_5.trans (q_5.trans v_6)).len
  have y_11 : Pre S4 S11 := Pre.trans (Pre.mark (y_10.trans v_11) (1 + T10) fun p hp => by have := o6.lows p hp; omega) q_11
  have tops_11 := o6.tops
  have len_11a := v_7.len
  have o7_10_11 := o7_10.keep (H' := S11) fun o_ h0_ h1_ => mark_at q_11 tops_11 (by omega) v_11 h1_
  have g_t0_11 : PtAt S11 (σ.length + 0) 0 [.int .i64 w0, .int .i64 h0_, .bool wr0, sv0, lv0, fv0] := pt_t0.pre ((q_1.trans (v_2.trans (q_2.trans (v_3.trans (q_3.trans v_4))))).trans y_11)
  have g_t1_11 : PtAt S11 (σ.length + 1) 0 [.int .i64 w1, .int .i64 h1_, .bool wr1, sv1, lv1, fv1] := pt_t1.pre ((q_1.trans (v_2.trans (q_2.trans (v_3.trans (q_3.trans v_4))))).trans y_11)
  have g_spec_11 : PtAt S11 (S3.length + 0) 0 [.int .i64 w0, .int .i64 h0_, .bool wr0, slV s3 sp0.length, slV l3 lo0.length, slV b3 gs.length] := pt_spec.pre ((Pre.refl S4).trans y_11)
  have g_res_11 : PtAt S11 (S7.length + 0) 0 [.int .i64 w0, .int .i64 h0_, .bool wr0, slV s7 sp0.length, slV l7 lo0.length, slV b7 gs.length] := g_res_10.same (mark_at q_11 tops_11 (by have := (v_7.trans q_7).len; omega) v_11 g_res_10.lt)
  clear g_t0_10 g_t1_10 g_spec_10 g_c1_10 g_res_10
  refine EvR.nrm ?_
  repeat' (first | refine ff ?_ | ((first | refine EvR.aSplB ?_ ?_ | refine Ev.aSplB ?_ ?_) <;> (intro hb; (try rw [hb]); (try simp only [Bool.not_eq_true', Bool.not_eq_false', Bool.not_eq_eq_eq_not, Bool.not_true, Bool.not_false, decide_eq_true_eq, decide_eq_false_iff_not, Bool.and_eq_true, Bool.and_eq_false_iff, Bool.or_eq_true, Bool.or_eq_false_iff] at hb); (try (exfalso; first | omega | exact hb trivial)))) | (apply endS trivial; rotate_left; (· exact eva); (· rfl); try refine ⟨?_, rfl⟩) | fail)
  (apply EvR.aCall h5.at_; (· exact eva); (· exact  h5.ok _ w0 h0_ wr0 _ _ _ _ _ _ sp0 lo0 gs ((o7_10_11.pre (Pre.refl S11)).ext _).sheet ((o7_10_11.pre (Pre.refl S11)).ext _).fls ((o3.pre (v_4.trans y_11)).ext _).sheet ((o3.pre (v_4.trans y_11)).ext _).fls gn1 gn2 gfit); (rintro _ _ ⟨rfl, rfl⟩; refine EvR.nrm ?_))
  repeat' (first | refine ff ?_ | ((first | refine EvR.aSplB ?_ ?_ | refine Ev.aSplB ?_ ?_) <;> (intro hb; (try rw [hb]); (try simp only [Bool.not_eq_true', Bool.not_eq_false', Bool.not_eq_eq_eq_not, Bool.not_true, Bool.not_false, decide_eq_true_eq, decide_eq_false_iff_not, Bool.and_eq_true, Bool.and_eq_false_iff, Bool.or_eq_true, Bool.or_eq_false_iff] at hb); (try (exfalso; first | omega | exact hb trivial)))) | (apply endS trivial; rotate_left; (· exact eva); (· rfl); try refine ⟨?_, rfl⟩) | fail)
  apply EvR.aCall h6.at_; (· exact eva); (· exact h6.ok.2 _ w0 h0_ wr0 A7.length s7 l7 b7 R7 sp0 lo0 gs 1 ((o7_10_11.pre (Pre.refl S11)).ext _) gn1 gn2 gfit.1 (small_of o7.con gfit) (by rw [tot_sum o7.con]; omega) (by omega) (by omega)); rintro _ _ ⟨rfl, t12, rfl⟩
  refine EvR.baseM fun A12 S12 f_12 e_12 q_12 => ?_
  have v_12 : Pre S11 A12 := by rw [f_12]; exact (Pre.refl _).app _
  obtain ⟨m1_, m2_⟩ := (o7_10_11.pre v_12).marked 1
  have len_12 := (v_5.trans (q_5.trans (v_6.trans (q_6.trans v_7)))).len
  have y_12 : Pre S4 S12 := Pre.trans (Pre.mark (y_11.trans v_12) 1 fun p hp => by have := o7.lows p hp; omega) q_12
  have tops_12 := o7.tops
  have M1 := q_12.get m1_
  have M2 := fun p hp => q_12.get (m2_ p hp)
  obtain ⟨T12, eT12⟩ : ∃ T : Nat, T = tot ((s7, sp0) :: (l7, lo0) :: R7) := ⟨_, rfl⟩
  have bT12 : T12 ≤ 8388608 := by rw [eT12]; simp only [tot]; rw [tot_sum o7.con]; omega
  rw [← eT12]
  have g_t0_12 : PtAt S12 (σ.length + 0) 0 [.int .i64 w0, .int .i64 h0_, .bool wr0, sv0, lv0, fv0] := pt_t0.pre ((q_1.trans (v_2.trans (q_2.trans (v_3.trans (q_3.trans v_4))))).trans y_12)
  have g_t1_12 : PtAt S12 (σ.length + 1) 0 [.int .i64 w1, .int .i64 h1_, .bool wr1, sv1, lv1, fv1] := pt_t1.pre ((q_1.trans (v_2.trans (q_2.trans (v_3.trans (q_3.trans v_4))))).trans y_12)
  have g_spec_12 : PtAt S12 (S3.length + 0) 0 [.int .i64 w0, .int .i64 h0_, .bool wr0, slV s3 sp0.length, slV l3 lo0.length, slV b3 gs.length] := pt_spec.pre ((Pre.refl S4).trans y_12)
  have g_res_12 : PtAt S12 (S7.length + 0) 0 [.int .i64 w0, .int .i64 h0_, .bool wr0, slV s7 sp0.length, slV l7 lo0.length, slV b7 gs.length] := g_res_11.same (mark_at q_12 tops_12 (by have := (Pre.refl S7).len; omega) v_12 g_res_11.lt)
  clear g_t0_11 g_t1_11 g_spec_11 g_res_11
  refine EvR.nrm ?_
  repeat' (first | refine ff ?_ | ((first | refine EvR.aSplB ?_ ?_ | refine Ev.aSplB ?_ ?_) <;> (intro hb; (try rw [hb]); (try simp only [Bool.not_eq_true', Bool.not_eq_false', Bool.not_eq_eq_eq_not, Bool.not_true, Bool.not_false, decide_eq_true_eq, decide_eq_false_iff_not, Bool.and_eq_true, Bool.and_eq_false_iff, Bool.or_eq_true, Bool.or_eq_false_iff] at hb); (try (exfalso; first | omega | exact hb trivial)))) | (apply endS trivial; rotate_left; (· exact eva); (· rfl); try refine ⟨?_, rfl⟩) | fail)
  (apply EvR.aCall h7.at_; (· exact eva); (· exact  h7.ok.2 _ w0 h0_ wr0 s7 l7 b7 gs.length R7 sp0 lo0 1 ((Pre.app (Pre.refl S12) _).get M1) (fun p hp => (Pre.app (Pre.refl S12) _).get (M2 p hp)) o7.flds.len gn1 gn2 gfit.1 (small_of o7.con gfit) (by rw [tot_sum o7.con]; omega) (by omega) (by omega)); (rintro _ _ ⟨rfl, rfl⟩; refine EvR.nrm ?_))
  rw [← eT12]
  repeat' (first | refine ff ?_ | ((first | refine EvR.aSplB ?_ ?_ | refine Ev.aSplB ?_ ?_) <;> (intro hb; (try rw [hb]); (try simp only [Bool.not_eq_true', Bool.not_eq_false', Bool.not_eq_eq_eq_not, Bool.not_true, Bool.not_false, decide_eq_true_eq, decide_eq_false_iff_not, Bool.and_eq_true, Bool.and_eq_false_iff, Bool.or_eq_true, Bool.or_eq_false_iff] at hb); (try (exfalso; first | omega | exact hb trivial)))) | (apply endS trivial; rotate_left; (· exact eva); (· rfl); try refine ⟨?_, rfl⟩) | fail)
  apply EvR.aCall h2.at_; (· exact eva); (· exact h2.ok _ w0 h0_ wr0 sv0 lv0 fv0 sp0 lo0 fs0 (r0.pre ((v_1.trans (q_1.trans (v_2.trans (q_2.trans (v_3.trans (q_3.trans (v_4.trans y_12))))))).app _)) (rf0.pre ((v_1.trans (q_1.trans (v_2.trans (q_2.trans (v_3.trans (q_3.trans (v_4.trans y_12))))))).app _)) na0 nb0 hfit0); rintro _ _ ⟨τ13, s13, l13, b13, R13, rfl, rfl, o13⟩
  refine EvR.base2 fun A13 S13 f_13 e_13 q_13 => ?_
  rw [← e_13, ← f_13] at o13
  have v_13 : Pre S12 A13 := by rw [f_13]; exact (Pre.refl _).app _
  clear g_t0_12 g_t1_12 g_spec_12
  have g_t0_13 : PtAt S13 (σ.length + 0) 0 [.int .i64 w0, .int .i64 h0_, .bool wr0, sv0, lv0, fv0] := pt_t0.pre (q_1.trans (v_2.trans (q_2.trans (v_3.trans (q_3.trans (v_4.trans (y_12.trans (v_13.trans q_13))))))))
  have g_t1_13 : PtAt S13 (σ.length + 1) 0 [.int .i64 w1, .int .i64 h1_, .bool wr1, sv1, lv1, fv1] := pt_t1.pre (q_1.trans (v_2.trans (q_2.trans (v_3.trans (q_3.trans (v_4.trans (y_12.trans (v_13.trans q_13))))))))
  have g_spec_13 : PtAt S13 (S3.length + 0) 0 [.int .i64 w0, .int .i64 h0_, .bool wr0, slV s3 sp0.length, slV l3 lo0.length, slV b3 gs.length] := pt_spec.pre (y_12.trans (v_13.trans q_13))
  have g_res_13 : PtAt S13 (S7.length + 0) 0 [.int .i64 w0, .int .i64 h0_, .bool wr0, slV s7 sp0.length, slV l7 lo0.length, slV b7 gs.length] := g_res_12.pre (v_13.trans q_13)
  refine EvR.nrm ?_
  repeat' (first | refine ff ?_ | ((first | refine EvR.aSplB ?_ ?_ | refine Ev.aSplB ?_ ?_) <;> (intro hb; (try rw [hb]); (try simp only [Bool.not_eq_true', Bool.not_eq_false', Bool.not_eq_eq_eq_not, Bool.not_true, Bool.not_false, decide_eq_true_eq, decide_eq_false_iff_not, Bool.and_eq_true, Bool.and_eq_false_iff, Bool.or_eq_true, Bool.or_eq_false_iff] at hb); (try (exfalso; first | omega | exact hb trivial)))) | (apply endS trivial; rotate_left; (· exact eva); (· rfl); try refine ⟨?_, rfl⟩) | fail)
  apply EvR.aCall h2.at_; (· exact eva); (· exact h2.ok _ w1 h1_ wr1 sv1 lv1 fv1 sp1 lo1 fs1 (r1.pre ((v_1.trans (q_1.trans (v_2.trans (q_2.trans (v_3.trans (q_3.trans (v_4.trans (y_12.trans (v_13.trans q_13))))))))).app _)) (rf1.pre ((v_1.trans (q_1.trans (v_2.trans (q_2.trans (v_3.trans (q_3.trans (v_4.trans (y_12.trans (v_13.trans q_13))))))))).app _)) na1 nb1 hfit1); rintro _ _ ⟨τ14, s14, l14, b14, R14, rfl, rfl, o14⟩
  refine EvR.base2 fun A14 S14 f_14 e_14 q_14 => ?_
  rw [← e_14, ← f_14] at o14
  have v_14 : Pre S13 A14 := by rw [f_14]; exact (Pre.refl _).app _
  clear g_t0_13 g_t1_13 g_spec_13 g_res_13
  have g_t0_14 : PtAt S14 (σ.length + 0) 0 [.int .i64 w0, .int .i64 h0_, .bool wr0, sv0, lv0, fv0] := pt_t0.pre (q_1.trans (v_2.trans (q_2.trans (v_3.trans (q_3.trans (v_4.trans (y_12.trans (v_13.trans (q_13.trans (v_14.trans q_14))))))))))
  have g_t1_14 : PtAt S14 (σ.length + 1) 0 [.int .i64 w1, .int .i64 h1_, .bool wr1, sv1, lv1, fv1] := pt_t1.pre (q_1.trans (v_2.trans (q_2.trans (v_3.trans (q_3.trans (v_4.trans (y_12.trans (v_13.trans (q_13.trans (v_14.trans q_14))))))))))
  have g_spec_14 : PtAt S14 (S3.length + 0) 0 [.int .i64 w0, .int .i64 h0_, .bool wr0, slV s3 sp0.length, slV l3 lo0.length, slV b3 gs.length] := pt_spec.pre (y_12.trans (v_13.trans (q_13.trans (v_14.trans q_14))))
  have g_res_14 : PtAt S14 (S7.length + 0) 0 [.int .i64 w0, .int .i64 h0_, .bool wr0, slV s7 sp0.length, slV l7 lo0.length, slV b7 gs.length] := g_res_12.pre (v_13.trans (q_13.trans (v_14.trans q_14)))
  refine EvR.nrm ?_
  repeat' (first | refine ff ?_ | ((first | refine EvR.aSplB ?_ ?_ | refine Ev.aSplB ?_ ?_) <;> (intro hb; (try rw [hb]); (try simp only [Bool.not_eq_true', Bool.not_eq_false', Bool.not_eq_eq_eq_not, Bool.not_true, Bool.not_false, decide_eq_true_eq, decide_eq_false_iff_not, Bool.and_eq_true, Bool.and_eq_false_iff, Bool.or_eq_true, Bool.or_eq_false_iff] at hb); (try (exfalso; first | omega | exact hb trivial)))) | (apply endS trivial; rotate_left; (· exact eva); (· rfl); try refine ⟨?_, rfl⟩) | fail)
  apply EvR.aCall h4.at_; (· exact eva); (· exact h4.ok _ w0 h0_ wr0 _ _ _ sp0 lo0 fs0 w1 h1_ wr1 _ _ _ sp1 lo1 fs1 ((o13.pre (v_14.trans q_14)).ext _).sheet ((o13.pre (v_14.trans q_14)).ext _).fls ((o14.pre (Pre.refl S14)).ext _).sheet ((o14.pre (Pre.refl S14)).ext _).fls na0 nb0 hfit0 na1 nb1 hfit1 ia0 ib0 ia1 ib1); rintro _ _ hres
  obtain ⟨τ15, s15, l15, b15, R15, rfl, rfl, o15⟩ := hres.t hok
  clear hres
  rw [← hgs] at o15 ⊢
  refine EvR.base2 fun A15 S15 f_15 e_15 q_15 => ?_
  rw [← e_15, ← f_15] at o15
  have v_15 : Pre S14 A15 := by rw [f_15]; exact (Pre.refl _).app _
  clear g_t0_14 g_t1_14 g_spec_14 g_res_14
  have g_t0_15 : PtAt S15 (σ.length + 0) 0 [.int .i64 w0, .int .i64 h0_, .bool wr0, sv0, lv0, fv0] := pt_t0.pre (q_1.trans (v_2.trans (q_2.trans (v_3.trans (q_3.trans (v_4.trans (y_12.trans (v_13.trans (q_13.trans (v_14.trans (q_14.trans (v_15.trans q_15))))))))))))
  have g_t1_15 : PtAt S15 (σ.length + 1) 0 [.int .i64 w1, .int .i64 h1_, .bool wr1, sv1, lv1, fv1] := pt_t1.pre (q_1.trans (v_2.trans (q_2.trans (v_3.trans (q_3.trans (v_4.trans (y_12.trans (v_13.trans (q_13.trans (v_14.trans (q_14.trans (v_15.trans q_15))))))))))))
  have g_spec_15 : PtAt S15 (S3.length + 0) 0 [.int .i64 w0, .int .i64 h0_, .bool wr0, slV s3 sp0.length, slV l3 lo0.length, slV b3 gs.length] := pt_spec.pre (y_12.trans (v_13.trans (q_13.trans (v_14.trans (q_14.trans (v_15.trans q_15))))))
  have g_res_15 : PtAt S15 (S7.length + 0) 0 [.int .i64 w0, .int .i64 h0_, .bool wr0, slV s7 sp0.length, slV l7 lo0.length, slV b7 gs.length] := g_res_12.pre (v_13.trans (q_13.trans (v_14.trans (q_14.trans (v_15.trans q_15)))))
  refine EvR.nrm ?_
  repeat' (first | refine ff ?_ | ((first | refine EvR.aSplB ?_ ?_ | refine Ev.aSplB ?_ ?_) <;> (intro hb; (try rw [hb]); (try simp only [Bool.not_eq_true', Bool.not_eq_false', Bool.not_eq_eq_eq_not, Bool.not_true, Bool.not_false, decide_eq_true_eq, decide_eq_false_iff_not, Bool.and_eq_true, Bool.and_eq_false_iff, Bool.or_eq_true, Bool.or_eq_false_iff] at hb); (try (exfalso; first | omega | exact hb trivial)))) | (apply endS trivial; rotate_left; (· exact eva); (· rfl); try refine ⟨?_, rfl⟩) | fail)
  (apply EvR.aCall h5.at_; (· exact eva); (· exact  h5.ok _ w0 h0_ wr0 _ _ _ _ _ _ sp0 lo0 gs ((o15.pre (Pre.refl S15)).ext _).sheet ((o15.pre (Pre.refl S15)).ext _).fls ((o3.pre (v_4.trans (y_12.trans (v_13.trans (q_13.trans (v_14.trans (q_14.trans (v_15.trans q_15)))))))).ext _).sheet ((o3.pre (v_4.trans (y_12.trans (v_13.trans (q_13.trans (v_14.trans (q_14.trans (v_15.trans q_15)))))))).ext _).fls gn1 gn2 gfit); (rintro _ _ ⟨rfl, rfl⟩; refine EvR.nrm ?_))
  repeat' (first | refine ff ?_ | ((first | refine EvR.aSplB ?_ ?_ | refine Ev.aSplB ?_ ?_) <;> (intro hb; (try rw [hb]); (try simp only [Bool.not_eq_true', Bool.not_eq_false', Bool.not_eq_eq_eq_not, Bool.not_true, Bool.not_false, decide_eq_true_eq, decide_eq_false_iff_not, Bool.and_eq_true, Bool.and_eq_false_iff, Bool.or_eq_true, Bool.or_eq_false_iff] at hb); (try (exfalso; first | omega | exact hb trivial)))) | (apply endS trivial; rotate_left; (· exact eva); (· rfl); try refine ⟨?_, rfl⟩) | fail)
  (apply EvR.aCall h7.at_; (· exact eva); (· exact  h7.ok.2 _ w0 h0_ wr0 s7 l7 b7 gs.length R7 sp0 lo0 1 ((Pre.app (v_13.trans (q_13.trans (v_14.trans (q_14.trans (v_15.trans q_15))))) _).get M1) (fun p hp => (Pre.app (v_13.trans (q_13.trans (v_14.trans (q_14.trans (v_15.trans q_15))))) _).get (M2 p hp)) o7.flds.len gn1 gn2 gfit.1 (small_of o7.con gfit) (by rw [tot_sum o7.con]; omega) (by omega) (by omega)); (rintro _ _ ⟨rfl, rfl⟩; refine EvR.nrm ?_))
  rw [← eT12]
  repeat' (first | refine ff ?_ | ((first | refine EvR.aSplB ?_ ?_ | refine Ev.aSplB ?_ ?_) <;> (intro hb; (try rw [hb]); (try simp only [Bool.not_eq_true', Bool.not_eq_false', Bool.not_eq_eq_eq_not, Bool.not_true, Bool.not_false, decide_eq_true_eq, decide_eq_false_iff_not, Bool.and_eq_true, Bool.and_eq_false_iff, Bool.or_eq_true, Bool.or_eq_false_iff] at hb); (try (exfalso; first | omega | exact hb trivial)))) | (apply endS trivial; rotate_left; (· exact eva); (· rfl); try refine ⟨?_, rfl⟩) | fail)
  apply endK (v_1.trans (q_1.trans (v_2.trans (q_2.trans (v_3.trans (q_3.trans (v_4.trans (y_12.trans (v_13.trans (q_13.trans (v_14.trans (q_14.trans (v_15.trans q_15)))))))))))))
  · trivial
  · rfl
  · exact eva
  · rfl
theorem laws_FnExactJoinFilms_law {C : Ctab} {i1 i2 i3 i4 i5 i6 i7 : FuncId} {c1 c2 c3 c4 c5 c6 c7 : Contract} (h1 : Has C i1 c1 laws_szFilm_ok) (h2 : Has C i2 c2 laws_toFilm_ok) (h3 : Has C i3 c3 spec_JoinFilms_ok) (h4 : Has C i4 c4 impl_JoinFilms_ok) (h5 : Has C i5 c5 laws_eqFilm_ok) (h6 : HasW C i6 c6 laws_markFilm_ok) (h7 : Has C i7 c7 laws_heldFilm_ok) : laws_FnExactJoinFilms_ok (gcC C (laws_FnExactJoinFilms i1 i2 i3 i4 i5 i6 i7) true) := by
  intro σ avs hh
  match avs, hh with
  | [v0, v1], ⟨g0, g1, _⟩ =>
    obtain ⟨w0, h0_, wr0, sv0, lv0, fv0, sp0, lo0, fs0, rfl, r0, rf0, ba0, bb0, bf0, ia0, ib0⟩ := film_absW g0
    obtain ⟨w1, h1_, wr1, sv1, lv1, fv1, sp1, lo1, fs1, rfl, r1, rf1, ba1, bb1, bf1, ia1, ib1⟩ := film_absW g1
    have ka0 := r0.s.ok
    have kb0 := r0.l.ok
    have kc0 := rf0.ok
    have ka1 := r1.s.ok
    have kb1 := r1.l.ok
    have kc1 := rf1.ok
    have z0 := szFilm_fact sp0 lo0 fs0 (1048576) (by omega) (by omega)
    by_cases hz0 : szFilm sp0 lo0 fs0 (1048576) < 0
    · refine ret_gc rfl rfl ?_
      repeat' (first | refine ff ?_ | ((first | refine EvR.aSplB ?_ ?_ | refine Ev.aSplB ?_ ?_) <;> (intro hb; (try rw [hb]); (try simp only [Bool.not_eq_true', Bool.not_eq_false', Bool.not_eq_eq_eq_not, Bool.not_true, Bool.not_false, decide_eq_true_eq, decide_eq_false_iff_not, Bool.and_eq_true, Bool.and_eq_false_iff, Bool.or_eq_true, Bool.or_eq_false_iff] at hb); (try (exfalso; first | omega | exact hb trivial)))) | (apply endS trivial; rotate_left; (· exact eva); (· rfl); try refine ⟨?_, rfl⟩) | fail)
      (apply EvR.aCall h1.at_; (· exact eva); (· exact  h1.ok _ w0 h0_ wr0 sv0 lv0 fv0 sp0 lo0 fs0 (1048576) ⟨r0.s.ext _, r0.l.ext _⟩ (rf0.ext _) ba0 bb0 bf0 (by omega) (by omega)); (rintro _ _ ⟨rfl, rfl⟩; refine EvR.nrm ?_))
      repeat' (first | refine ff ?_ | ((first | refine EvR.aSplB ?_ ?_ | refine Ev.aSplB ?_ ?_) <;> (intro hb; (try rw [hb]); (try simp only [Bool.not_eq_true', Bool.not_eq_false', Bool.not_eq_eq_eq_not, Bool.not_true, Bool.not_false, decide_eq_true_eq, decide_eq_false_iff_not, Bool.and_eq_true, Bool.and_eq_false_iff, Bool.or_eq_true, Bool.or_eq_false_iff] at hb); (try (exfalso; first | omega | exact hb trivial)))) | (apply endS trivial; rotate_left; (· exact eva); (· rfl); try refine ⟨?_, rfl⟩) | fail)
      all_goals rfl
    have z1 := szFilm_fact sp1 lo1 fs1 (szFilm sp0 lo0 fs0 (1048576)) (by omega) (by omega)
    by_cases hz1 : szFilm sp1 lo1 fs1 (szFilm sp0 lo0 fs0 (1048576)) < 0
    · refine ret_gc rfl rfl ?_
      repeat' (first | refine ff ?_ | ((first | refine EvR.aSplB ?_ ?_ | refine Ev.aSplB ?_ ?_) <;> (intro hb; (try rw [hb]); (try simp only [Bool.not_eq_true', Bool.not_eq_false', Bool.not_eq_eq_eq_not, Bool.not_true, Bool.not_false, decide_eq_true_eq, decide_eq_false_iff_not, Bool.and_eq_true, Bool.and_eq_false_iff, Bool.or_eq_true, Bool.or_eq_false_iff] at hb); (try (exfalso; first | omega | exact hb trivial)))) | (apply endS trivial; rotate_left; (· exact eva); (· rfl); try refine ⟨?_, rfl⟩) | fail)
      (apply EvR.aCall h1.at_; (· exact eva); (· exact  h1.ok _ w0 h0_ wr0 sv0 lv0 fv0 sp0 lo0 fs0 (1048576) ⟨r0.s.ext _, r0.l.ext _⟩ (rf0.ext _) ba0 bb0 bf0 (by omega) (by omega)); (rintro _ _ ⟨rfl, rfl⟩; refine EvR.nrm ?_))
      repeat' (first | refine ff ?_ | ((first | refine EvR.aSplB ?_ ?_ | refine Ev.aSplB ?_ ?_) <;> (intro hb; (try rw [hb]); (try simp only [Bool.not_eq_true', Bool.not_eq_false', Bool.not_eq_eq_eq_not, Bool.not_true, Bool.not_false, decide_eq_true_eq, decide_eq_false_iff_not, Bool.and_eq_true, Bool.and_eq_false_iff, Bool.or_eq_true, Bool.or_eq_false_iff] at hb); (try (exfalso; first | omega | exact hb trivial)))) | (apply endS trivial; rotate_left; (· exact eva); (· rfl); try refine ⟨?_, rfl⟩) | fail)
      (apply EvR.aCall h1.at_; (· exact eva); (· exact  h1.ok _ w1 h1_ wr1 sv1 lv1 fv1 sp1 lo1 fs1 (szFilm sp0 lo0 fs0 (1048576)) ⟨r1.s.ext _, r1.l.ext _⟩ (rf1.ext _) ba1 bb1 bf1 (by omega) (by omega)); (rintro _ _ ⟨rfl, rfl⟩; refine EvR.nrm ?_))
      repeat' (first | refine ff ?_ | ((first | refine EvR.aSplB ?_ ?_ | refine Ev.aSplB ?_ ?_) <;> (intro hb; (try rw [hb]); (try simp only [Bool.not_eq_true', Bool.not_eq_false', Bool.not_eq_eq_eq_not, Bool.not_true, Bool.not_false, decide_eq_true_eq, decide_eq_false_iff_not, Bool.and_eq_true, Bool.and_eq_false_iff, Bool.or_eq_true, Bool.or_eq_false_iff] at hb); (try (exfalso; first | omega | exact hb trivial)))) | (apply endS trivial; rotate_left; (· exact eva); (· rfl); try refine ⟨?_, rfl⟩) | fail)
      all_goals rfl
    cases hok : joinOk w0 h0_ wr0 sp0 lo0 fs0 w1 h1_ wr1 sp1 lo1 fs1
    · exact rowJoinFilms_f h1 h2 h3 h4 h5 h6 h7 σ w0 h0_ wr0 sv0 lv0 sp0 lo0 r0 ba0 bb0 fv0 fs0 rf0 bf0 ia0 ib0 w1 h1_ wr1 sv1 lv1 sp1 lo1 r1 ba1 bb1 fv1 fs1 rf1 bf1 ia1 ib1 hz0 hz1 hok
    · exact rowJoinFilms_t h1 h2 h3 h4 h5 h6 h7 σ w0 h0_ wr0 sv0 lv0 sp0 lo0 r0 ba0 bb0 fv0 fs0 rf0 bf0 ia0 ib0 w1 h1_ wr1 sv1 lv1 sp1 lo1 r1 ba1 bb1 fv1 fs1 rf1 bf1 ia1 ib1 hz0 hz1 hok
end Go.Abs

