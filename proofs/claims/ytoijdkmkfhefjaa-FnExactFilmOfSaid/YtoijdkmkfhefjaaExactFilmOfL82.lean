/- Law of a row's function: FilmOf. Conditions: the laws of what it calls. -/
import Derived.Test.YtoijdkmkfhefjaaExactFilmOfL29
import Derived.Test.YtoijdkmkfhefjaaExactFilmOfL81
namespace Go.Abs

set_option linter.unusedSimpArgs false
set_option linter.unusedVariables false
set_option maxHeartbeats 16000000
set_option maxRecDepth 100000
/- loop.example/g01201/laws.FnExactFilmOf -/
def laws_FnExactFilmOf_r0 : List SOper := [
  ⟨(some 4), none, .box (.tmp 0), 0⟩,
  ⟨(some 5), none, .box (.tmp 1), 0⟩,
  ⟨(some 8), none, .mov (.const (.bool false)), 0⟩]
def laws_FnExactFilmOf_r1 : List SOper := [
  ⟨(some 9), none, .mov (.const (.int .i64 1048576)), 0⟩]
def laws_FnExactFilmOf_r2 (i_laws_szSheet : FuncId) : List SOper := [
  ⟨(some 21), none, .loadN 5 (.tmp 4), 0⟩,
  ⟨(some 22), none, .mov (.tmp 9), 0⟩,
  ⟨(some 23), none, .call (.func i_laws_szSheet) [(.tmp 21), (.tmp 22)], 3⟩,
  ⟨(some 9), none, .mov (.tmp 23), 7⟩]
def laws_FnExactFilmOf_r3 : List SOper := [
  ⟨(some 24), none, .mov (.tmp 9), 0⟩,
  ⟨(some 25), none, .bin .lss .other (.tmp 24) (.const (.int .i64 0)), 1⟩]
def laws_FnExactFilmOf_r4 : List SOper := [
  ⟨(some 8), none, .mov (.const (.bool true)), 0⟩]
def laws_FnExactFilmOf_r5 (i_laws_szField : FuncId) : List SOper := [
  ⟨(some 26), none, .loadN 3 (.tmp 5), 0⟩,
  ⟨(some 27), none, .mov (.tmp 9), 0⟩,
  ⟨(some 28), none, .call (.func i_laws_szField) [(.tmp 26), (.tmp 27)], 3⟩,
  ⟨(some 9), none, .mov (.tmp 28), 7⟩]
def laws_FnExactFilmOf_r6 : List SOper := [
  ⟨(some 29), none, .mov (.tmp 9), 0⟩,
  ⟨(some 30), none, .bin .lss .other (.tmp 29) (.const (.int .i64 0)), 1⟩]
def laws_FnExactFilmOf_r7 : List SOper := [
  ⟨(some 8), none, .mov (.const (.bool true)), 0⟩]
def laws_FnExactFilmOf_r8 (i_laws_toSheet i_laws_toField i_spec_FilmOf : FuncId) : List SOper := [
  ⟨(some 32), none, .loadN 5 (.tmp 4), 0⟩,
  ⟨(some 33), none, .call (.func i_laws_toSheet) [(.tmp 32)], 1⟩,
  ⟨(some 34), none, .loadN 3 (.tmp 5), 0⟩,
  ⟨(some 35), none, .call (.func i_laws_toField) [(.tmp 34)], 7⟩,
  ⟨(some 36), none, .mov (.tmp 2), 0⟩,
  ⟨(some 37), none, .mov (.tmp 3), 0⟩,
  ⟨(some 38), none, .call (.func i_spec_FilmOf) [(.tmp 33), (.tmp 35), (.tmp 36), (.tmp 37)], 63⟩,
  ⟨(some 31), none, .mov (.tmp 38), 127⟩,
  ⟨(some 39), none, .extract (.tmp 31) 0, 255⟩,
  ⟨(some 40), none, .extract (.tmp 31) 1, 255⟩,
  ⟨(some 10), none, .alloc [(.int .i64 0), (.int .i64 0), (.bool false), (.slice none 0 0), (.slice none 0 0), (.slice none 0 0)], 0⟩,
  ⟨none, none, .store 6 (.tmp 10) (.tmp 39), 1535⟩,
  ⟨(some 11), none, .mov (.tmp 40), 4095⟩]
def laws_FnExactFilmOf_r9 (i_laws_toSheet : FuncId) : List SOper := [
  ⟨(some 41), none, .loadN 5 (.tmp 4), 0⟩,
  ⟨(some 42), none, .call (.func i_laws_toSheet) [(.tmp 41)], 1⟩,
  ⟨(some 12), none, .alloc [(.int .i64 0), (.int .i64 0), (.bool false), (.slice none 0 0), (.slice none 0 0)], 0⟩,
  ⟨none, none, .store 5 (.tmp 12) (.tmp 42), 7⟩]
def laws_FnExactFilmOf_r10 (i_laws_toField : FuncId) : List SOper := [
  ⟨(some 43), none, .loadN 3 (.tmp 5), 0⟩,
  ⟨(some 44), none, .call (.func i_laws_toField) [(.tmp 43)], 1⟩,
  ⟨(some 13), none, .alloc [(.slice none 0 0), (.slice none 0 0), (.slice none 0 0)], 0⟩,
  ⟨none, none, .store 3 (.tmp 13) (.tmp 44), 7⟩]
def laws_FnExactFilmOf_r11 (i_impl_FilmOf : FuncId) : List SOper := [
  ⟨(some 46), none, .loadN 5 (.tmp 12), 0⟩,
  ⟨(some 47), none, .loadN 3 (.tmp 13), 0⟩,
  ⟨(some 48), none, .mov (.tmp 2), 0⟩,
  ⟨(some 49), none, .mov (.tmp 3), 0⟩,
  ⟨(some 50), none, .call (.func i_impl_FilmOf) [(.tmp 46), (.tmp 47), (.tmp 48), (.tmp 49)], 15⟩,
  ⟨(some 45), none, .mov (.tmp 50), 31⟩,
  ⟨(some 51), none, .extract (.tmp 45) 0, 63⟩,
  ⟨(some 52), none, .extract (.tmp 45) 1, 63⟩,
  ⟨(some 14), none, .alloc [(.int .i64 0), (.int .i64 0), (.bool false), (.slice none 0 0), (.slice none 0 0), (.slice none 0 0)], 0⟩,
  ⟨none, none, .store 6 (.tmp 14) (.tmp 51), 383⟩,
  ⟨(some 15), none, .mov (.tmp 52), 1023⟩]
def laws_FnExactFilmOf_r12 (i_laws_eqFilm : FuncId) : List SOper := [
  ⟨(some 53), none, .loadN 6 (.tmp 14), 0⟩,
  ⟨(some 54), none, .loadN 6 (.tmp 10), 0⟩,
  ⟨(some 55), none, .call (.func i_laws_eqFilm) [(.tmp 53), (.tmp 54)], 3⟩,
  ⟨(some 56), none, .un .not (.tmp 55), 7⟩,
  ⟨(some 57), none, .mov (.tmp 56), 15⟩,
  ⟨(some 58), (some (57, false)), .mov (.tmp 15), 31⟩,
  ⟨(some 59), (some (57, false)), .mov (.tmp 11), 31⟩,
  ⟨(some 60), (some (57, false)), .bin .neq .bool (.tmp 58) (.tmp 59), 127⟩,
  ⟨(some 61), none, .pick (.tmp 57) (.const (.bool true)) (.tmp 60), 255⟩]
def laws_FnExactFilmOf_r13 : List SOper := [
  ⟨(some 8), none, .mov (.const (.bool false)), 0⟩]
def laws_FnExactFilmOf_r14 (i_laws_toSheet i_laws_eqSheet : FuncId) : List SOper := [
  ⟨(some 62), none, .loadN 5 (.tmp 12), 0⟩,
  ⟨(some 63), none, .loadN 5 (.tmp 4), 0⟩,
  ⟨(some 64), none, .call (.func i_laws_toSheet) [(.tmp 63)], 2⟩,
  ⟨(some 65), none, .call (.func i_laws_eqSheet) [(.tmp 62), (.tmp 64)], 7⟩,
  ⟨(some 66), none, .un .not (.tmp 65), 15⟩]
def laws_FnExactFilmOf_r15 : List SOper := [
  ⟨(some 8), none, .mov (.const (.bool false)), 0⟩]
def laws_FnExactFilmOf_r16 (i_laws_toField i_laws_eqField : FuncId) : List SOper := [
  ⟨(some 67), none, .loadN 3 (.tmp 13), 0⟩,
  ⟨(some 68), none, .loadN 3 (.tmp 5), 0⟩,
  ⟨(some 69), none, .call (.func i_laws_toField) [(.tmp 68)], 2⟩,
  ⟨(some 70), none, .call (.func i_laws_eqField) [(.tmp 67), (.tmp 69)], 7⟩,
  ⟨(some 71), none, .un .not (.tmp 70), 15⟩]
def laws_FnExactFilmOf_r17 : List SOper := [
  ⟨(some 8), none, .mov (.const (.bool false)), 0⟩]
def laws_FnExactFilmOf_r18 : List SOper := [
  ⟨(some 16), none, .mov (.const (.int .i64 1)), 0⟩]
def laws_FnExactFilmOf_r19 (i_laws_markSheet : FuncId) : List SOper := [
  ⟨(some 72), none, .loadN 5 (.tmp 12), 0⟩,
  ⟨(some 73), none, .mov (.tmp 16), 0⟩,
  ⟨(some 74), none, .call (.func i_laws_markSheet) [(.tmp 72), (.tmp 73)], 3⟩,
  ⟨(some 16), none, .mov (.tmp 74), 7⟩]
def laws_FnExactFilmOf_r20 (i_laws_markField : FuncId) : List SOper := [
  ⟨(some 75), none, .loadN 3 (.tmp 13), 0⟩,
  ⟨(some 76), none, .mov (.tmp 16), 0⟩,
  ⟨(some 77), none, .call (.func i_laws_markField) [(.tmp 75), (.tmp 76)], 3⟩,
  ⟨(some 16), none, .mov (.tmp 77), 7⟩]
def laws_FnExactFilmOf_r21 (i_laws_eqFilm : FuncId) : List SOper := [
  ⟨(some 78), none, .mov (.tmp 16), 0⟩,
  ⟨(some 79), none, .bin .lss .other (.tmp 78) (.const (.int .i64 0)), 1⟩,
  ⟨(some 80), none, .mov (.tmp 79), 3⟩,
  ⟨(some 81), (some (80, false)), .loadN 6 (.tmp 14), 7⟩,
  ⟨(some 82), (some (80, false)), .loadN 6 (.tmp 10), 7⟩,
  ⟨(some 83), (some (80, false)), .call (.func i_laws_eqFilm) [(.tmp 81), (.tmp 82)], 31⟩,
  ⟨(some 84), (some (80, false)), .un .not (.tmp 83), 63⟩,
  ⟨(some 85), none, .pick (.tmp 80) (.const (.bool true)) (.tmp 84), 127⟩,
  ⟨(some 86), none, .mov (.tmp 85), 255⟩,
  ⟨(some 87), (some (86, false)), .mov (.tmp 15), 511⟩,
  ⟨(some 88), (some (86, false)), .mov (.tmp 11), 511⟩,
  ⟨(some 89), (some (86, false)), .bin .neq .bool (.tmp 87) (.tmp 88), 2047⟩,
  ⟨(some 90), none, .pick (.tmp 86) (.const (.bool true)) (.tmp 89), 4095⟩]
def laws_FnExactFilmOf_r22 : List SOper := [
  ⟨(some 8), none, .mov (.const (.bool false)), 0⟩]
def laws_FnExactFilmOf_r23 : List SOper := [
  ⟨(some 17), none, .mov (.const (.int .i64 1)), 0⟩]
def laws_FnExactFilmOf_r24 (i_laws_markFilm : FuncId) : List SOper := [
  ⟨(some 91), none, .loadN 6 (.tmp 14), 0⟩,
  ⟨(some 92), none, .mov (.tmp 17), 0⟩,
  ⟨(some 93), none, .call (.func i_laws_markFilm) [(.tmp 91), (.tmp 92)], 3⟩,
  ⟨(some 17), none, .mov (.tmp 93), 7⟩]
def laws_FnExactFilmOf_r25 : List SOper := [
  ⟨(some 18), none, .mov (.const (.int .i64 1)), 0⟩]
def laws_FnExactFilmOf_r26 (i_laws_heldFilm : FuncId) : List SOper := [
  ⟨(some 94), none, .loadN 6 (.tmp 14), 0⟩,
  ⟨(some 95), none, .mov (.tmp 18), 0⟩,
  ⟨(some 96), none, .call (.func i_laws_heldFilm) [(.tmp 94), (.tmp 95)], 3⟩,
  ⟨(some 18), none, .mov (.tmp 96), 7⟩]
def laws_FnExactFilmOf_r27 : List SOper := [
  ⟨(some 97), none, .mov (.tmp 18), 0⟩,
  ⟨(some 98), none, .bin .lss .other (.tmp 97) (.const (.int .i64 0)), 1⟩]
def laws_FnExactFilmOf_r28 : List SOper := [
  ⟨(some 8), none, .mov (.const (.bool false)), 0⟩]
def laws_FnExactFilmOf_r29 : List SOper := [
  ⟨(some 99), none, .mov (.tmp 18), 0⟩,
  ⟨(some 100), none, .mov (.tmp 17), 0⟩,
  ⟨(some 101), none, .bin .neq .other (.tmp 99) (.tmp 100), 3⟩]
def laws_FnExactFilmOf_r30 : List SOper := [
  ⟨(some 8), none, .mov (.const (.bool false)), 0⟩]
def laws_FnExactFilmOf_r31 (i_laws_toSheet i_laws_toField i_impl_FilmOf : FuncId) : List SOper := [
  ⟨(some 103), none, .loadN 5 (.tmp 4), 0⟩,
  ⟨(some 104), none, .call (.func i_laws_toSheet) [(.tmp 103)], 1⟩,
  ⟨(some 105), none, .loadN 3 (.tmp 5), 0⟩,
  ⟨(some 106), none, .call (.func i_laws_toField) [(.tmp 105)], 7⟩,
  ⟨(some 107), none, .mov (.tmp 2), 0⟩,
  ⟨(some 108), none, .mov (.tmp 3), 0⟩,
  ⟨(some 109), none, .call (.func i_impl_FilmOf) [(.tmp 104), (.tmp 106), (.tmp 107), (.tmp 108)], 63⟩,
  ⟨(some 102), none, .mov (.tmp 109), 127⟩,
  ⟨(some 110), none, .extract (.tmp 102) 0, 255⟩,
  ⟨(some 111), none, .extract (.tmp 102) 1, 255⟩,
  ⟨(some 19), none, .alloc [(.int .i64 0), (.int .i64 0), (.bool false), (.slice none 0 0), (.slice none 0 0), (.slice none 0 0)], 0⟩,
  ⟨none, none, .store 6 (.tmp 19) (.tmp 110), 1535⟩,
  ⟨(some 20), none, .mov (.tmp 111), 4095⟩]
def laws_FnExactFilmOf_r32 (i_laws_eqFilm : FuncId) : List SOper := [
  ⟨(some 112), none, .loadN 6 (.tmp 19), 0⟩,
  ⟨(some 113), none, .loadN 6 (.tmp 10), 0⟩,
  ⟨(some 114), none, .call (.func i_laws_eqFilm) [(.tmp 112), (.tmp 113)], 3⟩,
  ⟨(some 115), none, .un .not (.tmp 114), 7⟩,
  ⟨(some 116), none, .mov (.tmp 115), 15⟩,
  ⟨(some 117), (some (116, false)), .mov (.tmp 20), 31⟩,
  ⟨(some 118), (some (116, false)), .mov (.tmp 11), 31⟩,
  ⟨(some 119), (some (116, false)), .bin .neq .bool (.tmp 117) (.tmp 118), 127⟩,
  ⟨(some 120), none, .pick (.tmp 116) (.const (.bool true)) (.tmp 119), 255⟩]
def laws_FnExactFilmOf_r33 : List SOper := [
  ⟨(some 8), none, .mov (.const (.bool false)), 0⟩]
def laws_FnExactFilmOf_r34 : List SOper := [
  ⟨(some 18), none, .mov (.const (.int .i64 1)), 0⟩]
def laws_FnExactFilmOf_r35 (i_laws_heldFilm : FuncId) : List SOper := [
  ⟨(some 121), none, .loadN 6 (.tmp 14), 0⟩,
  ⟨(some 122), none, .mov (.tmp 18), 0⟩,
  ⟨(some 123), none, .call (.func i_laws_heldFilm) [(.tmp 121), (.tmp 122)], 3⟩,
  ⟨(some 18), none, .mov (.tmp 123), 7⟩]
def laws_FnExactFilmOf_r36 : List SOper := [
  ⟨(some 124), none, .mov (.tmp 18), 0⟩,
  ⟨(some 125), none, .bin .lss .other (.tmp 124) (.const (.int .i64 0)), 1⟩]
def laws_FnExactFilmOf_r37 : List SOper := [
  ⟨(some 8), none, .mov (.const (.bool false)), 0⟩]
def laws_FnExactFilmOf_r38 : List SOper := [
  ⟨(some 126), none, .mov (.tmp 18), 0⟩,
  ⟨(some 127), none, .mov (.tmp 17), 0⟩,
  ⟨(some 128), none, .bin .neq .other (.tmp 126) (.tmp 127), 3⟩]
def laws_FnExactFilmOf_r39 : List SOper := [
  ⟨(some 8), none, .mov (.const (.bool false)), 0⟩]
def laws_FnExactFilmOf_r40 : List SOper := [
  ⟨(some 8), none, .mov (.const (.bool true)), 0⟩]
def laws_FnExactFilmOf (i_laws_szSheet i_laws_szField i_laws_toSheet i_laws_toField i_spec_FilmOf i_impl_FilmOf i_laws_eqFilm i_laws_eqSheet i_laws_eqField i_laws_markSheet i_laws_markField i_laws_markFilm i_laws_heldFilm : FuncId) : SFunc := ⟨129, [.tmp 8], (.kp [0, 1, 2, 3] (.seq (.region laws_FnExactFilmOf_r0 false) (.kp [2, 3, 4, 5] (.seq (.region laws_FnExactFilmOf_r1 false) (.kp [2, 3, 4, 5, 9] (.seq (.region (laws_FnExactFilmOf_r2 i_laws_szSheet) false) (.kp [2, 3, 4, 5, 9] (.seq (.seq (.region laws_FnExactFilmOf_r3 false) (.kp [2, 3, 4, 5, 9, 25] (.cond (.tmp 25) (.seq (.region laws_FnExactFilmOf_r4 false) .ret) .skip))) (.kp [2, 3, 4, 5, 9] (.seq (.region (laws_FnExactFilmOf_r5 i_laws_szField) false) (.kp [2, 3, 4, 5, 9] (.seq (.seq (.region laws_FnExactFilmOf_r6 false) (.kp [2, 3, 4, 5, 30] (.cond (.tmp 30) (.seq (.region laws_FnExactFilmOf_r7 false) .ret) .skip))) (.kp [2, 3, 4, 5] (.seq (.region (laws_FnExactFilmOf_r8 i_laws_toSheet i_laws_toField i_spec_FilmOf) true) (.kp [2, 3, 4, 5, 10, 11] (.seq (.region (laws_FnExactFilmOf_r9 i_laws_toSheet) false) (.kp [2, 3, 4, 5, 10, 11, 12] (.seq (.region (laws_FnExactFilmOf_r10 i_laws_toField) false) (.kp [2, 3, 4, 5, 10, 11, 12, 13] (.seq (.region (laws_FnExactFilmOf_r11 i_impl_FilmOf) false) (.kp [2, 3, 4, 5, 10, 11, 12, 13, 14, 15] (.seq (.seq (.region (laws_FnExactFilmOf_r12 i_laws_eqFilm) false) (.kp [2, 3, 4, 5, 10, 11, 12, 13, 14, 15, 61] (.cond (.tmp 61) (.seq (.region laws_FnExactFilmOf_r13 false) .ret) .skip))) (.kp [2, 3, 4, 5, 10, 11, 12, 13, 14, 15] (.seq (.seq (.region (laws_FnExactFilmOf_r14 i_laws_toSheet i_laws_eqSheet) true) (.kp [2, 3, 4, 5, 10, 11, 12, 13, 14, 15, 66] (.cond (.tmp 66) (.seq (.region laws_FnExactFilmOf_r15 false) .ret) .skip))) (.kp [2, 3, 4, 5, 10, 11, 12, 13, 14, 15] (.seq (.seq (.region (laws_FnExactFilmOf_r16 i_laws_toField i_laws_eqField) true) (.kp [2, 3, 4, 5, 10, 11, 12, 13, 14, 15, 71] (.cond (.tmp 71) (.seq (.region laws_FnExactFilmOf_r17 false) .ret) .skip))) (.kp [2, 3, 4, 5, 10, 11, 12, 13, 14, 15] (.seq (.region laws_FnExactFilmOf_r18 false) (.kp [2, 3, 4, 5, 10, 11, 12, 13, 14, 15, 16] (.seq (.region (laws_FnExactFilmOf_r19 i_laws_markSheet) false) (.kp [2, 3, 4, 5, 10, 11, 13, 14, 15, 16] (.seq (.region (laws_FnExactFilmOf_r20 i_laws_markField) false) (.kp [2, 3, 4, 5, 10, 11, 14, 15, 16] (.seq (.seq (.region (laws_FnExactFilmOf_r21 i_laws_eqFilm) false) (.kp [2, 3, 4, 5, 10, 11, 14, 90] (.cond (.tmp 90) (.seq (.region laws_FnExactFilmOf_r22 false) .ret) .skip))) (.kp [2, 3, 4, 5, 10, 11, 14] (.seq (.region laws_FnExactFilmOf_r23 false) (.kp [2, 3, 4, 5, 10, 11, 14, 17] (.seq (.region (laws_FnExactFilmOf_r24 i_laws_markFilm) false) (.kp [2, 3, 4, 5, 10, 11, 14, 17] (.seq (.region laws_FnExactFilmOf_r25 false) (.kp [2, 3, 4, 5, 10, 11, 14, 17, 18] (.seq (.region (laws_FnExactFilmOf_r26 i_laws_heldFilm) false) (.kp [2, 3, 4, 5, 10, 11, 14, 17, 18] (.seq (.seq (.region laws_FnExactFilmOf_r27 false) (.kp [2, 3, 4, 5, 10, 11, 14, 17, 18, 98] (.cond (.tmp 98) (.seq (.region laws_FnExactFilmOf_r28 false) .ret) .skip))) (.kp [2, 3, 4, 5, 10, 11, 14, 17, 18] (.seq (.seq (.region laws_FnExactFilmOf_r29 false) (.kp [2, 3, 4, 5, 10, 11, 14, 17, 101] (.cond (.tmp 101) (.seq (.region laws_FnExactFilmOf_r30 false) .ret) .skip))) (.kp [2, 3, 4, 5, 10, 11, 14, 17] (.seq (.region (laws_FnExactFilmOf_r31 i_laws_toSheet i_laws_toField i_impl_FilmOf) true) (.kp [10, 11, 14, 17, 19, 20] (.seq (.seq (.region (laws_FnExactFilmOf_r32 i_laws_eqFilm) false) (.kp [14, 17, 120] (.cond (.tmp 120) (.seq (.region laws_FnExactFilmOf_r33 false) .ret) .skip))) (.kp [14, 17] (.seq (.region laws_FnExactFilmOf_r34 false) (.kp [14, 17, 18] (.seq (.region (laws_FnExactFilmOf_r35 i_laws_heldFilm) false) (.kp [17, 18] (.seq (.seq (.region laws_FnExactFilmOf_r36 false) (.kp [17, 18, 125] (.cond (.tmp 125) (.seq (.region laws_FnExactFilmOf_r37 false) .ret) .skip))) (.kp [17, 18] (.seq (.seq (.region laws_FnExactFilmOf_r38 false) (.kp [128] (.cond (.tmp 128) (.seq (.region laws_FnExactFilmOf_r39 false) .ret) .skip))) (.kp [] (.seq (.region laws_FnExactFilmOf_r40 false) .ret))))))))))))))))))))))))))))))))))))))))))))))))))))))))))))⟩
theorem laws_FnExactFilmOf_r8_dr {i_laws_toSheet i_laws_toField i_spec_FilmOf : FuncId} : (drawOkS (laws_FnExactFilmOf_r8 i_laws_toSheet i_laws_toField i_spec_FilmOf) && storesOnly (laws_FnExactFilmOf_r8 i_laws_toSheet i_laws_toField i_spec_FilmOf)) = true := by kernel_rfl
attribute [push_cast] laws_FnExactFilmOf_r8_dr
theorem laws_FnExactFilmOf_r14_dr {i_laws_toSheet i_laws_eqSheet : FuncId} : drawOkW wStat (laws_FnExactFilmOf_r14 i_laws_toSheet i_laws_eqSheet) = true := by kernel_rfl
attribute [push_cast] laws_FnExactFilmOf_r14_dr
theorem laws_FnExactFilmOf_r16_dr {i_laws_toField i_laws_eqField : FuncId} : drawOkW wStat (laws_FnExactFilmOf_r16 i_laws_toField i_laws_eqField) = true := by kernel_rfl
attribute [push_cast] laws_FnExactFilmOf_r16_dr
theorem laws_FnExactFilmOf_r31_dr {i_laws_toSheet i_laws_toField i_impl_FilmOf : FuncId} : (drawOkS (laws_FnExactFilmOf_r31 i_laws_toSheet i_laws_toField i_impl_FilmOf) && storesOnly (laws_FnExactFilmOf_r31 i_laws_toSheet i_laws_toField i_impl_FilmOf)) = true := by kernel_rfl
attribute [push_cast] laws_FnExactFilmOf_r31_dr
def laws_FnExactFilmOf_ok (c : Contract) : Prop := AlwaysTrue [sheetK, fieldK, intK, intK] c
theorem rowFilmOf_f {C : Ctab} {i1 i2 i3 i4 i5 i6 i7 i8 i9 i10 i11 i12 i13 : FuncId} {c1 c2 c3 c4 c5 c6 c7 c8 c9 c10 c11 c12 c13 : Contract} (h1 : Has C i1 c1 laws_szSheet_ok) (h2 : Has C i2 c2 laws_szField_ok) (h3 : Has C i3 c3 laws_toSheet_ok) (h4 : Has C i4 c4 laws_toField_ok) (h5 : Has C i5 c5 spec_FilmOf_ok) (h6 : Has C i6 c6 impl_FilmOf_ok) (h7 : Has C i7 c7 laws_eqFilm_ok) (h8 : Has C i8 c8 laws_eqSheet_ok) (h9 : Has C i9 c9 laws_eqField_ok) (h10 : HasW C i10 c10 laws_markSheet_ok) (h11 : HasW C i11 c11 laws_markField_ok) (h12 : HasW C i12 c12 laws_markFilm_ok) (h13 : Has C i13 c13 laws_heldFilm_ok) (σ : Heap) (w0 h0_ : Int) (wr0 : Bool) (sv0 lv0 : Value) (sp0 lo0 : List Nat) (r0 : ShR σ sv0 lv0 sp0 lo0) (ba0 : sp0.length ≤ 9223372036854775807) (bb0 : lo0.length ≤ 9223372036854775807) (ev1 xv1 yv1 : Value) (f1 : Fld) (r1 : FlR σ ev1 xv1 yv1 f1.e f1.x f1.y) (ba1 : f1.e.length ≤ 9223372036854775807) (bb1 : f1.x.length ≤ 9223372036854775807) (bc1 : f1.y.length ≤ 9223372036854775807) (n2 : Int) (n3 : Int) (hz0 : ¬ szSheet sp0 lo0 (1048576) < 0) (hz1 : ¬ szAll [f1.e.length, f1.x.length, f1.y.length] (szSheet sp0 lo0 (1048576)) < 0)
    (hok : foOk w0 h0_ wr0 sp0 lo0 f1 n2 n3 = false) : Ret (gcC C (laws_FnExactFilmOf i1 i2 i3 i4 i5 i6 i7 i8 i9 i10 i11 i12 i13) true) [shV w0 h0_ wr0 sv0 lv0, fV ev1 xv1 yv1, .int .i64 n2, .int .i64 n3] σ fun v _ => v = .bool true := by
  have ka0 := r0.s.ok
  have kb0 := r0.l.ok
  have ka1 := r1.e.ok
  have kb1 := r1.x.ok
  have kc1 := r1.y.ok
  have z0 := szSheet_fact sp0 lo0 (1048576) (by omega)
  have na0 : sp0.length ≤ 1048576 := by omega
  have nb0 : lo0.length ≤ 1048576 := by omega
  have z1 := szField_fact f1.e f1.x f1.y (szSheet sp0 lo0 (1048576)) (by omega)
  have na1 : f1.e.length ≤ 1048576 := by omega
  have nb1 : f1.x.length ≤ 1048576 := by omega
  have nc1 : f1.y.length ≤ 1048576 := by omega
  refine ret_gc rfl rfl ?_
  repeat' (first | refine ff ?_ | ((first | refine EvR.aSplB ?_ ?_ | refine Ev.aSplB ?_ ?_) <;> (intro hb; (try rw [hb]); (try simp only [Bool.not_eq_true', Bool.not_eq_false', Bool.not_eq_eq_eq_not, Bool.not_true, Bool.not_false, decide_eq_true_eq, decide_eq_false_iff_not, Bool.and_eq_true, Bool.and_eq_false_iff, Bool.or_eq_true, Bool.or_eq_false_iff] at hb); (try (exfalso; first | omega | exact hb trivial)))) | (apply endS trivial; rotate_left; (· exact eva); (· rfl); try refine ⟨?_, rfl⟩) | fail)
  (apply EvR.aCall h1.at_; (· exact eva); (· exact  h1.ok _ w0 h0_ wr0 sv0 lv0 sp0 lo0 (1048576) ⟨r0.s.ext _, r0.l.ext _⟩ ba0 bb0 (by omega) (by omega)); (rintro _ _ ⟨rfl, rfl⟩; refine EvR.nrm ?_))
  repeat' (first | refine ff ?_ | ((first | refine EvR.aSplB ?_ ?_ | refine Ev.aSplB ?_ ?_) <;> (intro hb; (try rw [hb]); (try simp only [Bool.not_eq_true', Bool.not_eq_false', Bool.not_eq_eq_eq_not, Bool.not_true, Bool.not_false, decide_eq_true_eq, decide_eq_false_iff_not, Bool.and_eq_true, Bool.and_eq_false_iff, Bool.or_eq_true, Bool.or_eq_false_iff] at hb); (try (exfalso; first | omega | exact hb trivial)))) | (apply endS trivial; rotate_left; (· exact eva); (· rfl); try refine ⟨?_, rfl⟩) | fail)
  (apply EvR.aCall h2.at_; (· exact eva); (· exact  h2.ok _ ev1 xv1 yv1 f1.e f1.x f1.y (szSheet sp0 lo0 (1048576)) (r1.ext _) ba1 bb1 bc1 (by omega) (by omega)); (rintro _ _ ⟨rfl, rfl⟩; refine EvR.nrm ?_))
  repeat' (first | refine ff ?_ | ((first | refine EvR.aSplB ?_ ?_ | refine Ev.aSplB ?_ ?_) <;> (intro hb; (try rw [hb]); (try simp only [Bool.not_eq_true', Bool.not_eq_false', Bool.not_eq_eq_eq_not, Bool.not_true, Bool.not_false, decide_eq_true_eq, decide_eq_false_iff_not, Bool.and_eq_true, Bool.and_eq_false_iff, Bool.or_eq_true, Bool.or_eq_false_iff] at hb); (try (exfalso; first | omega | exact hb trivial)))) | (apply endS trivial; rotate_left; (· exact eva); (· rfl); try refine ⟨?_, rfl⟩) | fail)
  (apply EvR.aCall h3.at_; (· exact eva); (· exact  h3.ok _ w0 h0_ wr0 sv0 lv0 sp0 lo0 (r0.pre ((Pre.refl σ).app _)) na0 nb0); (rintro _ _ ⟨rfl, rfl⟩; refine EvR.nrm ?_))
  repeat' (first | refine ff ?_ | ((first | refine EvR.aSplB ?_ ?_ | refine Ev.aSplB ?_ ?_) <;> (intro hb; (try rw [hb]); (try simp only [Bool.not_eq_true', Bool.not_eq_false', Bool.not_eq_eq_eq_not, Bool.not_true, Bool.not_false, decide_eq_true_eq, decide_eq_false_iff_not, Bool.and_eq_true, Bool.and_eq_false_iff, Bool.or_eq_true, Bool.or_eq_false_iff] at hb); (try (exfalso; first | omega | exact hb trivial)))) | (apply endS trivial; rotate_left; (· exact eva); (· rfl); try refine ⟨?_, rfl⟩) | fail)
  (apply EvR.aCall h4.at_; (· exact eva); (· exact  h4.ok _ ev1 xv1 yv1 f1.e f1.x f1.y (r1.pre ((Pre.refl σ).app _)) na1 nb1 nc1); (rintro _ _ ⟨rfl, rfl⟩; refine EvR.nrm ?_))
  repeat' (first | refine ff ?_ | ((first | refine EvR.aSplB ?_ ?_ | refine Ev.aSplB ?_ ?_) <;> (intro hb; (try rw [hb]); (try simp only [Bool.not_eq_true', Bool.not_eq_false', Bool.not_eq_eq_eq_not, Bool.not_true, Bool.not_false, decide_eq_true_eq, decide_eq_false_iff_not, Bool.and_eq_true, Bool.and_eq_false_iff, Bool.or_eq_true, Bool.or_eq_false_iff] at hb); (try (exfalso; first | omega | exact hb trivial)))) | (apply endS trivial; rotate_left; (· exact eva); (· rfl); try refine ⟨?_, rfl⟩) | fail)
  apply EvR.aCall h5.at_; (· exact eva); (· exact h5.ok _ w0 h0_ wr0 _ _ sp0 lo0 _ _ _ f1 n2 n3 ⟨Row.ownF rfl rfl, Row.ownF rfl rfl⟩ na0 nb0 ⟨Row.ownF rfl rfl, Row.ownF rfl rfl, Row.ownF rfl rfl⟩ ⟨na1, nb1, nc1⟩); rintro _ _ hres
  obtain ⟨⟨τ1, rfl⟩, rfl⟩ := hres.f hok
  clear hres
  refine EvR.base2 fun A1 S1 f_1 e_1 q_1 => ?_
  have v_1 : Pre σ A1 := by rw [f_1]; exact (Pre.refl _).app _
  have pt_t0 : PtAt A1 (σ.length + 0) 0 [.int .i64 w0, .int .i64 h0_, .bool wr0, sv0, lv0] := by rw [f_1]; exact PtAt.own rfl
  have pt_t1 : PtAt A1 (σ.length + 1) 0 [ev1, xv1, yv1] := by rw [f_1]; exact PtAt.own rfl
  have g_t0_1 : PtAt S1 (σ.length + 0) 0 [.int .i64 w0, .int .i64 h0_, .bool wr0, sv0, lv0] := pt_t0.pre q_1
  have g_t1_1 : PtAt S1 (σ.length + 1) 0 [ev1, xv1, yv1] := pt_t1.pre q_1
  refine EvR.nrm ?_
  repeat' (first | refine ff ?_ | ((first | refine EvR.aSplB ?_ ?_ | refine Ev.aSplB ?_ ?_) <;> (intro hb; (try rw [hb]); (try simp only [Bool.not_eq_true', Bool.not_eq_false', Bool.not_eq_eq_eq_not, Bool.not_true, Bool.not_false, decide_eq_true_eq, decide_eq_false_iff_not, Bool.and_eq_true, Bool.and_eq_false_iff, Bool.or_eq_true, Bool.or_eq_false_iff] at hb); (try (exfalso; first | omega | exact hb trivial)))) | (apply endS trivial; rotate_left; (· exact eva); (· rfl); try refine ⟨?_, rfl⟩) | fail)
  refine EvR.base fun S2 f_2 => ?_
  have v_2 : Pre S1 S2 := by rw [f_2]; exact (Pre.refl _).app _
  have pt_spec : PtAt S2 (S1.length + 0) 0 [.int .i64 0, .int .i64 0, .bool false, .slice none 0 0, .slice none 0 0, .slice none 0 0] := by rw [f_2]; exact PtAt.own rfl
  clear g_t0_1 g_t1_1
  have g_t0_2 : PtAt S2 (σ.length + 0) 0 [.int .i64 w0, .int .i64 h0_, .bool wr0, sv0, lv0] := pt_t0.pre (q_1.trans v_2)
  have g_t1_2 : PtAt S2 (σ.length + 1) 0 [ev1, xv1, yv1] := pt_t1.pre (q_1.trans v_2)
  refine EvR.nrm ?_
  (apply EvR.aCall h3.at_; (· exact eva); (· exact  h3.ok _ w0 h0_ wr0 sv0 lv0 sp0 lo0 (r0.pre ((v_1.trans (q_1.trans v_2)).app _)) na0 nb0); (rintro _ _ ⟨rfl, rfl⟩; refine EvR.nrm ?_))
  repeat' (first | refine ff ?_ | ((first | refine EvR.aSplB ?_ ?_ | refine Ev.aSplB ?_ ?_) <;> (intro hb; (try rw [hb]); (try simp only [Bool.not_eq_true', Bool.not_eq_false', Bool.not_eq_eq_eq_not, Bool.not_true, Bool.not_false, decide_eq_true_eq, decide_eq_false_iff_not, Bool.and_eq_true, Bool.and_eq_false_iff, Bool.or_eq_true, Bool.or_eq_false_iff] at hb); (try (exfalso; first | omega | exact hb trivial)))) | (apply endS trivial; rotate_left; (· exact eva); (· rfl); try refine ⟨?_, rfl⟩) | fail)
  (apply EvR.aCall h4.at_; (· exact eva); (· exact  h4.ok _ ev1 xv1 yv1 f1.e f1.x f1.y (r1.pre ((v_1.trans (q_1.trans v_2)).app _)) na1 nb1 nc1); (rintro _ _ ⟨rfl, rfl⟩; refine EvR.nrm ?_))
  repeat' (first | refine ff ?_ | ((first | refine EvR.aSplB ?_ ?_ | refine Ev.aSplB ?_ ?_) <;> (intro hb; (try rw [hb]); (try simp only [Bool.not_eq_true', Bool.not_eq_false', Bool.not_eq_eq_eq_not, Bool.not_true, Bool.not_false, decide_eq_true_eq, decide_eq_false_iff_not, Bool.and_eq_true, Bool.and_eq_false_iff, Bool.or_eq_true, Bool.or_eq_false_iff] at hb); (try (exfalso; first | omega | exact hb trivial)))) | (apply endS trivial; rotate_left; (· exact eva); (· rfl); try refine ⟨?_, rfl⟩) | fail)
  apply EvR.aCall h6.at_; (· exact eva); (· exact h6.ok _ w0 h0_ wr0 _ _ sp0 lo0 _ _ _ f1 n2 n3 ⟨Row.ownF rfl rfl, Row.ownF rfl rfl⟩ na0 nb0 ⟨Row.ownF rfl rfl, Row.ownF rfl rfl, Row.ownF rfl rfl⟩ ⟨na1, nb1, nc1⟩); rintro _ _ hres
  obtain ⟨⟨τ3, rfl⟩, rfl⟩ := hres.f hok
  clear hres
  refine EvR.base2 fun A3 S3 f_3 e_3 q_3 => ?_
  have v_3 : Pre S2 A3 := by rw [f_3]; exact (Pre.refl _).app _
  have pt_c0 : PtAt A3 (S2.length + 2) 0 [.int .i64 w0, .int .i64 h0_, .bool wr0, slV (S2.length + 0) sp0.length, slV (S2.length + 1) lo0.length] := by rw [f_3]; exact PtAt.own rfl
  have pt_c1 : PtAt A3 (S2.length + 6) 0 [slV (S2.length + 3) f1.e.length, slV (S2.length + 4) f1.x.length, slV (S2.length + 5) f1.y.length] := by rw [f_3]; exact PtAt.own rfl
  clear g_t0_2 g_t1_2
  have g_t0_3 : PtAt S3 (σ.length + 0) 0 [.int .i64 w0, .int .i64 h0_, .bool wr0, sv0, lv0] := pt_t0.pre (q_1.trans (v_2.trans (v_3.trans q_3)))
  have g_t1_3 : PtAt S3 (σ.length + 1) 0 [ev1, xv1, yv1] := pt_t1.pre (q_1.trans (v_2.trans (v_3.trans q_3)))
  have g_spec_3 : PtAt S3 (S1.length + 0) 0 [.int .i64 0, .int .i64 0, .bool false, .slice none 0 0, .slice none 0 0, .slice none 0 0] := pt_spec.pre (v_3.trans q_3)
  have g_c0_3 : PtAt S3 (S2.length + 2) 0 [.int .i64 w0, .int .i64 h0_, .bool wr0, slV (S2.length + 0) sp0.length, slV (S2.length + 1) lo0.length] := pt_c0.pre q_3
  have g_c1_3 : PtAt S3 (S2.length + 6) 0 [slV (S2.length + 3) f1.e.length, slV (S2.length + 4) f1.x.length, slV (S2.length + 5) f1.y.length] := pt_c1.pre q_3
  refine EvR.nrm ?_
  have inv0 : RInv A3 (S2.length + 0) [(S2.length + 0, sp0), (S2.length + 1, lo0)] := by rw [f_3]; exact rinv2 (hget _ _ 0) (hget _ _ 1) (by omega) (by omega)
  have rd0 : ShR A3 (slV (S2.length + 0) sp0.length) (slV (S2.length + 1) lo0.length) sp0 lo0 := ⟨Row.whole (by rw [f_3]; exact hget _ _ 0) (by omega) (by rw [f32s_length]; omega), Row.whole (by rw [f_3]; exact hget _ _ 1) (by omega) (by rw [f32s_length]; omega)⟩
  have inv1 : RInv A3 (S2.length + 3) [(S2.length + 3, f1.e), (S2.length + 4, f1.x), (S2.length + 5, f1.y)] := by rw [f_3]; exact rinv3 (hget _ _ 3) (hget _ _ 4) (hget _ _ 5) (by omega) (by omega) (by omega)
  have rd1 : FlR A3 (slV (S2.length + 3) f1.e.length) (slV (S2.length + 4) f1.x.length) (slV (S2.length + 5) f1.y.length) f1.e f1.x f1.y := ⟨Row.whole (by rw [f_3]; exact hget _ _ 3) (by omega) (by rw [f32s_length]; omega), Row.whole (by rw [f_3]; exact hget _ _ 4) (by omega) (by rw [f32s_length]; omega), Row.whole (by rw [f_3]; exact hget _ _ 5) (by omega) (by rw [f32s_length]; omega)⟩
  repeat' (first | refine ff ?_ | ((first | refine EvR.aSplB ?_ ?_ | refine Ev.aSplB ?_ ?_) <;> (intro hb; (try rw [hb]); (try simp only [Bool.not_eq_true', Bool.not_eq_false', Bool.not_eq_eq_eq_not, Bool.not_true, Bool.not_false, decide_eq_true_eq, decide_eq_false_iff_not, Bool.and_eq_true, Bool.and_eq_false_iff, Bool.or_eq_true, Bool.or_eq_false_iff] at hb); (try (exfalso; first | omega | exact hb trivial)))) | (apply endS trivial; rotate_left; (· exact eva); (· rfl); try refine ⟨?_, rfl⟩) | fail)
  (apply EvR.aCall h7.at_; (· exact eva); (· exact  h7.ok _ 0 0 false _ _ _ _ _ _ [] [] [] (noShR _) (noFlsR _) (noShR _) (noFlsR _) (by simp) (by simp) noFits); (rintro _ _ ⟨rfl, rfl⟩; refine EvR.nrm ?_))
  repeat' (first | refine ff ?_ | ((first | refine EvR.aSplB ?_ ?_ | refine Ev.aSplB ?_ ?_) <;> (intro hb; (try rw [hb]); (try simp only [Bool.not_eq_true', Bool.not_eq_false', Bool.not_eq_eq_eq_not, Bool.not_true, Bool.not_false, decide_eq_true_eq, decide_eq_false_iff_not, Bool.and_eq_true, Bool.and_eq_false_iff, Bool.or_eq_true, Bool.or_eq_false_iff] at hb); (try (exfalso; first | omega | exact hb trivial)))) | (apply endS trivial; rotate_left; (· exact eva); (· rfl); try refine ⟨?_, rfl⟩) | fail)
  (apply EvR.aCall h3.at_; (· exact eva); (· exact  h3.ok _ w0 h0_ wr0 sv0 lv0 sp0 lo0 (r0.pre ((v_1.trans (q_1.trans (v_2.trans (v_3.trans q_3)))).app _)) na0 nb0); (rintro _ _ ⟨rfl, rfl⟩; refine EvR.nrm ?_))
  repeat' (first | refine ff ?_ | ((first | refine EvR.aSplB ?_ ?_ | refine Ev.aSplB ?_ ?_) <;> (intro hb; (try rw [hb]); (try simp only [Bool.not_eq_true', Bool.not_eq_false', Bool.not_eq_eq_eq_not, Bool.not_true, Bool.not_false, decide_eq_true_eq, decide_eq_false_iff_not, Bool.and_eq_true, Bool.and_eq_false_iff, Bool.or_eq_true, Bool.or_eq_false_iff] at hb); (try (exfalso; first | omega | exact hb trivial)))) | (apply endS trivial; rotate_left; (· exact eva); (· rfl); try refine ⟨?_, rfl⟩) | fail)
  (apply EvR.aCall h8.at_; (· exact eva); (· exact  h8.ok _ w0 h0_ wr0 _ _ _ _ sp0 lo0 (rd0.pre (q_3.app _)) ⟨Row.ownF rfl rfl, Row.ownF rfl rfl⟩ na0 nb0); (rintro _ _ ⟨rfl, rfl⟩; refine EvR.nrm ?_))
  repeat' (first | refine ff ?_ | ((first | refine EvR.aSplB ?_ ?_ | refine Ev.aSplB ?_ ?_) <;> (intro hb; (try rw [hb]); (try simp only [Bool.not_eq_true', Bool.not_eq_false', Bool.not_eq_eq_eq_not, Bool.not_true, Bool.not_false, decide_eq_true_eq, decide_eq_false_iff_not, Bool.and_eq_true, Bool.and_eq_false_iff, Bool.or_eq_true, Bool.or_eq_false_iff] at hb); (try (exfalso; first | omega | exact hb trivial)))) | (apply endS trivial; rotate_left; (· exact eva); (· rfl); try refine ⟨?_, rfl⟩) | fail)
  (apply EvR.aCall h4.at_; (· exact eva); (· exact  h4.ok _ ev1 xv1 yv1 f1.e f1.x f1.y (r1.pre ((v_1.trans (q_1.trans (v_2.trans (v_3.trans q_3)))).app _)) na1 nb1 nc1); (rintro _ _ ⟨rfl, rfl⟩; refine EvR.nrm ?_))
  repeat' (first | refine ff ?_ | ((first | refine EvR.aSplB ?_ ?_ | refine Ev.aSplB ?_ ?_) <;> (intro hb; (try rw [hb]); (try simp only [Bool.not_eq_true', Bool.not_eq_false', Bool.not_eq_eq_eq_not, Bool.not_true, Bool.not_false, decide_eq_true_eq, decide_eq_false_iff_not, Bool.and_eq_true, Bool.and_eq_false_iff, Bool.or_eq_true, Bool.or_eq_false_iff] at hb); (try (exfalso; first | omega | exact hb trivial)))) | (apply endS trivial; rotate_left; (· exact eva); (· rfl); try refine ⟨?_, rfl⟩) | fail)
  (apply EvR.aCall h9.at_; (· exact eva); (· exact  h9.ok _ _ _ _ _ _ _ f1.e f1.x f1.y (rd1.pre (q_3.app _)) ⟨Row.ownF rfl rfl, Row.ownF rfl rfl, Row.ownF rfl rfl⟩ na1 nb1 nc1); (rintro _ _ ⟨rfl, rfl⟩; refine EvR.nrm ?_))
  repeat' (first | refine ff ?_ | ((first | refine EvR.aSplB ?_ ?_ | refine Ev.aSplB ?_ ?_) <;> (intro hb; (try rw [hb]); (try simp only [Bool.not_eq_true', Bool.not_eq_false', Bool.not_eq_eq_eq_not, Bool.not_true, Bool.not_false, decide_eq_true_eq, decide_eq_false_iff_not, Bool.and_eq_true, Bool.and_eq_false_iff, Bool.or_eq_true, Bool.or_eq_false_iff] at hb); (try (exfalso; first | omega | exact hb trivial)))) | (apply endS trivial; rotate_left; (· exact eva); (· rfl); try refine ⟨?_, rfl⟩) | fail)
  have own_4 := (inv0.pre q_3).own
  apply EvR.aCall h10.at_; (· exact eva); (· exact h10.ok.2 _ w0 h0_ wr0 (S2.length + 0) (S2.length + 1) sp0 lo0 (1) (by omega) ((Pre.app (Pre.refl _) _).get (own_4 (S2.length + 0, sp0) (by simp))) ((Pre.app (Pre.refl _) _).get (own_4 (S2.length + 1, lo0) (by simp))) na0 nb0 (by omega) (by omega)); rintro _ _ ⟨rfl, rfl⟩
  refine EvR.baseM0 (k := 1) (R := [(S2.length + 0, sp0), (S2.length + 1, lo0)]) rfl fun A4 S4 f_4 q_4 => ?_
  have v_4 : Pre S3 A4 := by rw [f_4]; exact (Pre.refl _).app _
  have len_4 := (Pre.refl S2).len
  have y_4 : Pre S2 S4 := Pre.trans (Pre.mark (v_3.trans (q_3.trans v_4)) (1) fun p hp => by have := inv0.low p hp; omega) q_4
  have tops_4 : ∀ p ∈ ([(S2.length + 0, sp0), (S2.length + 1, lo0)] : Rws), p.1 < S2.length + 2 := fun p hp => by simp only [List.mem_cons, List.not_mem_nil, or_false] at hp; rcases hp with rfl | rfl <;> (dsimp only; omega)
  have lenR_4 : S2.length + 2 ≤ A3.length := by have := inv0.lt (p := (S2.length + 1, lo0)) (by simp); dsimp only at this; omega
  have len_4a := (Pre.refl A3).len
  have inv1_4 := inv1.keep (H' := S4) fun o_ h0_ h1_ => mark_at q_4 tops_4 (by omega) (q_3.trans v_4) h1_
  have pt_res : PtAt A4 (S3.length + 0) 0 [.int .i64 0, .int .i64 0, .bool false, .slice none 0 0, .slice none 0 0, .slice none 0 0] := by rw [f_4]; exact PtAt.own rfl
  have g_t0_4 : PtAt S4 (σ.length + 0) 0 [.int .i64 w0, .int .i64 h0_, .bool wr0, sv0, lv0] := pt_t0.pre ((q_1.trans v_2).trans y_4)
  have g_t1_4 : PtAt S4 (σ.length + 1) 0 [ev1, xv1, yv1] := pt_t1.pre ((q_1.trans v_2).trans y_4)
  have g_spec_4 : PtAt S4 (S1.length + 0) 0 [.int .i64 0, .int .i64 0, .bool false, .slice none 0 0, .slice none 0 0, .slice none 0 0] := pt_spec.pre ((Pre.refl S2).trans y_4)
  have g_c1_4 : PtAt S4 (S2.length + 6) 0 [slV (S2.length + 3) f1.e.length, slV (S2.length + 4) f1.x.length, slV (S2.length + 5) f1.y.length] := pt_c1.same (mark_at q_4 tops_4 (by omega) (q_3.trans v_4) pt_c1.lt)
  have g_res_4 : PtAt S4 (S3.length + 0) 0 [.int .i64 0, .int .i64 0, .bool false, .slice none 0 0, .slice none 0 0, .slice none 0 0] := pt_res.same (mark_at q_4 tops_4 (by have := q_3.len; omega) (Pre.refl A4) pt_res.lt)
  clear g_t0_3 g_t1_3 g_spec_3 g_c0_3 g_c1_3
  refine EvR.nrm ?_
  repeat' (first | refine ff ?_ | ((first | refine EvR.aSplB ?_ ?_ | refine Ev.aSplB ?_ ?_) <;> (intro hb; (try rw [hb]); (try simp only [Bool.not_eq_true', Bool.not_eq_false', Bool.not_eq_eq_eq_not, Bool.not_true, Bool.not_false, decide_eq_true_eq, decide_eq_false_iff_not, Bool.and_eq_true, Bool.and_eq_false_iff, Bool.or_eq_true, Bool.or_eq_false_iff] at hb); (try (exfalso; first | omega | exact hb trivial)))) | (apply endS trivial; rotate_left; (· exact eva); (· rfl); try refine ⟨?_, rfl⟩) | fail)
  have own_5 := (inv1_4.pre (Pre.refl S4)).own
  apply EvR.aCall h11.at_; (· exact eva); (· exact h11.ok.2 _ (S2.length + 3) (S2.length + 4) (S2.length + 5) f1.e f1.x f1.y _ _ _ (1 + sp0.length + lo0.length) rfl rfl rfl (by omega) (by omega) (by omega) ((Pre.app (Pre.refl _) _).get (own_5 (S2.length + 3, f1.e) (by simp))) ((Pre.app (Pre.refl _) _).get (own_5 (S2.length + 4, f1.x) (by simp))) ((Pre.app (Pre.refl _) _).get (own_5 (S2.length + 5, f1.y) (by simp))) na1 nb1 nc1 (by omega) (by omega)); rintro _ _ ⟨rfl, rfl⟩
  refine EvR.baseM0 (k := 1 + sp0.length + lo0.length) (R := [(S2.length + 3, f1.e), (S2.length + 4, f1.x), (S2.length + 5, f1.y)]) rfl fun A5 S5 f_5 q_5 => ?_
  have v_5 : Pre S4 A5 := by rw [f_5]; exact (Pre.refl _).app _
  have len_5 := (Pre.refl S2).len
  have y_5 : Pre S2 S5 := Pre.trans (Pre.mark (y_4.trans v_5) (1 + sp0.length + lo0.length) fun p hp => by have := inv1_4.low p hp; omega) q_5
  have tops_5 : ∀ p ∈ ([(S2.length + 3, f1.e), (S2.length + 4, f1.x), (S2.length + 5, f1.y)] : Rws), p.1 < S2.length + 6 := fun p hp => by simp only [List.mem_cons, List.not_mem_nil, or_false] at hp; rcases hp with rfl | rfl | rfl <;> (dsimp only; omega)
  have lenR_5 : S2.length + 6 ≤ A3.length := by have := inv1.lt (p := (S2.length + 5, f1.y)) (by simp); dsimp only at this; omega
  have len_5a := (Pre.refl A3).len
  have g_t0_5 : PtAt S5 (σ.length + 0) 0 [.int .i64 w0, .int .i64 h0_, .bool wr0, sv0, lv0] := pt_t0.pre ((q_1.trans v_2).trans y_5)
  have g_t1_5 : PtAt S5 (σ.length + 1) 0 [ev1, xv1, yv1] := pt_t1.pre ((q_1.trans v_2).trans y_5)
  have g_spec_5 : PtAt S5 (S1.length + 0) 0 [.int .i64 0, .int .i64 0, .bool false, .slice none 0 0, .slice none 0 0, .slice none 0 0] := pt_spec.pre ((Pre.refl S2).trans y_5)
  have g_res_5 : PtAt S5 (S3.length + 0) 0 [.int .i64 0, .int .i64 0, .bool false, .slice none 0 0, .slice none 0 0, .slice none 0 0] := g_res_4.same (mark_at q_5 tops_5 (by have := q_3.len; omega) v_5 g_res_4.lt)
  clear g_t0_4 g_t1_4 g_spec_4 g_c1_4 g_res_4
  refine EvR.nrm ?_
  repeat' (first | refine ff ?_ | ((first | refine EvR.aSplB ?_ ?_ | refine Ev.aSplB ?_ ?_) <;> (intro hb; (try rw [hb]); (try simp only [Bool.not_eq_true', Bool.not_eq_false', Bool.not_eq_eq_eq_not, Bool.not_true, Bool.not_false, decide_eq_true_eq, decide_eq_false_iff_not, Bool.and_eq_true, Bool.and_eq_false_iff, Bool.or_eq_true, Bool.or_eq_false_iff] at hb); (try (exfalso; first | omega | exact hb trivial)))) | (apply endS trivial; rotate_left; (· exact eva); (· rfl); try refine ⟨?_, rfl⟩) | fail)
  (apply EvR.aCall h7.at_; (· exact eva); (· exact  h7.ok _ 0 0 false _ _ _ _ _ _ [] [] [] (noShR _) (noFlsR _) (noShR _) (noFlsR _) (by simp) (by simp) noFits); (rintro _ _ ⟨rfl, rfl⟩; refine EvR.nrm ?_))
  repeat' (first | refine ff ?_ | ((first | refine EvR.aSplB ?_ ?_ | refine Ev.aSplB ?_ ?_) <;> (intro hb; (try rw [hb]); (try simp only [Bool.not_eq_true', Bool.not_eq_false', Bool.not_eq_eq_eq_not, Bool.not_true, Bool.not_false, decide_eq_true_eq, decide_eq_false_iff_not, Bool.and_eq_true, Bool.and_eq_false_iff, Bool.or_eq_true, Bool.or_eq_false_iff] at hb); (try (exfalso; first | omega | exact hb trivial)))) | (apply endS trivial; rotate_left; (· exact eva); (· rfl); try refine ⟨?_, rfl⟩) | fail)
  apply EvR.aCall h12.at_; (· exact eva); (· exact h12.ok.1.1 _ 1); rintro _ _ ⟨rfl, t6, rfl⟩
  refine EvR.base2 fun A6 S6 f_6 e_6 q_6 => ?_
  have v_6 : Pre S5 A6 := by rw [f_6]; exact (Pre.refl _).app _
  clear g_t0_5 g_t1_5 g_spec_5
  have g_t0_6 : PtAt S6 (σ.length + 0) 0 [.int .i64 w0, .int .i64 h0_, .bool wr0, sv0, lv0] := pt_t0.pre (q_1.trans (v_2.trans (y_5.trans (v_6.trans q_6))))
  have g_t1_6 : PtAt S6 (σ.length + 1) 0 [ev1, xv1, yv1] := pt_t1.pre (q_1.trans (v_2.trans (y_5.trans (v_6.trans q_6))))
  have g_spec_6 : PtAt S6 (S1.length + 0) 0 [.int .i64 0, .int .i64 0, .bool false, .slice none 0 0, .slice none 0 0, .slice none 0 0] := pt_spec.pre (y_5.trans (v_6.trans q_6))
  have g_res_6 : PtAt S6 (S3.length + 0) 0 [.int .i64 0, .int .i64 0, .bool false, .slice none 0 0, .slice none 0 0, .slice none 0 0] := g_res_5.pre (v_6.trans q_6)
  refine EvR.nrm ?_
  repeat' (first | refine ff ?_ | ((first | refine EvR.aSplB ?_ ?_ | refine Ev.aSplB ?_ ?_) <;> (intro hb; (try rw [hb]); (try simp only [Bool.not_eq_true', Bool.not_eq_false', Bool.not_eq_eq_eq_not, Bool.not_true, Bool.not_false, decide_eq_true_eq, decide_eq_false_iff_not, Bool.and_eq_true, Bool.and_eq_false_iff, Bool.or_eq_true, Bool.or_eq_false_iff] at hb); (try (exfalso; first | omega | exact hb trivial)))) | (apply endS trivial; rotate_left; (· exact eva); (· rfl); try refine ⟨?_, rfl⟩) | fail)
  (apply EvR.aCall h13.at_; (· exact eva); (· exact  h13.ok.1.1 _ 1 (by omega) (by omega)); (rintro _ _ ⟨rfl, rfl⟩; refine EvR.nrm ?_))
  repeat' (first | refine ff ?_ | ((first | refine EvR.aSplB ?_ ?_ | refine Ev.aSplB ?_ ?_) <;> (intro hb; (try rw [hb]); (try simp only [Bool.not_eq_true', Bool.not_eq_false', Bool.not_eq_eq_eq_not, Bool.not_true, Bool.not_false, decide_eq_true_eq, decide_eq_false_iff_not, Bool.and_eq_true, Bool.and_eq_false_iff, Bool.or_eq_true, Bool.or_eq_false_iff] at hb); (try (exfalso; first | omega | exact hb trivial)))) | (apply endS trivial; rotate_left; (· exact eva); (· rfl); try refine ⟨?_, rfl⟩) | fail)
  (apply EvR.aCall h3.at_; (· exact eva); (· exact  h3.ok _ w0 h0_ wr0 sv0 lv0 sp0 lo0 (r0.pre ((v_1.trans (q_1.trans (v_2.trans (y_5.trans (v_6.trans q_6))))).app _)) na0 nb0); (rintro _ _ ⟨rfl, rfl⟩; refine EvR.nrm ?_))
  repeat' (first | refine ff ?_ | ((first | refine EvR.aSplB ?_ ?_ | refine Ev.aSplB ?_ ?_) <;> (intro hb; (try rw [hb]); (try simp only [Bool.not_eq_true', Bool.not_eq_false', Bool.not_eq_eq_eq_not, Bool.not_true, Bool.not_false, decide_eq_true_eq, decide_eq_false_iff_not, Bool.and_eq_true, Bool.and_eq_false_iff, Bool.or_eq_true, Bool.or_eq_false_iff] at hb); (try (exfalso; first | omega | exact hb trivial)))) | (apply endS trivial; rotate_left; (· exact eva); (· rfl); try refine ⟨?_, rfl⟩) | fail)
  (apply EvR.aCall h4.at_; (· exact eva); (· exact  h4.ok _ ev1 xv1 yv1 f1.e f1.x f1.y (r1.pre ((v_1.trans (q_1.trans (v_2.trans (y_5.trans (v_6.trans q_6))))).app _)) na1 nb1 nc1); (rintro _ _ ⟨rfl, rfl⟩; refine EvR.nrm ?_))
  repeat' (first | refine ff ?_ | ((first | refine EvR.aSplB ?_ ?_ | refine Ev.aSplB ?_ ?_) <;> (intro hb; (try rw [hb]); (try simp only [Bool.not_eq_true', Bool.not_eq_false', Bool.not_eq_eq_eq_not, Bool.not_true, Bool.not_false, decide_eq_true_eq, decide_eq_false_iff_not, Bool.and_eq_true, Bool.and_eq_false_iff, Bool.or_eq_true, Bool.or_eq_false_iff] at hb); (try (exfalso; first | omega | exact hb trivial)))) | (apply endS trivial; rotate_left; (· exact eva); (· rfl); try refine ⟨?_, rfl⟩) | fail)
  apply EvR.aCall h6.at_; (· exact eva); (· exact h6.ok _ w0 h0_ wr0 _ _ sp0 lo0 _ _ _ f1 n2 n3 ⟨Row.ownF rfl rfl, Row.ownF rfl rfl⟩ na0 nb0 ⟨Row.ownF rfl rfl, Row.ownF rfl rfl, Row.ownF rfl rfl⟩ ⟨na1, nb1, nc1⟩); rintro _ _ hres
  obtain ⟨⟨τ7, rfl⟩, rfl⟩ := hres.f hok
  clear hres
  refine EvR.base2 fun A7 S7 f_7 e_7 q_7 => ?_
  have v_7 : Pre S6 A7 := by rw [f_7]; exact (Pre.refl _).app _
  clear g_t0_6 g_t1_6 g_spec_6 g_res_6
  have g_t0_7 : PtAt S7 (σ.length + 0) 0 [.int .i64 w0, .int .i64 h0_, .bool wr0, sv0, lv0] := pt_t0.pre (q_1.trans (v_2.trans (y_5.trans (v_6.trans (q_6.trans (v_7.trans q_7))))))
  have g_t1_7 : PtAt S7 (σ.length + 1) 0 [ev1, xv1, yv1] := pt_t1.pre (q_1.trans (v_2.trans (y_5.trans (v_6.trans (q_6.trans (v_7.trans q_7))))))
  have g_spec_7 : PtAt S7 (S1.length + 0) 0 [.int .i64 0, .int .i64 0, .bool false, .slice none 0 0, .slice none 0 0, .slice none 0 0] := pt_spec.pre (y_5.trans (v_6.trans (q_6.trans (v_7.trans q_7))))
  have g_res_7 : PtAt S7 (S3.length + 0) 0 [.int .i64 0, .int .i64 0, .bool false, .slice none 0 0, .slice none 0 0, .slice none 0 0] := g_res_5.pre (v_6.trans (q_6.trans (v_7.trans q_7)))
  refine EvR.nrm ?_
  repeat' (first | refine ff ?_ | ((first | refine EvR.aSplB ?_ ?_ | refine Ev.aSplB ?_ ?_) <;> (intro hb; (try rw [hb]); (try simp only [Bool.not_eq_true', Bool.not_eq_false', Bool.not_eq_eq_eq_not, Bool.not_true, Bool.not_false, decide_eq_true_eq, decide_eq_false_iff_not, Bool.and_eq_true, Bool.and_eq_false_iff, Bool.or_eq_true, Bool.or_eq_false_iff] at hb); (try (exfalso; first | omega | exact hb trivial)))) | (apply endS trivial; rotate_left; (· exact eva); (· rfl); try refine ⟨?_, rfl⟩) | fail)
  (apply EvR.aCall h7.at_; (· exact eva); (· exact  h7.ok _ 0 0 false _ _ _ _ _ _ [] [] [] (noShR _) (noFlsR _) (noShR _) (noFlsR _) (by simp) (by simp) noFits); (rintro _ _ ⟨rfl, rfl⟩; refine EvR.nrm ?_))
  repeat' (first | refine ff ?_ | ((first | refine EvR.aSplB ?_ ?_ | refine Ev.aSplB ?_ ?_) <;> (intro hb; (try rw [hb]); (try simp only [Bool.not_eq_true', Bool.not_eq_false', Bool.not_eq_eq_eq_not, Bool.not_true, Bool.not_false, decide_eq_true_eq, decide_eq_false_iff_not, Bool.and_eq_true, Bool.and_eq_false_iff, Bool.or_eq_true, Bool.or_eq_false_iff] at hb); (try (exfalso; first | omega | exact hb trivial)))) | (apply endS trivial; rotate_left; (· exact eva); (· rfl); try refine ⟨?_, rfl⟩) | fail)
  (apply EvR.aCall h13.at_; (· exact eva); (· exact  h13.ok.1.1 _ 1 (by omega) (by omega)); (rintro _ _ ⟨rfl, rfl⟩; refine EvR.nrm ?_))
  repeat' (first | refine ff ?_ | ((first | refine EvR.aSplB ?_ ?_ | refine Ev.aSplB ?_ ?_) <;> (intro hb; (try rw [hb]); (try simp only [Bool.not_eq_true', Bool.not_eq_false', Bool.not_eq_eq_eq_not, Bool.not_true, Bool.not_false, decide_eq_true_eq, decide_eq_false_iff_not, Bool.and_eq_true, Bool.and_eq_false_iff, Bool.or_eq_true, Bool.or_eq_false_iff] at hb); (try (exfalso; first | omega | exact hb trivial)))) | (apply endS trivial; rotate_left; (· exact eva); (· rfl); try refine ⟨?_, rfl⟩) | fail)
  apply endK (v_1.trans (q_1.trans (v_2.trans (y_5.trans (v_6.trans (q_6.trans (v_7.trans q_7)))))))
  · trivial
  · rfl
  · exact eva
  · rfl
theorem rowFilmOf_t {C : Ctab} {i1 i2 i3 i4 i5 i6 i7 i8 i9 i10 i11 i12 i13 : FuncId} {c1 c2 c3 c4 c5 c6 c7 c8 c9 c10 c11 c12 c13 : Contract} (h1 : Has C i1 c1 laws_szSheet_ok) (h2 : Has C i2 c2 laws_szField_ok) (h3 : Has C i3 c3 laws_toSheet_ok) (h4 : Has C i4 c4 laws_toField_ok) (h5 : Has C i5 c5 spec_FilmOf_ok) (h6 : Has C i6 c6 impl_FilmOf_ok) (h7 : Has C i7 c7 laws_eqFilm_ok) (h8 : Has C i8 c8 laws_eqSheet_ok) (h9 : Has C i9 c9 laws_eqField_ok) (h10 : HasW C i10 c10 laws_markSheet_ok) (h11 : HasW C i11 c11 laws_markField_ok) (h12 : HasW C i12 c12 laws_markFilm_ok) (h13 : Has C i13 c13 laws_heldFilm_ok) (σ : Heap) (w0 h0_ : Int) (wr0 : Bool) (sv0 lv0 : Value) (sp0 lo0 : List Nat) (r0 : ShR σ sv0 lv0 sp0 lo0) (ba0 : sp0.length ≤ 9223372036854775807) (bb0 : lo0.length ≤ 9223372036854775807) (ev1 xv1 yv1 : Value) (f1 : Fld) (r1 : FlR σ ev1 xv1 yv1 f1.e f1.x f1.y) (ba1 : f1.e.length ≤ 9223372036854775807) (bb1 : f1.x.length ≤ 9223372036854775807) (bc1 : f1.y.length ≤ 9223372036854775807) (n2 : Int) (n3 : Int) (hz0 : ¬ szSheet sp0 lo0 (1048576) < 0) (hz1 : ¬ szAll [f1.e.length, f1.x.length, f1.y.length] (szSheet sp0 lo0 (1048576)) < 0)
    (hok : foOk w0 h0_ wr0 sp0 lo0 f1 n2 n3 = true) (hne : foFs w0 h0_ wr0 sp0 lo0 f1 n2 n3 ≠ []) : Ret (gcC C (laws_FnExactFilmOf i1 i2 i3 i4 i5 i6 i7 i8 i9 i10 i11 i12 i13) true) [shV w0 h0_ wr0 sv0 lv0, fV ev1 xv1 yv1, .int .i64 n2, .int .i64 n3] σ fun v _ => v = .bool true := by
  have ka0 := r0.s.ok
  have kb0 := r0.l.ok
  have ka1 := r1.e.ok
  have kb1 := r1.x.ok
  have kc1 := r1.y.ok
  have z0 := szSheet_fact sp0 lo0 (1048576) (by omega)
  have na0 : sp0.length ≤ 1048576 := by omega
  have nb0 : lo0.length ≤ 1048576 := by omega
  have z1 := szField_fact f1.e f1.x f1.y (szSheet sp0 lo0 (1048576)) (by omega)
  have na1 : f1.e.length ≤ 1048576 := by omega
  have nb1 : f1.x.length ≤ 1048576 := by omega
  have nc1 : f1.y.length ≤ 1048576 := by omega
  obtain ⟨gs, hgs⟩ : ∃ gs, gs = foFs w0 h0_ wr0 sp0 lo0 f1 n2 n3 := ⟨_, rfl⟩
  rw [← hgs] at hne
  obtain ⟨gfit, gsum⟩ := foFs_fit hok
  rw [← hgs] at gfit gsum
  have gn1 := na0
  have gn2 := nb0
  refine ret_gc rfl rfl ?_
  repeat' (first | refine ff ?_ | ((first | refine EvR.aSplB ?_ ?_ | refine Ev.aSplB ?_ ?_) <;> (intro hb; (try rw [hb]); (try simp only [Bool.not_eq_true', Bool.not_eq_false', Bool.not_eq_eq_eq_not, Bool.not_true, Bool.not_false, decide_eq_true_eq, decide_eq_false_iff_not, Bool.and_eq_true, Bool.and_eq_false_iff, Bool.or_eq_true, Bool.or_eq_false_iff] at hb); (try (exfalso; first | omega | exact hb trivial)))) | (apply endS trivial; rotate_left; (· exact eva); (· rfl); try refine ⟨?_, rfl⟩) | fail)
  (apply EvR.aCall h1.at_; (· exact eva); (· exact  h1.ok _ w0 h0_ wr0 sv0 lv0 sp0 lo0 (1048576) ⟨r0.s.ext _, r0.l.ext _⟩ ba0 bb0 (by omega) (by omega)); (rintro _ _ ⟨rfl, rfl⟩; refine EvR.nrm ?_))
  repeat' (first | refine ff ?_ | ((first | refine EvR.aSplB ?_ ?_ | refine Ev.aSplB ?_ ?_) <;> (intro hb; (try rw [hb]); (try simp only [Bool.not_eq_true', Bool.not_eq_false', Bool.not_eq_eq_eq_not, Bool.not_true, Bool.not_false, decide_eq_true_eq, decide_eq_false_iff_not, Bool.and_eq_true, Bool.and_eq_false_iff, Bool.or_eq_true, Bool.or_eq_false_iff] at hb); (try (exfalso; first | omega | exact hb trivial)))) | (apply endS trivial; rotate_left; (· exact eva); (· rfl); try refine ⟨?_, rfl⟩) | fail)
  (apply EvR.aCall h2.at_; (· exact eva); (· exact  h2.ok _ ev1 xv1 yv1 f1.e f1.x f1.y (szSheet sp0 lo0 (1048576)) (r1.ext _) ba1 bb1 bc1 (by omega) (by omega)); (rintro _ _ ⟨rfl, rfl⟩; refine EvR.nrm ?_))
  repeat' (first | refine ff ?_ | ((first | refine EvR.aSplB ?_ ?_ | refine Ev.aSplB ?_ ?_) <;> (intro hb; (try rw [hb]); (try simp only [Bool.not_eq_true', Bool.not_eq_false', Bool.not_eq_eq_eq_not, Bool.not_true, Bool.not_false, decide_eq_true_eq, decide_eq_false_iff_not, Bool.and_eq_true, Bool.and_eq_false_iff, Bool.or_eq_true, Bool.or_eq_false_iff] at hb); (try (exfalso; first | omega | exact hb trivial)))) | (apply endS trivial; rotate_left; (· exact eva); (· rfl); try refine ⟨?_, rfl⟩) | fail)
  (apply EvR.aCall h3.at_; (· exact eva); (· exact  h3.ok _ w0 h0_ wr0 sv0 lv0 sp0 lo0 (r0.pre ((Pre.refl σ).app _)) na0 nb0); (rintro _ _ ⟨rfl, rfl⟩; refine EvR.nrm ?_))
  repeat' (first | refine ff ?_ | ((first | refine EvR.aSplB ?_ ?_ | refine Ev.aSplB ?_ ?_) <;> (intro hb; (try rw [hb]); (try simp only [Bool.not_eq_true', Bool.not_eq_false', Bool.not_eq_eq_eq_not, Bool.not_true, Bool.not_false, decide_eq_true_eq, decide_eq_false_iff_not, Bool.and_eq_true, Bool.and_eq_false_iff, Bool.or_eq_true, Bool.or_eq_false_iff] at hb); (try (exfalso; first | omega | exact hb trivial)))) | (apply endS trivial; rotate_left; (· exact eva); (· rfl); try refine ⟨?_, rfl⟩) | fail)
  (apply EvR.aCall h4.at_; (· exact eva); (· exact  h4.ok _ ev1 xv1 yv1 f1.e f1.x f1.y (r1.pre ((Pre.refl σ).app _)) na1 nb1 nc1); (rintro _ _ ⟨rfl, rfl⟩; refine EvR.nrm ?_))
  repeat' (first | refine ff ?_ | ((first | refine EvR.aSplB ?_ ?_ | refine Ev.aSplB ?_ ?_) <;> (intro hb; (try rw [hb]); (try simp only [Bool.not_eq_true', Bool.not_eq_false', Bool.not_eq_eq_eq_not, Bool.not_true, Bool.not_false, decide_eq_true_eq, decide_eq_false_iff_not, Bool.and_eq_true, Bool.and_eq_false_iff, Bool.or_eq_true, Bool.or_eq_false_iff] at hb); (try (exfalso; first | omega | exact hb trivial)))) | (apply endS trivial; rotate_left; (· exact eva); (· rfl); try refine ⟨?_, rfl⟩) | fail)
  apply EvR.aCall h5.at_; (· exact eva); (· exact h5.ok _ w0 h0_ wr0 _ _ sp0 lo0 _ _ _ f1 n2 n3 ⟨Row.ownF rfl rfl, Row.ownF rfl rfl⟩ na0 nb0 ⟨Row.ownF rfl rfl, Row.ownF rfl rfl, Row.ownF rfl rfl⟩ ⟨na1, nb1, nc1⟩); rintro _ _ hres
  obtain ⟨τ1, s1, l1, b1, R1, rfl, rfl, o1⟩ := hres.t hok
  clear hres
  rw [← hgs] at o1 ⊢
  refine EvR.base2 fun A1 S1 f_1 e_1 q_1 => ?_
  rw [← e_1, ← f_1] at o1
  have v_1 : Pre σ A1 := by rw [f_1]; exact (Pre.refl _).app _
  have pt_t0 : PtAt A1 (σ.length + 0) 0 [.int .i64 w0, .int .i64 h0_, .bool wr0, sv0, lv0] := by rw [f_1]; exact PtAt.own rfl
  have pt_t1 : PtAt A1 (σ.length + 1) 0 [ev1, xv1, yv1] := by rw [f_1]; exact PtAt.own rfl
  have g_t0_1 : PtAt S1 (σ.length + 0) 0 [.int .i64 w0, .int .i64 h0_, .bool wr0, sv0, lv0] := pt_t0.pre q_1
  have g_t1_1 : PtAt S1 (σ.length + 1) 0 [ev1, xv1, yv1] := pt_t1.pre q_1
  refine EvR.nrm ?_
  repeat' (first | refine ff ?_ | ((first | refine EvR.aSplB ?_ ?_ | refine Ev.aSplB ?_ ?_) <;> (intro hb; (try rw [hb]); (try simp only [Bool.not_eq_true', Bool.not_eq_false', Bool.not_eq_eq_eq_not, Bool.not_true, Bool.not_false, decide_eq_true_eq, decide_eq_false_iff_not, Bool.and_eq_true, Bool.and_eq_false_iff, Bool.or_eq_true, Bool.or_eq_false_iff] at hb); (try (exfalso; first | omega | exact hb trivial)))) | (apply endS trivial; rotate_left; (· exact eva); (· rfl); try refine ⟨?_, rfl⟩) | fail)
  refine EvR.base fun S2 f_2 => ?_
  have v_2 : Pre S1 S2 := by rw [f_2]; exact (Pre.refl _).app _
  have pt_spec : PtAt S2 (S1.length + 0) 0 [.int .i64 w0, .int .i64 h0_, .bool wr0, slV s1 sp0.length, slV l1 lo0.length, slV b1 gs.length] := by rw [f_2]; exact PtAt.own rfl
  clear g_t0_1 g_t1_1
  have g_t0_2 : PtAt S2 (σ.length + 0) 0 [.int .i64 w0, .int .i64 h0_, .bool wr0, sv0, lv0] := pt_t0.pre (q_1.trans v_2)
  have g_t1_2 : PtAt S2 (σ.length + 1) 0 [ev1, xv1, yv1] := pt_t1.pre (q_1.trans v_2)
  refine EvR.nrm ?_
  (apply EvR.aCall h3.at_; (· exact eva); (· exact  h3.ok _ w0 h0_ wr0 sv0 lv0 sp0 lo0 (r0.pre ((v_1.trans (q_1.trans v_2)).app _)) na0 nb0); (rintro _ _ ⟨rfl, rfl⟩; refine EvR.nrm ?_))
  repeat' (first | refine ff ?_ | ((first | refine EvR.aSplB ?_ ?_ | refine Ev.aSplB ?_ ?_) <;> (intro hb; (try rw [hb]); (try simp only [Bool.not_eq_true', Bool.not_eq_false', Bool.not_eq_eq_eq_not, Bool.not_true, Bool.not_false, decide_eq_true_eq, decide_eq_false_iff_not, Bool.and_eq_true, Bool.and_eq_false_iff, Bool.or_eq_true, Bool.or_eq_false_iff] at hb); (try (exfalso; first | omega | exact hb trivial)))) | (apply endS trivial; rotate_left; (· exact eva); (· rfl); try refine ⟨?_, rfl⟩) | fail)
  (apply EvR.aCall h4.at_; (· exact eva); (· exact  h4.ok _ ev1 xv1 yv1 f1.e f1.x f1.y (r1.pre ((v_1.trans (q_1.trans v_2)).app _)) na1 nb1 nc1); (rintro _ _ ⟨rfl, rfl⟩; refine EvR.nrm ?_))
  repeat' (first | refine ff ?_ | ((first | refine EvR.aSplB ?_ ?_ | refine Ev.aSplB ?_ ?_) <;> (intro hb; (try rw [hb]); (try simp only [Bool.not_eq_true', Bool.not_eq_false', Bool.not_eq_eq_eq_not, Bool.not_true, Bool.not_false, decide_eq_true_eq, decide_eq_false_iff_not, Bool.and_eq_true, Bool.and_eq_false_iff, Bool.or_eq_true, Bool.or_eq_false_iff] at hb); (try (exfalso; first | omega | exact hb trivial)))) | (apply endS trivial; rotate_left; (· exact eva); (· rfl); try refine ⟨?_, rfl⟩) | fail)
  apply EvR.aCall h6.at_; (· exact eva); (· exact h6.ok _ w0 h0_ wr0 _ _ sp0 lo0 _ _ _ f1 n2 n3 ⟨Row.ownF rfl rfl, Row.ownF rfl rfl⟩ na0 nb0 ⟨Row.ownF rfl rfl, Row.ownF rfl rfl, Row.ownF rfl rfl⟩ ⟨na1, nb1, nc1⟩); rintro _ _ hres
  obtain ⟨τ3, s3, l3, b3, R3, rfl, rfl, o3⟩ := hres.t hok (by rw [← hgs]; exact hne)
  clear hres
  rw [← hgs] at o3 ⊢
  refine EvR.base2 fun A3 S3 f_3 e_3 q_3 => ?_
  rw [← e_3, ← f_3] at o3
  have v_3 : Pre S2 A3 := by rw [f_3]; exact (Pre.refl _).app _
  have pt_c0 : PtAt A3 (S2.length + 2) 0 [.int .i64 w0, .int .i64 h0_, .bool wr0, slV (S2.length + 0) sp0.length, slV (S2.length + 1) lo0.length] := by rw [f_3]; exact PtAt.own rfl
  have pt_c1 : PtAt A3 (S2.length + 6) 0 [slV (S2.length + 3) f1.e.length, slV (S2.length + 4) f1.x.length, slV (S2.length + 5) f1.y.length] := by rw [f_3]; exact PtAt.own rfl
  clear g_t0_2 g_t1_2
  have g_t0_3 : PtAt S3 (σ.length + 0) 0 [.int .i64 w0, .int .i64 h0_, .bool wr0, sv0, lv0] := pt_t0.pre (q_1.trans (v_2.trans (v_3.trans q_3)))
  have g_t1_3 : PtAt S3 (σ.length + 1) 0 [ev1, xv1, yv1] := pt_t1.pre (q_1.trans (v_2.trans (v_3.trans q_3)))
  have g_spec_3 : PtAt S3 (S1.length + 0) 0 [.int .i64 w0, .int .i64 h0_, .bool wr0, slV s1 sp0.length, slV l1 lo0.length, slV b1 gs.length] := pt_spec.pre (v_3.trans q_3)
  have g_c0_3 : PtAt S3 (S2.length + 2) 0 [.int .i64 w0, .int .i64 h0_, .bool wr0, slV (S2.length + 0) sp0.length, slV (S2.length + 1) lo0.length] := pt_c0.pre q_3
  have g_c1_3 : PtAt S3 (S2.length + 6) 0 [slV (S2.length + 3) f1.e.length, slV (S2.length + 4) f1.x.length, slV (S2.length + 5) f1.y.length] := pt_c1.pre q_3
  refine EvR.nrm ?_
  have inv0 : RInv A3 (S2.length + 0) [(S2.length + 0, sp0), (S2.length + 1, lo0)] := by rw [f_3]; exact rinv2 (hget _ _ 0) (hget _ _ 1) (by omega) (by omega)
  have rd0 : ShR A3 (slV (S2.length + 0) sp0.length) (slV (S2.length + 1) lo0.length) sp0 lo0 := ⟨Row.whole (by rw [f_3]; exact hget _ _ 0) (by omega) (by rw [f32s_length]; omega), Row.whole (by rw [f_3]; exact hget _ _ 1) (by omega) (by rw [f32s_length]; omega)⟩
  have inv1 : RInv A3 (S2.length + 3) [(S2.length + 3, f1.e), (S2.length + 4, f1.x), (S2.length + 5, f1.y)] := by rw [f_3]; exact rinv3 (hget _ _ 3) (hget _ _ 4) (hget _ _ 5) (by omega) (by omega) (by omega)
  have rd1 : FlR A3 (slV (S2.length + 3) f1.e.length) (slV (S2.length + 4) f1.x.length) (slV (S2.length + 5) f1.y.length) f1.e f1.x f1.y := ⟨Row.whole (by rw [f_3]; exact hget _ _ 3) (by omega) (by rw [f32s_length]; omega), Row.whole (by rw [f_3]; exact hget _ _ 4) (by omega) (by rw [f32s_length]; omega), Row.whole (by rw [f_3]; exact hget _ _ 5) (by omega) (by rw [f32s_length]; omega)⟩
  repeat' (first | refine ff ?_ | ((first | refine EvR.aSplB ?_ ?_ | refine Ev.aSplB ?_ ?_) <;> (intro hb; (try rw [hb]); (try simp only [Bool.not_eq_true', Bool.not_eq_false', Bool.not_eq_eq_eq_not, Bool.not_true, Bool.not_false, decide_eq_true_eq, decide_eq_false_iff_not, Bool.and_eq_true, Bool.and_eq_false_iff, Bool.or_eq_true, Bool.or_eq_false_iff] at hb); (try (exfalso; first | omega | exact hb trivial)))) | (apply endS trivial; rotate_left; (· exact eva); (· rfl); try refine ⟨?_, rfl⟩) | fail)
  (apply EvR.aCall h7.at_; (· exact eva); (· exact  h7.ok _ w0 h0_ wr0 _ _ _ _ _ _ sp0 lo0 gs ((o3.pre (Pre.refl S3)).ext _).sheet ((o3.pre (Pre.refl S3)).ext _).fls ((o1.pre (v_2.trans (v_3.trans q_3))).ext _).sheet ((o1.pre (v_2.trans (v_3.trans q_3))).ext _).fls gn1 gn2 gfit); (rintro _ _ ⟨rfl, rfl⟩; refine EvR.nrm ?_))
  repeat' (first | refine ff ?_ | ((first | refine EvR.aSplB ?_ ?_ | refine Ev.aSplB ?_ ?_) <;> (intro hb; (try rw [hb]); (try simp only [Bool.not_eq_true', Bool.not_eq_false', Bool.not_eq_eq_eq_not, Bool.not_true, Bool.not_false, decide_eq_true_eq, decide_eq_false_iff_not, Bool.and_eq_true, Bool.and_eq_false_iff, Bool.or_eq_true, Bool.or_eq_false_iff] at hb); (try (exfalso; first | omega | exact hb trivial)))) | (apply endS trivial; rotate_left; (· exact eva); (· rfl); try refine ⟨?_, rfl⟩) | fail)
  (apply EvR.aCall h3.at_; (· exact eva); (· exact  h3.ok _ w0 h0_ wr0 sv0 lv0 sp0 lo0 (r0.pre ((v_1.trans (q_1.trans (v_2.trans (v_3.trans q_3)))).app _)) na0 nb0); (rintro _ _ ⟨rfl, rfl⟩; refine EvR.nrm ?_))
  repeat' (first | refine ff ?_ | ((first | refine EvR.aSplB ?_ ?_ | refine Ev.aSplB ?_ ?_) <;> (intro hb; (try rw [hb]); (try simp only [Bool.not_eq_true', Bool.not_eq_false', Bool.not_eq_eq_eq_not, Bool.not_true, Bool.not_false, decide_eq_true_eq, decide_eq_false_iff_not, Bool.and_eq_true, Bool.and_eq_false_iff, Bool.or_eq_true, Bool.or_eq_false_iff] at hb); (try (exfalso; first | omega | exact hb trivial)))) | (apply endS trivial; rotate_left; (· exact eva); (· rfl); try refine ⟨?_, rfl⟩) | fail)
  (apply EvR.aCall h8.at_; (· exact eva); (· exact  h8.ok _ w0 h0_ wr0 _ _ _ _ sp0 lo0 (rd0.pre (q_3.app _)) ⟨Row.ownF rfl rfl, Row.ownF rfl rfl⟩ na0 nb0); (rintro _ _ ⟨rfl, rfl⟩; refine EvR.nrm ?_))
  repeat' (first | refine ff ?_ | ((first | refine EvR.aSplB ?_ ?_ | refine Ev.aSplB ?_ ?_) <;> (intro hb; (try rw [hb]); (try simp only [Bool.not_eq_true', Bool.not_eq_false', Bool.not_eq_eq_eq_not, Bool.not_true, Bool.not_false, decide_eq_true_eq, decide_eq_false_iff_not, Bool.and_eq_true, Bool.and_eq_false_iff, Bool.or_eq_true, Bool.or_eq_false_iff] at hb); (try (exfalso; first | omega | exact hb trivial)))) | (apply endS trivial; rotate_left; (· exact eva); (· rfl); try refine ⟨?_, rfl⟩) | fail)
  (apply EvR.aCall h4.at_; (· exact eva); (· exact  h4.ok _ ev1 xv1 yv1 f1.e f1.x f1.y (r1.pre ((v_1.trans (q_1.trans (v_2.trans (v_3.trans q_3)))).app _)) na1 nb1 nc1); (rintro _ _ ⟨rfl, rfl⟩; refine EvR.nrm ?_))
  repeat' (first | refine ff ?_ | ((first | refine EvR.aSplB ?_ ?_ | refine Ev.aSplB ?_ ?_) <;> (intro hb; (try rw [hb]); (try simp only [Bool.not_eq_true', Bool.not_eq_false', Bool.not_eq_eq_eq_not, Bool.not_true, Bool.not_false, decide_eq_true_eq, decide_eq_false_iff_not, Bool.and_eq_true, Bool.and_eq_false_iff, Bool.or_eq_true, Bool.or_eq_false_iff] at hb); (try (exfalso; first | omega | exact hb trivial)))) | (apply endS trivial; rotate_left; (· exact eva); (· rfl); try refine ⟨?_, rfl⟩) | fail)
  (apply EvR.aCall h9.at_; (· exact eva); (· exact  h9.ok _ _ _ _ _ _ _ f1.e f1.x f1.y (rd1.pre (q_3.app _)) ⟨Row.ownF rfl rfl, Row.ownF rfl rfl, Row.ownF rfl rfl⟩ na1 nb1 nc1); (rintro _ _ ⟨rfl, rfl⟩; refine EvR.nrm ?_))
  repeat' (first | refine ff ?_ | ((first | refine EvR.aSplB ?_ ?_ | refine Ev.aSplB ?_ ?_) <;> (intro hb; (try rw [hb]); (try simp only [Bool.not_eq_true', Bool.not_eq_false', Bool.not_eq_eq_eq_not, Bool.not_true, Bool.not_false, decide_eq_true_eq, decide_eq_false_iff_not, Bool.and_eq_true, Bool.and_eq_false_iff, Bool.or_eq_true, Bool.or_eq_false_iff] at hb); (try (exfalso; first | omega | exact hb trivial)))) | (apply endS trivial; rotate_left; (· exact eva); (· rfl); try refine ⟨?_, rfl⟩) | fail)
  have own_4 := (inv0.pre q_3).own
  apply EvR.aCall h10.at_; (· exact eva); (· exact h10.ok.2 _ w0 h0_ wr0 (S2.length + 0) (S2.length + 1) sp0 lo0 (1) (by omega) ((Pre.app (Pre.refl _) _).get (own_4 (S2.length + 0, sp0) (by simp))) ((Pre.app (Pre.refl _) _).get (own_4 (S2.length + 1, lo0) (by simp))) na0 nb0 (by omega) (by omega)); rintro _ _ ⟨rfl, rfl⟩
  refine EvR.baseM0 (k := 1) (R := [(S2.length + 0, sp0), (S2.length + 1, lo0)]) rfl fun A4 S4 f_4 q_4 => ?_
  have v_4 : Pre S3 A4 := by rw [f_4]; exact (Pre.refl _).app _
  have len_4 := (Pre.refl S2).len
  have y_4 : Pre S2 S4 := Pre.trans (Pre.mark (v_3.trans (q_3.trans v_4)) (1) fun p hp => by have := inv0.low p hp; omega) q_4
  have tops_4 : ∀ p ∈ ([(S2.length + 0, sp0), (S2.length + 1, lo0)] : Rws), p.1 < S2.length + 2 := fun p hp => by simp only [List.mem_cons, List.not_mem_nil, or_false] at hp; rcases hp with rfl | rfl <;> (dsimp only; omega)
  have lenR_4 : S2.length + 2 ≤ A3.length := by have := inv0.lt (p := (S2.length + 1, lo0)) (by simp); dsimp only at this; omega
  have len_4a := (Pre.refl A3).len
  have inv1_4 := inv1.keep (H' := S4) fun o_ h0_ h1_ => mark_at q_4 tops_4 (by omega) (q_3.trans v_4) h1_
  have o3_4 := o3.keep (H' := S4) fun o_ h0_ h1_ => mark_at q_4 tops_4 (by omega) v_4 h1_
  have pt_res : PtAt A4 (S3.length + 0) 0 [.int .i64 w0, .int .i64 h0_, .bool wr0, slV s3 sp0.length, slV l3 lo0.length, slV b3 gs.length] := by rw [f_4]; exact PtAt.own rfl
  have g_t0_4 : PtAt S4 (σ.length + 0) 0 [.int .i64 w0, .int .i64 h0_, .bool wr0, sv0, lv0] := pt_t0.pre ((q_1.trans v_2).trans y_4)
  have g_t1_4 : PtAt S4 (σ.length + 1) 0 [ev1, xv1, yv1] := pt_t1.pre ((q_1.trans v_2).trans y_4)
  have g_spec_4 : PtAt S4 (S1.length + 0) 0 [.int .i64 w0, .int .i64 h0_, .bool wr0, slV s1 sp0.length, slV l1 lo0.length, slV b1 gs.length] := pt_spec.pre ((Pre.refl S2).trans y_4)
  have g_c1_4 : PtAt S4 (S2.length + 6) 0 [slV (S2.length + 3) f1.e.length, slV (S2.length + 4) f1.x.length, slV (S2.length + 5) f1.y.length] := pt_c1.same (mark_at q_4 tops_4 (by omega) (q_3.trans v_4) pt_c1.lt)
  have g_res_4 : PtAt S4 (S3.length + 0) 0 [.int .i64 w0, .int .i64 h0_, .bool wr0, slV s3 sp0.length, slV l3 lo0.length, slV b3 gs.length] := pt_res.same (mark_at q_4 tops_4 (by have := q_3.len; omega) (Pre.refl A4) pt_res.lt)
  clear g_t0_3 g_t1_3 g_spec_3 g_c0_3 g_c1_3
  refine EvR.nrm ?_
  repeat' (first | refine ff ?_ | ((first | refine EvR.aSplB ?_ ?_ | refine Ev.aSplB ?_ ?_) <;> (intro hb; (try rw [hb]); (try simp only [Bool.not_eq_true', Bool.not_eq_false', Bool.not_eq_eq_eq_not, Bool.not_true, Bool.not_false, decide_eq_true_eq, decide_eq_false_iff_not, Bool.and_eq_true, Bool.and_eq_false_iff, Bool.or_eq_true, Bool.or_eq_false_iff] at hb); (try (exfalso; first | omega | exact hb trivial)))) | (apply endS trivial; rotate_left; (· exact eva); (· rfl); try refine ⟨?_, rfl⟩) | fail)
  have own_5 := (inv1_4.pre (Pre.refl S4)).own
  apply EvR.aCall h11.at_; (· exact eva); (· exact h11.ok.2 _ (S2.length + 3) (S2.length + 4) (S2.length + 5) f1.e f1.x f1.y _ _ _ (1 + sp0.length + lo0.length) rfl rfl rfl (by omega) (by omega) (by omega) ((Pre.app (Pre.refl _) _).get (own_5 (S2.length + 3, f1.e) (by simp))) ((Pre.app (Pre.refl _) _).get (own_5 (S2.length + 4, f1.x) (by simp))) ((Pre.app (Pre.refl _) _).get (own_5 (S2.length + 5, f1.y) (by simp))) na1 nb1 nc1 (by omega) (by omega)); rintro _ _ ⟨rfl, rfl⟩
  refine EvR.baseM0 (k := 1 + sp0.length + lo0.length) (R := [(S2.length + 3, f1.e), (S2.length + 4, f1.x), (S2.length + 5, f1.y)]) rfl fun A5 S5 f_5 q_5 => ?_
  have v_5 : Pre S4 A5 := by rw [f_5]; exact (Pre.refl _).app _
  have len_5 := (Pre.refl S2).len
  have y_5 : Pre S2 S5 := Pre.trans (Pre.mark (y_4.trans v_5) (1 + sp0.length + lo0.length) fun p hp => by have := inv1_4.low p hp; omega) q_5
  have tops_5 : ∀ p ∈ ([(S2.length + 3, f1.e), (S2.length + 4, f1.x), (S2.length + 5, f1.y)] : Rws), p.1 < S2.length + 6 := fun p hp => by simp only [List.mem_cons, List.not_mem_nil, or_false] at hp; rcases hp with rfl | rfl | rfl <;> (dsimp only; omega)
  have lenR_5 : S2.length + 6 ≤ A3.length := by have := inv1.lt (p := (S2.length + 5, f1.y)) (by simp); dsimp only at this; omega
  have len_5a := (Pre.refl A3).len
  have o3_4_5 := o3_4.keep (H' := S5) fun o_ h0_ h1_ => mark_at q_5 tops_5 (by omega) v_5 h1_
  have g_t0_5 : PtAt S5 (σ.length + 0) 0 [.int .i64 w0, .int .i64 h0_, .bool wr0, sv0, lv0] := pt_t0.pre ((q_1.trans v_2).trans y_5)
  have g_t1_5 : PtAt S5 (σ.length + 1) 0 [ev1, xv1, yv1] := pt_t1.pre ((q_1.trans v_2).trans y_5)
  have g_spec_5 : PtAt S5 (S1.length + 0) 0 [.int .i64 w0, .int .i64 h0_, .bool wr0, slV s1 sp0.length, slV l1 lo0.length, slV b1 gs.length] := pt_spec.pre ((Pre.refl S2).trans y_5)
  have g_res_5 : PtAt S5 (S3.length + 0) 0 [.int .i64 w0, .int .i64 h0_, .bool wr0, slV s3 sp0.length, slV l3 lo0.length, slV b3 gs.length] := g_res_4.same (mark_at q_5 tops_5 (by have := q_3.len; omega) v_5 g_res_4.lt)
  clear g_t0_4 g_t1_4 g_spec_4 g_c1_4 g_res_4
  refine EvR.nrm ?_
  repeat' (first | refine ff ?_ | ((first | refine EvR.aSplB ?_ ?_ | refine Ev.aSplB ?_ ?_) <;> (intro hb; (try rw [hb]); (try simp only [Bool.not_eq_true', Bool.not_eq_false', Bool.not_eq_eq_eq_not, Bool.not_true, Bool.not_false, decide_eq_true_eq, decide_eq_false_iff_not, Bool.and_eq_true, Bool.and_eq_false_iff, Bool.or_eq_true, Bool.or_eq_false_iff] at hb); (try (exfalso; first | omega | exact hb trivial)))) | (apply endS trivial; rotate_left; (· exact eva); (· rfl); try refine ⟨?_, rfl⟩) | fail)
  (apply EvR.aCall h7.at_; (· exact eva); (· exact  h7.ok _ w0 h0_ wr0 _ _ _ _ _ _ sp0 lo0 gs ((o3_4_5.pre (Pre.refl S5)).ext _).sheet ((o3_4_5.pre (Pre.refl S5)).ext _).fls ((o1.pre (v_2.trans y_5)).ext _).sheet ((o1.pre (v_2.trans y_5)).ext _).fls gn1 gn2 gfit); (rintro _ _ ⟨rfl, rfl⟩; refine EvR.nrm ?_))
  repeat' (first | refine ff ?_ | ((first | refine EvR.aSplB ?_ ?_ | refine Ev.aSplB ?_ ?_) <;> (intro hb; (try rw [hb]); (try simp only [Bool.not_eq_true', Bool.not_eq_false', Bool.not_eq_eq_eq_not, Bool.not_true, Bool.not_false, decide_eq_true_eq, decide_eq_false_iff_not, Bool.and_eq_true, Bool.and_eq_false_iff, Bool.or_eq_true, Bool.or_eq_false_iff] at hb); (try (exfalso; first | omega | exact hb trivial)))) | (apply endS trivial; rotate_left; (· exact eva); (· rfl); try refine ⟨?_, rfl⟩) | fail)
  apply EvR.aCall h12.at_; (· exact eva); (· exact h12.ok.2 _ w0 h0_ wr0 A3.length s3 l3 b3 R3 sp0 lo0 gs 1 ((o3_4_5.pre (Pre.refl S5)).ext _) gn1 gn2 gfit.1 (small_of o3.con gfit) (by rw [tot_sum o3.con]; omega) (by omega) (by omega)); rintro _ _ ⟨rfl, t6, rfl⟩
  refine EvR.baseM fun A6 S6 f_6 e_6 q_6 => ?_
  have v_6 : Pre S5 A6 := by rw [f_6]; exact (Pre.refl _).app _
  obtain ⟨m1_, m2_⟩ := (o3_4_5.pre v_6).marked 1
  have len_6 := v_3.len
  have y_6 : Pre S2 S6 := Pre.trans (Pre.mark (y_5.trans v_6) 1 fun p hp => by have := o3.lows p hp; omega) q_6
  have tops_6 := o3.tops
  have M1 := q_6.get m1_
  have M2 := fun p hp => q_6.get (m2_ p hp)
  obtain ⟨T6, eT6⟩ : ∃ T : Nat, T = tot ((s3, sp0) :: (l3, lo0) :: R3) := ⟨_, rfl⟩
  have bT6 : T6 ≤ 8388608 := by rw [eT6]; simp only [tot]; rw [tot_sum o3.con]; omega
  rw [← eT6]
  have g_t0_6 : PtAt S6 (σ.length + 0) 0 [.int .i64 w0, .int .i64 h0_, .bool wr0, sv0, lv0] := pt_t0.pre ((q_1.trans v_2).trans y_6)
  have g_t1_6 : PtAt S6 (σ.length + 1) 0 [ev1, xv1, yv1] := pt_t1.pre ((q_1.trans v_2).trans y_6)
  have g_spec_6 : PtAt S6 (S1.length + 0) 0 [.int .i64 w0, .int .i64 h0_, .bool wr0, slV s1 sp0.length, slV l1 lo0.length, slV b1 gs.length] := pt_spec.pre ((Pre.refl S2).trans y_6)
  have g_res_6 : PtAt S6 (S3.length + 0) 0 [.int .i64 w0, .int .i64 h0_, .bool wr0, slV s3 sp0.length, slV l3 lo0.length, slV b3 gs.length] := g_res_5.same (mark_at q_6 tops_6 (by have := (Pre.refl S3).len; omega) v_6 g_res_5.lt)
  clear g_t0_5 g_t1_5 g_spec_5 g_res_5
  refine EvR.nrm ?_
  repeat' (first | refine ff ?_ | ((first | refine EvR.aSplB ?_ ?_ | refine Ev.aSplB ?_ ?_) <;> (intro hb; (try rw [hb]); (try simp only [Bool.not_eq_true', Bool.not_eq_false', Bool.not_eq_eq_eq_not, Bool.not_true, Bool.not_false, decide_eq_true_eq, decide_eq_false_iff_not, Bool.and_eq_true, Bool.and_eq_false_iff, Bool.or_eq_true, Bool.or_eq_false_iff] at hb); (try (exfalso; first | omega | exact hb trivial)))) | (apply endS trivial; rotate_left; (· exact eva); (· rfl); try refine ⟨?_, rfl⟩) | fail)
  (apply EvR.aCall h13.at_; (· exact eva); (· exact  h13.ok.2 _ w0 h0_ wr0 s3 l3 b3 gs.length R3 sp0 lo0 1 ((Pre.app (Pre.refl S6) _).get M1) (fun p hp => (Pre.app (Pre.refl S6) _).get (M2 p hp)) o3.flds.len gn1 gn2 gfit.1 (small_of o3.con gfit) (by rw [tot_sum o3.con]; omega) (by omega) (by omega)); (rintro _ _ ⟨rfl, rfl⟩; refine EvR.nrm ?_))
  rw [← eT6]
  repeat' (first | refine ff ?_ | ((first | refine EvR.aSplB ?_ ?_ | refine Ev.aSplB ?_ ?_) <;> (intro hb; (try rw [hb]); (try simp only [Bool.not_eq_true', Bool.not_eq_false', Bool.not_eq_eq_eq_not, Bool.not_true, Bool.not_false, decide_eq_true_eq, decide_eq_false_iff_not, Bool.and_eq_true, Bool.and_eq_false_iff, Bool.or_eq_true, Bool.or_eq_false_iff] at hb); (try (exfalso; first | omega | exact hb trivial)))) | (apply endS trivial; rotate_left; (· exact eva); (· rfl); try refine ⟨?_, rfl⟩) | fail)
  (apply EvR.aCall h3.at_; (· exact eva); (· exact  h3.ok _ w0 h0_ wr0 sv0 lv0 sp0 lo0 (r0.pre ((v_1.trans (q_1.trans (v_2.trans y_6))).app _)) na0 nb0); (rintro _ _ ⟨rfl, rfl⟩; refine EvR.nrm ?_))
  repeat' (first | refine ff ?_ | ((first | refine EvR.aSplB ?_ ?_ | refine Ev.aSplB ?_ ?_) <;> (intro hb; (try rw [hb]); (try simp only [Bool.not_eq_true', Bool.not_eq_false', Bool.not_eq_eq_eq_not, Bool.not_true, Bool.not_false, decide_eq_true_eq, decide_eq_false_iff_not, Bool.and_eq_true, Bool.and_eq_false_iff, Bool.or_eq_true, Bool.or_eq_false_iff] at hb); (try (exfalso; first | omega | exact hb trivial)))) | (apply endS trivial; rotate_left; (· exact eva); (· rfl); try refine ⟨?_, rfl⟩) | fail)
  (apply EvR.aCall h4.at_; (· exact eva); (· exact  h4.ok _ ev1 xv1 yv1 f1.e f1.x f1.y (r1.pre ((v_1.trans (q_1.trans (v_2.trans y_6))).app _)) na1 nb1 nc1); (rintro _ _ ⟨rfl, rfl⟩; refine EvR.nrm ?_))
  repeat' (first | refine ff ?_ | ((first | refine EvR.aSplB ?_ ?_ | refine Ev.aSplB ?_ ?_) <;> (intro hb; (try rw [hb]); (try simp only [Bool.not_eq_true', Bool.not_eq_false', Bool.not_eq_eq_eq_not, Bool.not_true, Bool.not_false, decide_eq_true_eq, decide_eq_false_iff_not, Bool.and_eq_true, Bool.and_eq_false_iff, Bool.or_eq_true, Bool.or_eq_false_iff] at hb); (try (exfalso; first | omega | exact hb trivial)))) | (apply endS trivial; rotate_left; (· exact eva); (· rfl); try refine ⟨?_, rfl⟩) | fail)
  apply EvR.aCall h6.at_; (· exact eva); (· exact h6.ok _ w0 h0_ wr0 _ _ sp0 lo0 _ _ _ f1 n2 n3 ⟨Row.ownF rfl rfl, Row.ownF rfl rfl⟩ na0 nb0 ⟨Row.ownF rfl rfl, Row.ownF rfl rfl, Row.ownF rfl rfl⟩ ⟨na1, nb1, nc1⟩); rintro _ _ hres
  obtain ⟨τ7, s7, l7, b7, R7, rfl, rfl, o7⟩ := hres.t hok (by rw [← hgs]; exact hne)
  clear hres
  rw [← hgs] at o7 ⊢
  refine EvR.base2 fun A7 S7 f_7 e_7 q_7 => ?_
  rw [← e_7, ← f_7] at o7
  have v_7 : Pre S6 A7 := by rw [f_7]; exact (Pre.refl _).app _
  clear g_t0_6 g_t1_6 g_spec_6
  have g_t0_7 : PtAt S7 (σ.length + 0) 0 [.int .i64 w0, .int .i64 h0_, .bool wr0, sv0, lv0] := pt_t0.pre (q_1.trans (v_2.trans (y_6.trans (v_7.trans q_7))))
  have g_t1_7 : PtAt S7 (σ.length + 1) 0 [ev1, xv1, yv1] := pt_t1.pre (q_1.trans (v_2.trans (y_6.trans (v_7.trans q_7))))
  have g_spec_7 : PtAt S7 (S1.length + 0) 0 [.int .i64 w0, .int .i64 h0_, .bool wr0, slV s1 sp0.length, slV l1 lo0.length, slV b1 gs.length] := pt_spec.pre (y_6.trans (v_7.trans q_7))
  have g_res_7 : PtAt S7 (S3.length + 0) 0 [.int .i64 w0, .int .i64 h0_, .bool wr0, slV s3 sp0.length, slV l3 lo0.length, slV b3 gs.length] := g_res_6.pre (v_7.trans q_7)
  refine EvR.nrm ?_
  repeat' (first | refine ff ?_ | ((first | refine EvR.aSplB ?_ ?_ | refine Ev.aSplB ?_ ?_) <;> (intro hb; (try rw [hb]); (try simp only [Bool.not_eq_true', Bool.not_eq_false', Bool.not_eq_eq_eq_not, Bool.not_true, Bool.not_false, decide_eq_true_eq, decide_eq_false_iff_not, Bool.and_eq_true, Bool.and_eq_false_iff, Bool.or_eq_true, Bool.or_eq_false_iff] at hb); (try (exfalso; first | omega | exact hb trivial)))) | (apply endS trivial; rotate_left; (· exact eva); (· rfl); try refine ⟨?_, rfl⟩) | fail)
  (apply EvR.aCall h7.at_; (· exact eva); (· exact  h7.ok _ w0 h0_ wr0 _ _ _ _ _ _ sp0 lo0 gs ((o7.pre (Pre.refl S7)).ext _).sheet ((o7.pre (Pre.refl S7)).ext _).fls ((o1.pre (v_2.trans (y_6.trans (v_7.trans q_7)))).ext _).sheet ((o1.pre (v_2.trans (y_6.trans (v_7.trans q_7)))).ext _).fls gn1 gn2 gfit); (rintro _ _ ⟨rfl, rfl⟩; refine EvR.nrm ?_))
  repeat' (first | refine ff ?_ | ((first | refine EvR.aSplB ?_ ?_ | refine Ev.aSplB ?_ ?_) <;> (intro hb; (try rw [hb]); (try simp only [Bool.not_eq_true', Bool.not_eq_false', Bool.not_eq_eq_eq_not, Bool.not_true, Bool.not_false, decide_eq_true_eq, decide_eq_false_iff_not, Bool.and_eq_true, Bool.and_eq_false_iff, Bool.or_eq_true, Bool.or_eq_false_iff] at hb); (try (exfalso; first | omega | exact hb trivial)))) | (apply endS trivial; rotate_left; (· exact eva); (· rfl); try refine ⟨?_, rfl⟩) | fail)
  (apply EvR.aCall h13.at_; (· exact eva); (· exact  h13.ok.2 _ w0 h0_ wr0 s3 l3 b3 gs.length R3 sp0 lo0 1 ((Pre.app (v_7.trans q_7) _).get M1) (fun p hp => (Pre.app (v_7.trans q_7) _).get (M2 p hp)) o3.flds.len gn1 gn2 gfit.1 (small_of o3.con gfit) (by rw [tot_sum o3.con]; omega) (by omega) (by omega)); (rintro _ _ ⟨rfl, rfl⟩; refine EvR.nrm ?_))
  rw [← eT6]
  repeat' (first | refine ff ?_ | ((first | refine EvR.aSplB ?_ ?_ | refine Ev.aSplB ?_ ?_) <;> (intro hb; (try rw [hb]); (try simp only [Bool.not_eq_true', Bool.not_eq_false', Bool.not_eq_eq_eq_not, Bool.not_true, Bool.not_false, decide_eq_true_eq, decide_eq_false_iff_not, Bool.and_eq_true, Bool.and_eq_false_iff, Bool.or_eq_true, Bool.or_eq_false_iff] at hb); (try (exfalso; first | omega | exact hb trivial)))) | (apply endS trivial; rotate_left; (· exact eva); (· rfl); try refine ⟨?_, rfl⟩) | fail)
  apply endK (v_1.trans (q_1.trans (v_2.trans (y_6.trans (v_7.trans q_7)))))
  · trivial
  · rfl
  · exact eva
  · rfl
theorem rowFilmOf_n {C : Ctab} {i1 i2 i3 i4 i5 i6 i7 i8 i9 i10 i11 i12 i13 : FuncId} {c1 c2 c3 c4 c5 c6 c7 c8 c9 c10 c11 c12 c13 : Contract} (h1 : Has C i1 c1 laws_szSheet_ok) (h2 : Has C i2 c2 laws_szField_ok) (h3 : Has C i3 c3 laws_toSheet_ok) (h4 : Has C i4 c4 laws_toField_ok) (h5 : Has C i5 c5 spec_FilmOf_ok) (h6 : Has C i6 c6 impl_FilmOf_ok) (h7 : Has C i7 c7 laws_eqFilm_ok) (h8 : Has C i8 c8 laws_eqSheet_ok) (h9 : Has C i9 c9 laws_eqField_ok) (h10 : HasW C i10 c10 laws_markSheet_ok) (h11 : HasW C i11 c11 laws_markField_ok) (h12 : HasW C i12 c12 laws_markFilm_ok) (h13 : Has C i13 c13 laws_heldFilm_ok) (σ : Heap) (w0 h0_ : Int) (wr0 : Bool) (sv0 lv0 : Value) (sp0 lo0 : List Nat) (r0 : ShR σ sv0 lv0 sp0 lo0) (ba0 : sp0.length ≤ 9223372036854775807) (bb0 : lo0.length ≤ 9223372036854775807) (ev1 xv1 yv1 : Value) (f1 : Fld) (r1 : FlR σ ev1 xv1 yv1 f1.e f1.x f1.y) (ba1 : f1.e.length ≤ 9223372036854775807) (bb1 : f1.x.length ≤ 9223372036854775807) (bc1 : f1.y.length ≤ 9223372036854775807) (n2 : Int) (n3 : Int) (hz0 : ¬ szSheet sp0 lo0 (1048576) < 0) (hz1 : ¬ szAll [f1.e.length, f1.x.length, f1.y.length] (szSheet sp0 lo0 (1048576)) < 0)
    (hok : foOk w0 h0_ wr0 sp0 lo0 f1 n2 n3 = true) (hne : foFs w0 h0_ wr0 sp0 lo0 f1 n2 n3 = []) : Ret (gcC C (laws_FnExactFilmOf i1 i2 i3 i4 i5 i6 i7 i8 i9 i10 i11 i12 i13) true) [shV w0 h0_ wr0 sv0 lv0, fV ev1 xv1 yv1, .int .i64 n2, .int .i64 n3] σ fun v _ => v = .bool true := by
  have ka0 := r0.s.ok
  have kb0 := r0.l.ok
  have ka1 := r1.e.ok
  have kb1 := r1.x.ok
  have kc1 := r1.y.ok
  have z0 := szSheet_fact sp0 lo0 (1048576) (by omega)
  have na0 : sp0.length ≤ 1048576 := by omega
  have nb0 : lo0.length ≤ 1048576 := by omega
  have z1 := szField_fact f1.e f1.x f1.y (szSheet sp0 lo0 (1048576)) (by omega)
  have na1 : f1.e.length ≤ 1048576 := by omega
  have nb1 : f1.x.length ≤ 1048576 := by omega
  have nc1 : f1.y.length ≤ 1048576 := by omega
  obtain ⟨gs, hgs⟩ : ∃ gs, gs = foFs w0 h0_ wr0 sp0 lo0 f1 n2 n3 := ⟨_, rfl⟩
  rw [← hgs] at hne
  have nfls : ∀ S, FlsR S (.slice none 0 0) gs := fun S => by rw [hne]; exact noFlsR S
  obtain ⟨gfit, gsum⟩ := foFs_fit hok
  rw [← hgs] at gfit gsum
  have gn1 := na0
  have gn2 := nb0
  refine ret_gc rfl rfl ?_
  repeat' (first | refine ff ?_ | ((first | refine EvR.aSplB ?_ ?_ | refine Ev.aSplB ?_ ?_) <;> (intro hb; (try rw [hb]); (try simp only [Bool.not_eq_true', Bool.not_eq_false', Bool.not_eq_eq_eq_not, Bool.not_true, Bool.not_false, decide_eq_true_eq, decide_eq_false_iff_not, Bool.and_eq_true, Bool.and_eq_false_iff, Bool.or_eq_true, Bool.or_eq_false_iff] at hb); (try (exfalso; first | omega | exact hb trivial)))) | (apply endS trivial; rotate_left; (· exact eva); (· rfl); try refine ⟨?_, rfl⟩) | fail)
  (apply EvR.aCall h1.at_; (· exact eva); (· exact  h1.ok _ w0 h0_ wr0 sv0 lv0 sp0 lo0 (1048576) ⟨r0.s.ext _, r0.l.ext _⟩ ba0 bb0 (by omega) (by omega)); (rintro _ _ ⟨rfl, rfl⟩; refine EvR.nrm ?_))
  repeat' (first | refine ff ?_ | ((first | refine EvR.aSplB ?_ ?_ | refine Ev.aSplB ?_ ?_) <;> (intro hb; (try rw [hb]); (try simp only [Bool.not_eq_true', Bool.not_eq_false', Bool.not_eq_eq_eq_not, Bool.not_true, Bool.not_false, decide_eq_true_eq, decide_eq_false_iff_not, Bool.and_eq_true, Bool.and_eq_false_iff, Bool.or_eq_true, Bool.or_eq_false_iff] at hb); (try (exfalso; first | omega | exact hb trivial)))) | (apply endS trivial; rotate_left; (· exact eva); (· rfl); try refine ⟨?_, rfl⟩) | fail)
  (apply EvR.aCall h2.at_; (· exact eva); (· exact  h2.ok _ ev1 xv1 yv1 f1.e f1.x f1.y (szSheet sp0 lo0 (1048576)) (r1.ext _) ba1 bb1 bc1 (by omega) (by omega)); (rintro _ _ ⟨rfl, rfl⟩; refine EvR.nrm ?_))
  repeat' (first | refine ff ?_ | ((first | refine EvR.aSplB ?_ ?_ | refine Ev.aSplB ?_ ?_) <;> (intro hb; (try rw [hb]); (try simp only [Bool.not_eq_true', Bool.not_eq_false', Bool.not_eq_eq_eq_not, Bool.not_true, Bool.not_false, decide_eq_true_eq, decide_eq_false_iff_not, Bool.and_eq_true, Bool.and_eq_false_iff, Bool.or_eq_true, Bool.or_eq_false_iff] at hb); (try (exfalso; first | omega | exact hb trivial)))) | (apply endS trivial; rotate_left; (· exact eva); (· rfl); try refine ⟨?_, rfl⟩) | fail)
  (apply EvR.aCall h3.at_; (· exact eva); (· exact  h3.ok _ w0 h0_ wr0 sv0 lv0 sp0 lo0 (r0.pre ((Pre.refl σ).app _)) na0 nb0); (rintro _ _ ⟨rfl, rfl⟩; refine EvR.nrm ?_))
  repeat' (first | refine ff ?_ | ((first | refine EvR.aSplB ?_ ?_ | refine Ev.aSplB ?_ ?_) <;> (intro hb; (try rw [hb]); (try simp only [Bool.not_eq_true', Bool.not_eq_false', Bool.not_eq_eq_eq_not, Bool.not_true, Bool.not_false, decide_eq_true_eq, decide_eq_false_iff_not, Bool.and_eq_true, Bool.and_eq_false_iff, Bool.or_eq_true, Bool.or_eq_false_iff] at hb); (try (exfalso; first | omega | exact hb trivial)))) | (apply endS trivial; rotate_left; (· exact eva); (· rfl); try refine ⟨?_, rfl⟩) | fail)
  (apply EvR.aCall h4.at_; (· exact eva); (· exact  h4.ok _ ev1 xv1 yv1 f1.e f1.x f1.y (r1.pre ((Pre.refl σ).app _)) na1 nb1 nc1); (rintro _ _ ⟨rfl, rfl⟩; refine EvR.nrm ?_))
  repeat' (first | refine ff ?_ | ((first | refine EvR.aSplB ?_ ?_ | refine Ev.aSplB ?_ ?_) <;> (intro hb; (try rw [hb]); (try simp only [Bool.not_eq_true', Bool.not_eq_false', Bool.not_eq_eq_eq_not, Bool.not_true, Bool.not_false, decide_eq_true_eq, decide_eq_false_iff_not, Bool.and_eq_true, Bool.and_eq_false_iff, Bool.or_eq_true, Bool.or_eq_false_iff] at hb); (try (exfalso; first | omega | exact hb trivial)))) | (apply endS trivial; rotate_left; (· exact eva); (· rfl); try refine ⟨?_, rfl⟩) | fail)
  apply EvR.aCall h5.at_; (· exact eva); (· exact h5.ok _ w0 h0_ wr0 _ _ sp0 lo0 _ _ _ f1 n2 n3 ⟨Row.ownF rfl rfl, Row.ownF rfl rfl⟩ na0 nb0 ⟨Row.ownF rfl rfl, Row.ownF rfl rfl, Row.ownF rfl rfl⟩ ⟨na1, nb1, nc1⟩); rintro _ _ hres
  obtain ⟨τ1, s1, l1, b1, R1, rfl, rfl, o1⟩ := hres.t hok
  clear hres
  rw [← hgs] at o1 ⊢
  refine EvR.base2 fun A1 S1 f_1 e_1 q_1 => ?_
  rw [← e_1, ← f_1] at o1
  have v_1 : Pre σ A1 := by rw [f_1]; exact (Pre.refl _).app _
  have pt_t0 : PtAt A1 (σ.length + 0) 0 [.int .i64 w0, .int .i64 h0_, .bool wr0, sv0, lv0] := by rw [f_1]; exact PtAt.own rfl
  have pt_t1 : PtAt A1 (σ.length + 1) 0 [ev1, xv1, yv1] := by rw [f_1]; exact PtAt.own rfl
  have g_t0_1 : PtAt S1 (σ.length + 0) 0 [.int .i64 w0, .int .i64 h0_, .bool wr0, sv0, lv0] := pt_t0.pre q_1
  have g_t1_1 : PtAt S1 (σ.length + 1) 0 [ev1, xv1, yv1] := pt_t1.pre q_1
  refine EvR.nrm ?_
  repeat' (first | refine ff ?_ | ((first | refine EvR.aSplB ?_ ?_ | refine Ev.aSplB ?_ ?_) <;> (intro hb; (try rw [hb]); (try simp only [Bool.not_eq_true', Bool.not_eq_false', Bool.not_eq_eq_eq_not, Bool.not_true, Bool.not_false, decide_eq_true_eq, decide_eq_false_iff_not, Bool.and_eq_true, Bool.and_eq_false_iff, Bool.or_eq_true, Bool.or_eq_false_iff] at hb); (try (exfalso; first | omega | exact hb trivial)))) | (apply endS trivial; rotate_left; (· exact eva); (· rfl); try refine ⟨?_, rfl⟩) | fail)
  refine EvR.base fun S2 f_2 => ?_
  have v_2 : Pre S1 S2 := by rw [f_2]; exact (Pre.refl _).app _
  have pt_spec : PtAt S2 (S1.length + 0) 0 [.int .i64 w0, .int .i64 h0_, .bool wr0, slV s1 sp0.length, slV l1 lo0.length, slV b1 gs.length] := by rw [f_2]; exact PtAt.own rfl
  clear g_t0_1 g_t1_1
  have g_t0_2 : PtAt S2 (σ.length + 0) 0 [.int .i64 w0, .int .i64 h0_, .bool wr0, sv0, lv0] := pt_t0.pre (q_1.trans v_2)
  have g_t1_2 : PtAt S2 (σ.length + 1) 0 [ev1, xv1, yv1] := pt_t1.pre (q_1.trans v_2)
  refine EvR.nrm ?_
  (apply EvR.aCall h3.at_; (· exact eva); (· exact  h3.ok _ w0 h0_ wr0 sv0 lv0 sp0 lo0 (r0.pre ((v_1.trans (q_1.trans v_2)).app _)) na0 nb0); (rintro _ _ ⟨rfl, rfl⟩; refine EvR.nrm ?_))
  repeat' (first | refine ff ?_ | ((first | refine EvR.aSplB ?_ ?_ | refine Ev.aSplB ?_ ?_) <;> (intro hb; (try rw [hb]); (try simp only [Bool.not_eq_true', Bool.not_eq_false', Bool.not_eq_eq_eq_not, Bool.not_true, Bool.not_false, decide_eq_true_eq, decide_eq_false_iff_not, Bool.and_eq_true, Bool.and_eq_false_iff, Bool.or_eq_true, Bool.or_eq_false_iff] at hb); (try (exfalso; first | omega | exact hb trivial)))) | (apply endS trivial; rotate_left; (· exact eva); (· rfl); try refine ⟨?_, rfl⟩) | fail)
  (apply EvR.aCall h4.at_; (· exact eva); (· exact  h4.ok _ ev1 xv1 yv1 f1.e f1.x f1.y (r1.pre ((v_1.trans (q_1.trans v_2)).app _)) na1 nb1 nc1); (rintro _ _ ⟨rfl, rfl⟩; refine EvR.nrm ?_))
  repeat' (first | refine ff ?_ | ((first | refine EvR.aSplB ?_ ?_ | refine Ev.aSplB ?_ ?_) <;> (intro hb; (try rw [hb]); (try simp only [Bool.not_eq_true', Bool.not_eq_false', Bool.not_eq_eq_eq_not, Bool.not_true, Bool.not_false, decide_eq_true_eq, decide_eq_false_iff_not, Bool.and_eq_true, Bool.and_eq_false_iff, Bool.or_eq_true, Bool.or_eq_false_iff] at hb); (try (exfalso; first | omega | exact hb trivial)))) | (apply endS trivial; rotate_left; (· exact eva); (· rfl); try refine ⟨?_, rfl⟩) | fail)
  apply EvR.aCall h6.at_; (· exact eva); (· exact h6.ok _ w0 h0_ wr0 _ _ sp0 lo0 _ _ _ f1 n2 n3 ⟨Row.ownF rfl rfl, Row.ownF rfl rfl⟩ na0 nb0 ⟨Row.ownF rfl rfl, Row.ownF rfl rfl, Row.ownF rfl rfl⟩ ⟨na1, nb1, nc1⟩); rintro _ _ hres
  obtain ⟨τ3, s3, l3, rfl, rfl, o3⟩ := hres.n hok (by rw [← hgs]; exact hne)
  clear hres
  refine EvR.base2 fun A3 S3 f_3 e_3 q_3 => ?_
  rw [← e_3, ← f_3] at o3
  have v_3 : Pre S2 A3 := by rw [f_3]; exact (Pre.refl _).app _
  have pt_c0 : PtAt A3 (S2.length + 2) 0 [.int .i64 w0, .int .i64 h0_, .bool wr0, slV (S2.length + 0) sp0.length, slV (S2.length + 1) lo0.length] := by rw [f_3]; exact PtAt.own rfl
  have pt_c1 : PtAt A3 (S2.length + 6) 0 [slV (S2.length + 3) f1.e.length, slV (S2.length + 4) f1.x.length, slV (S2.length + 5) f1.y.length] := by rw [f_3]; exact PtAt.own rfl
  clear g_t0_2 g_t1_2
  have g_t0_3 : PtAt S3 (σ.length + 0) 0 [.int .i64 w0, .int .i64 h0_, .bool wr0, sv0, lv0] := pt_t0.pre (q_1.trans (v_2.trans (v_3.trans q_3)))
  have g_t1_3 : PtAt S3 (σ.length + 1) 0 [ev1, xv1, yv1] := pt_t1.pre (q_1.trans (v_2.trans (v_3.trans q_3)))
  have g_spec_3 : PtAt S3 (S1.length + 0) 0 [.int .i64 w0, .int .i64 h0_, .bool wr0, slV s1 sp0.length, slV l1 lo0.length, slV b1 gs.length] := pt_spec.pre (v_3.trans q_3)
  have g_c0_3 : PtAt S3 (S2.length + 2) 0 [.int .i64 w0, .int .i64 h0_, .bool wr0, slV (S2.length + 0) sp0.length, slV (S2.length + 1) lo0.length] := pt_c0.pre q_3
  have g_c1_3 : PtAt S3 (S2.length + 6) 0 [slV (S2.length + 3) f1.e.length, slV (S2.length + 4) f1.x.length, slV (S2.length + 5) f1.y.length] := pt_c1.pre q_3
  refine EvR.nrm ?_
  have inv0 : RInv A3 (S2.length + 0) [(S2.length + 0, sp0), (S2.length + 1, lo0)] := by rw [f_3]; exact rinv2 (hget _ _ 0) (hget _ _ 1) (by omega) (by omega)
  have rd0 : ShR A3 (slV (S2.length + 0) sp0.length) (slV (S2.length + 1) lo0.length) sp0 lo0 := ⟨Row.whole (by rw [f_3]; exact hget _ _ 0) (by omega) (by rw [f32s_length]; omega), Row.whole (by rw [f_3]; exact hget _ _ 1) (by omega) (by rw [f32s_length]; omega)⟩
  have inv1 : RInv A3 (S2.length + 3) [(S2.length + 3, f1.e), (S2.length + 4, f1.x), (S2.length + 5, f1.y)] := by rw [f_3]; exact rinv3 (hget _ _ 3) (hget _ _ 4) (hget _ _ 5) (by omega) (by omega) (by omega)
  have rd1 : FlR A3 (slV (S2.length + 3) f1.e.length) (slV (S2.length + 4) f1.x.length) (slV (S2.length + 5) f1.y.length) f1.e f1.x f1.y := ⟨Row.whole (by rw [f_3]; exact hget _ _ 3) (by omega) (by rw [f32s_length]; omega), Row.whole (by rw [f_3]; exact hget _ _ 4) (by omega) (by rw [f32s_length]; omega), Row.whole (by rw [f_3]; exact hget _ _ 5) (by omega) (by rw [f32s_length]; omega)⟩
  repeat' (first | refine ff ?_ | ((first | refine EvR.aSplB ?_ ?_ | refine Ev.aSplB ?_ ?_) <;> (intro hb; (try rw [hb]); (try simp only [Bool.not_eq_true', Bool.not_eq_false', Bool.not_eq_eq_eq_not, Bool.not_true, Bool.not_false, decide_eq_true_eq, decide_eq_false_iff_not, Bool.and_eq_true, Bool.and_eq_false_iff, Bool.or_eq_true, Bool.or_eq_false_iff] at hb); (try (exfalso; first | omega | exact hb trivial)))) | (apply endS trivial; rotate_left; (· exact eva); (· rfl); try refine ⟨?_, rfl⟩) | fail)
  (apply EvR.aCall h7.at_; (· exact eva); (· exact  h7.ok _ w0 h0_ wr0 _ _ _ _ _ _ sp0 lo0 gs ((o3.pre (Pre.refl S3)).ext _).sheet (nfls _) ((o1.pre (v_2.trans (v_3.trans q_3))).ext _).sheet ((o1.pre (v_2.trans (v_3.trans q_3))).ext _).fls gn1 gn2 gfit); (rintro _ _ ⟨rfl, rfl⟩; refine EvR.nrm ?_))
  repeat' (first | refine ff ?_ | ((first | refine EvR.aSplB ?_ ?_ | refine Ev.aSplB ?_ ?_) <;> (intro hb; (try rw [hb]); (try simp only [Bool.not_eq_true', Bool.not_eq_false', Bool.not_eq_eq_eq_not, Bool.not_true, Bool.not_false, decide_eq_true_eq, decide_eq_false_iff_not, Bool.and_eq_true, Bool.and_eq_false_iff, Bool.or_eq_true, Bool.or_eq_false_iff] at hb); (try (exfalso; first | omega | exact hb trivial)))) | (apply endS trivial; rotate_left; (· exact eva); (· rfl); try refine ⟨?_, rfl⟩) | fail)
  (apply EvR.aCall h3.at_; (· exact eva); (· exact  h3.ok _ w0 h0_ wr0 sv0 lv0 sp0 lo0 (r0.pre ((v_1.trans (q_1.trans (v_2.trans (v_3.trans q_3)))).app _)) na0 nb0); (rintro _ _ ⟨rfl, rfl⟩; refine EvR.nrm ?_))
  repeat' (first | refine ff ?_ | ((first | refine EvR.aSplB ?_ ?_ | refine Ev.aSplB ?_ ?_) <;> (intro hb; (try rw [hb]); (try simp only [Bool.not_eq_true', Bool.not_eq_false', Bool.not_eq_eq_eq_not, Bool.not_true, Bool.not_false, decide_eq_true_eq, decide_eq_false_iff_not, Bool.and_eq_true, Bool.and_eq_false_iff, Bool.or_eq_true, Bool.or_eq_false_iff] at hb); (try (exfalso; first | omega | exact hb trivial)))) | (apply endS trivial; rotate_left; (· exact eva); (· rfl); try refine ⟨?_, rfl⟩) | fail)
  (apply EvR.aCall h8.at_; (· exact eva); (· exact  h8.ok _ w0 h0_ wr0 _ _ _ _ sp0 lo0 (rd0.pre (q_3.app _)) ⟨Row.ownF rfl rfl, Row.ownF rfl rfl⟩ na0 nb0); (rintro _ _ ⟨rfl, rfl⟩; refine EvR.nrm ?_))
  repeat' (first | refine ff ?_ | ((first | refine EvR.aSplB ?_ ?_ | refine Ev.aSplB ?_ ?_) <;> (intro hb; (try rw [hb]); (try simp only [Bool.not_eq_true', Bool.not_eq_false', Bool.not_eq_eq_eq_not, Bool.not_true, Bool.not_false, decide_eq_true_eq, decide_eq_false_iff_not, Bool.and_eq_true, Bool.and_eq_false_iff, Bool.or_eq_true, Bool.or_eq_false_iff] at hb); (try (exfalso; first | omega | exact hb trivial)))) | (apply endS trivial; rotate_left; (· exact eva); (· rfl); try refine ⟨?_, rfl⟩) | fail)
  (apply EvR.aCall h4.at_; (· exact eva); (· exact  h4.ok _ ev1 xv1 yv1 f1.e f1.x f1.y (r1.pre ((v_1.trans (q_1.trans (v_2.trans (v_3.trans q_3)))).app _)) na1 nb1 nc1); (rintro _ _ ⟨rfl, rfl⟩; refine EvR.nrm ?_))
  repeat' (first | refine ff ?_ | ((first | refine EvR.aSplB ?_ ?_ | refine Ev.aSplB ?_ ?_) <;> (intro hb; (try rw [hb]); (try simp only [Bool.not_eq_true', Bool.not_eq_false', Bool.not_eq_eq_eq_not, Bool.not_true, Bool.not_false, decide_eq_true_eq, decide_eq_false_iff_not, Bool.and_eq_true, Bool.and_eq_false_iff, Bool.or_eq_true, Bool.or_eq_false_iff] at hb); (try (exfalso; first | omega | exact hb trivial)))) | (apply endS trivial; rotate_left; (· exact eva); (· rfl); try refine ⟨?_, rfl⟩) | fail)
  (apply EvR.aCall h9.at_; (· exact eva); (· exact  h9.ok _ _ _ _ _ _ _ f1.e f1.x f1.y (rd1.pre (q_3.app _)) ⟨Row.ownF rfl rfl, Row.ownF rfl rfl, Row.ownF rfl rfl⟩ na1 nb1 nc1); (rintro _ _ ⟨rfl, rfl⟩; refine EvR.nrm ?_))
  repeat' (first | refine ff ?_ | ((first | refine EvR.aSplB ?_ ?_ | refine Ev.aSplB ?_ ?_) <;> (intro hb; (try rw [hb]); (try simp only [Bool.not_eq_true', Bool.not_eq_false', Bool.not_eq_eq_eq_not, Bool.not_true, Bool.not_false, decide_eq_true_eq, decide_eq_false_iff_not, Bool.and_eq_true, Bool.and_eq_false_iff, Bool.or_eq_true, Bool.or_eq_false_iff] at hb); (try (exfalso; first | omega | exact hb trivial)))) | (apply endS trivial; rotate_left; (· exact eva); (· rfl); try refine ⟨?_, rfl⟩) | fail)
  have own_4 := (inv0.pre q_3).own
  apply EvR.aCall h10.at_; (· exact eva); (· exact h10.ok.2 _ w0 h0_ wr0 (S2.length + 0) (S2.length + 1) sp0 lo0 (1) (by omega) ((Pre.app (Pre.refl _) _).get (own_4 (S2.length + 0, sp0) (by simp))) ((Pre.app (Pre.refl _) _).get (own_4 (S2.length + 1, lo0) (by simp))) na0 nb0 (by omega) (by omega)); rintro _ _ ⟨rfl, rfl⟩
  refine EvR.baseM0 (k := 1) (R := [(S2.length + 0, sp0), (S2.length + 1, lo0)]) rfl fun A4 S4 f_4 q_4 => ?_
  have v_4 : Pre S3 A4 := by rw [f_4]; exact (Pre.refl _).app _
  have len_4 := (Pre.refl S2).len
  have y_4 : Pre S2 S4 := Pre.trans (Pre.mark (v_3.trans (q_3.trans v_4)) (1) fun p hp => by have := inv0.low p hp; omega) q_4
  have tops_4 : ∀ p ∈ ([(S2.length + 0, sp0), (S2.length + 1, lo0)] : Rws), p.1 < S2.length + 2 := fun p hp => by simp only [List.mem_cons, List.not_mem_nil, or_false] at hp; rcases hp with rfl | rfl <;> (dsimp only; omega)
  have lenR_4 : S2.length + 2 ≤ A3.length := by have := inv0.lt (p := (S2.length + 1, lo0)) (by simp); dsimp only at this; omega
  have len_4a := (Pre.refl A3).len
  have inv1_4 := inv1.keep (H' := S4) fun o_ h0_ h1_ => mark_at q_4 tops_4 (by omega) (q_3.trans v_4) h1_
  have o3_4 := o3.keep (H' := S4) fun o_ h0_ h1_ => mark_at q_4 tops_4 (by omega) v_4 h1_
  have pt_res : PtAt A4 (S3.length + 0) 0 [.int .i64 w0, .int .i64 h0_, .bool wr0, slV s3 sp0.length, slV l3 lo0.length, .slice none 0 0] := by rw [f_4]; exact PtAt.own rfl
  have g_t0_4 : PtAt S4 (σ.length + 0) 0 [.int .i64 w0, .int .i64 h0_, .bool wr0, sv0, lv0] := pt_t0.pre ((q_1.trans v_2).trans y_4)
  have g_t1_4 : PtAt S4 (σ.length + 1) 0 [ev1, xv1, yv1] := pt_t1.pre ((q_1.trans v_2).trans y_4)
  have g_spec_4 : PtAt S4 (S1.length + 0) 0 [.int .i64 w0, .int .i64 h0_, .bool wr0, slV s1 sp0.length, slV l1 lo0.length, slV b1 gs.length] := pt_spec.pre ((Pre.refl S2).trans y_4)
  have g_c1_4 : PtAt S4 (S2.length + 6) 0 [slV (S2.length + 3) f1.e.length, slV (S2.length + 4) f1.x.length, slV (S2.length + 5) f1.y.length] := pt_c1.same (mark_at q_4 tops_4 (by omega) (q_3.trans v_4) pt_c1.lt)
  have g_res_4 : PtAt S4 (S3.length + 0) 0 [.int .i64 w0, .int .i64 h0_, .bool wr0, slV s3 sp0.length, slV l3 lo0.length, .slice none 0 0] := pt_res.same (mark_at q_4 tops_4 (by have := q_3.len; omega) (Pre.refl A4) pt_res.lt)
  clear g_t0_3 g_t1_3 g_spec_3 g_c0_3 g_c1_3
  refine EvR.nrm ?_
  repeat' (first | refine ff ?_ | ((first | refine EvR.aSplB ?_ ?_ | refine Ev.aSplB ?_ ?_) <;> (intro hb; (try rw [hb]); (try simp only [Bool.not_eq_true', Bool.not_eq_false', Bool.not_eq_eq_eq_not, Bool.not_true, Bool.not_false, decide_eq_true_eq, decide_eq_false_iff_not, Bool.and_eq_true, Bool.and_eq_false_iff, Bool.or_eq_true, Bool.or_eq_false_iff] at hb); (try (exfalso; first | omega | exact hb trivial)))) | (apply endS trivial; rotate_left; (· exact eva); (· rfl); try refine ⟨?_, rfl⟩) | fail)
  have own_5 := (inv1_4.pre (Pre.refl S4)).own
  apply EvR.aCall h11.at_; (· exact eva); (· exact h11.ok.2 _ (S2.length + 3) (S2.length + 4) (S2.length + 5) f1.e f1.x f1.y _ _ _ (1 + sp0.length + lo0.length) rfl rfl rfl (by omega) (by omega) (by omega) ((Pre.app (Pre.refl _) _).get (own_5 (S2.length + 3, f1.e) (by simp))) ((Pre.app (Pre.refl _) _).get (own_5 (S2.length + 4, f1.x) (by simp))) ((Pre.app (Pre.refl _) _).get (own_5 (S2.length + 5, f1.y) (by simp))) na1 nb1 nc1 (by omega) (by omega)); rintro _ _ ⟨rfl, rfl⟩
  refine EvR.baseM0 (k := 1 + sp0.length + lo0.length) (R := [(S2.length + 3, f1.e), (S2.length + 4, f1.x), (S2.length + 5, f1.y)]) rfl fun A5 S5 f_5 q_5 => ?_
  have v_5 : Pre S4 A5 := by rw [f_5]; exact (Pre.refl _).app _
  have len_5 := (Pre.refl S2).len
  have y_5 : Pre S2 S5 := Pre.trans (Pre.mark (y_4.trans v_5) (1 + sp0.length + lo0.length) fun p hp => by have := inv1_4.low p hp; omega) q_5
  have tops_5 : ∀ p ∈ ([(S2.length + 3, f1.e), (S2.length + 4, f1.x), (S2.length + 5, f1.y)] : Rws), p.1 < S2.length + 6 := fun p hp => by simp only [List.mem_cons, List.not_mem_nil, or_false] at hp; rcases hp with rfl | rfl | rfl <;> (dsimp only; omega)
  have lenR_5 : S2.length + 6 ≤ A3.length := by have := inv1.lt (p := (S2.length + 5, f1.y)) (by simp); dsimp only at this; omega
  have len_5a := (Pre.refl A3).len
  have o3_4_5 := o3_4.keep (H' := S5) fun o_ h0_ h1_ => mark_at q_5 tops_5 (by omega) v_5 h1_
  have g_t0_5 : PtAt S5 (σ.length + 0) 0 [.int .i64 w0, .int .i64 h0_, .bool wr0, sv0, lv0] := pt_t0.pre ((q_1.trans v_2).trans y_5)
  have g_t1_5 : PtAt S5 (σ.length + 1) 0 [ev1, xv1, yv1] := pt_t1.pre ((q_1.trans v_2).trans y_5)
  have g_spec_5 : PtAt S5 (S1.length + 0) 0 [.int .i64 w0, .int .i64 h0_, .bool wr0, slV s1 sp0.length, slV l1 lo0.length, slV b1 gs.length] := pt_spec.pre ((Pre.refl S2).trans y_5)
  have g_res_5 : PtAt S5 (S3.length + 0) 0 [.int .i64 w0, .int .i64 h0_, .bool wr0, slV s3 sp0.length, slV l3 lo0.length, .slice none 0 0] := g_res_4.same (mark_at q_5 tops_5 (by have := q_3.len; omega) v_5 g_res_4.lt)
  clear g_t0_4 g_t1_4 g_spec_4 g_c1_4 g_res_4
  refine EvR.nrm ?_
  repeat' (first | refine ff ?_ | ((first | refine EvR.aSplB ?_ ?_ | refine Ev.aSplB ?_ ?_) <;> (intro hb; (try rw [hb]); (try simp only [Bool.not_eq_true', Bool.not_eq_false', Bool.not_eq_eq_eq_not, Bool.not_true, Bool.not_false, decide_eq_true_eq, decide_eq_false_iff_not, Bool.and_eq_true, Bool.and_eq_false_iff, Bool.or_eq_true, Bool.or_eq_false_iff] at hb); (try (exfalso; first | omega | exact hb trivial)))) | (apply endS trivial; rotate_left; (· exact eva); (· rfl); try refine ⟨?_, rfl⟩) | fail)
  (apply EvR.aCall h7.at_; (· exact eva); (· exact  h7.ok _ w0 h0_ wr0 _ _ _ _ _ _ sp0 lo0 gs ((o3_4_5.pre (Pre.refl S5)).ext _).sheet (nfls _) ((o1.pre (v_2.trans y_5)).ext _).sheet ((o1.pre (v_2.trans y_5)).ext _).fls gn1 gn2 gfit); (rintro _ _ ⟨rfl, rfl⟩; refine EvR.nrm ?_))
  repeat' (first | refine ff ?_ | ((first | refine EvR.aSplB ?_ ?_ | refine Ev.aSplB ?_ ?_) <;> (intro hb; (try rw [hb]); (try simp only [Bool.not_eq_true', Bool.not_eq_false', Bool.not_eq_eq_eq_not, Bool.not_true, Bool.not_false, decide_eq_true_eq, decide_eq_false_iff_not, Bool.and_eq_true, Bool.and_eq_false_iff, Bool.or_eq_true, Bool.or_eq_false_iff] at hb); (try (exfalso; first | omega | exact hb trivial)))) | (apply endS trivial; rotate_left; (· exact eva); (· rfl); try refine ⟨?_, rfl⟩) | fail)
  apply EvR.aCall h12.at_; (· exact eva); (· exact h12.ok.1.2 _ w0 h0_ wr0 A3.length s3 l3 sp0 lo0 1 ((o3_4_5.pre (Pre.refl S5)).ext _).inv gn1 gn2 (by omega) (by omega)); rintro _ _ ⟨rfl, t6, rfl⟩
  refine EvR.baseM fun A6 S6 f_6 e_6 q_6 => ?_
  have v_6 : Pre S5 A6 := by rw [f_6]; exact (Pre.refl _).app _
  have m2_ := (o3_4_5.pre v_6).marked 1
  have len_6 := v_3.len
  have y_6 : Pre S2 S6 := Pre.trans (Pre.mark (y_5.trans v_6) 1 fun p hp => by have := o3.lows p hp; omega) q_6
  have tops_6 := o3.tops
  have M2 := fun p hp => q_6.get (m2_ p hp)
  obtain ⟨T6, eT6⟩ : ∃ T : Nat, T = tot [(s3, sp0), (l3, lo0)] := ⟨_, rfl⟩
  have bT6 : T6 ≤ 8388608 := by rw [eT6]; simp only [tot]; omega
  rw [← eT6]
  have g_t0_6 : PtAt S6 (σ.length + 0) 0 [.int .i64 w0, .int .i64 h0_, .bool wr0, sv0, lv0] := pt_t0.pre ((q_1.trans v_2).trans y_6)
  have g_t1_6 : PtAt S6 (σ.length + 1) 0 [ev1, xv1, yv1] := pt_t1.pre ((q_1.trans v_2).trans y_6)
  have g_spec_6 : PtAt S6 (S1.length + 0) 0 [.int .i64 w0, .int .i64 h0_, .bool wr0, slV s1 sp0.length, slV l1 lo0.length, slV b1 gs.length] := pt_spec.pre ((Pre.refl S2).trans y_6)
  have g_res_6 : PtAt S6 (S3.length + 0) 0 [.int .i64 w0, .int .i64 h0_, .bool wr0, slV s3 sp0.length, slV l3 lo0.length, .slice none 0 0] := g_res_5.same (mark_at q_6 tops_6 (by have := (Pre.refl S3).len; omega) v_6 g_res_5.lt)
  clear g_t0_5 g_t1_5 g_spec_5 g_res_5
  refine EvR.nrm ?_
  repeat' (first | refine ff ?_ | ((first | refine EvR.aSplB ?_ ?_ | refine Ev.aSplB ?_ ?_) <;> (intro hb; (try rw [hb]); (try simp only [Bool.not_eq_true', Bool.not_eq_false', Bool.not_eq_eq_eq_not, Bool.not_true, Bool.not_false, decide_eq_true_eq, decide_eq_false_iff_not, Bool.and_eq_true, Bool.and_eq_false_iff, Bool.or_eq_true, Bool.or_eq_false_iff] at hb); (try (exfalso; first | omega | exact hb trivial)))) | (apply endS trivial; rotate_left; (· exact eva); (· rfl); try refine ⟨?_, rfl⟩) | fail)
  (apply EvR.aCall h13.at_; (· exact eva); (· exact  h13.ok.1.2 _ w0 h0_ wr0 s3 l3 sp0 lo0 1 (fun p hp => (Pre.app (Pre.refl S6) _).get (M2 p hp)) gn1 gn2 (by omega) (by omega)); (rintro _ _ ⟨rfl, rfl⟩; refine EvR.nrm ?_))
  rw [← eT6]
  repeat' (first | refine ff ?_ | ((first | refine EvR.aSplB ?_ ?_ | refine Ev.aSplB ?_ ?_) <;> (intro hb; (try rw [hb]); (try simp only [Bool.not_eq_true', Bool.not_eq_false', Bool.not_eq_eq_eq_not, Bool.not_true, Bool.not_false, decide_eq_true_eq, decide_eq_false_iff_not, Bool.and_eq_true, Bool.and_eq_false_iff, Bool.or_eq_true, Bool.or_eq_false_iff] at hb); (try (exfalso; first | omega | exact hb trivial)))) | (apply endS trivial; rotate_left; (· exact eva); (· rfl); try refine ⟨?_, rfl⟩) | fail)
  (apply EvR.aCall h3.at_; (· exact eva); (· exact  h3.ok _ w0 h0_ wr0 sv0 lv0 sp0 lo0 (r0.pre ((v_1.trans (q_1.trans (v_2.trans y_6))).app _)) na0 nb0); (rintro _ _ ⟨rfl, rfl⟩; refine EvR.nrm ?_))
  repeat' (first | refine ff ?_ | ((first | refine EvR.aSplB ?_ ?_ | refine Ev.aSplB ?_ ?_) <;> (intro hb; (try rw [hb]); (try simp only [Bool.not_eq_true', Bool.not_eq_false', Bool.not_eq_eq_eq_not, Bool.not_true, Bool.not_false, decide_eq_true_eq, decide_eq_false_iff_not, Bool.and_eq_true, Bool.and_eq_false_iff, Bool.or_eq_true, Bool.or_eq_false_iff] at hb); (try (exfalso; first | omega | exact hb trivial)))) | (apply endS trivial; rotate_left; (· exact eva); (· rfl); try refine ⟨?_, rfl⟩) | fail)
  (apply EvR.aCall h4.at_; (· exact eva); (· exact  h4.ok _ ev1 xv1 yv1 f1.e f1.x f1.y (r1.pre ((v_1.trans (q_1.trans (v_2.trans y_6))).app _)) na1 nb1 nc1); (rintro _ _ ⟨rfl, rfl⟩; refine EvR.nrm ?_))
  repeat' (first | refine ff ?_ | ((first | refine EvR.aSplB ?_ ?_ | refine Ev.aSplB ?_ ?_) <;> (intro hb; (try rw [hb]); (try simp only [Bool.not_eq_true', Bool.not_eq_false', Bool.not_eq_eq_eq_not, Bool.not_true, Bool.not_false, decide_eq_true_eq, decide_eq_false_iff_not, Bool.and_eq_true, Bool.and_eq_false_iff, Bool.or_eq_true, Bool.or_eq_false_iff] at hb); (try (exfalso; first | omega | exact hb trivial)))) | (apply endS trivial; rotate_left; (· exact eva); (· rfl); try refine ⟨?_, rfl⟩) | fail)
  apply EvR.aCall h6.at_; (· exact eva); (· exact h6.ok _ w0 h0_ wr0 _ _ sp0 lo0 _ _ _ f1 n2 n3 ⟨Row.ownF rfl rfl, Row.ownF rfl rfl⟩ na0 nb0 ⟨Row.ownF rfl rfl, Row.ownF rfl rfl, Row.ownF rfl rfl⟩ ⟨na1, nb1, nc1⟩); rintro _ _ hres
  obtain ⟨τ7, s7, l7, rfl, rfl, o7⟩ := hres.n hok (by rw [← hgs]; exact hne)
  clear hres
  refine EvR.base2 fun A7 S7 f_7 e_7 q_7 => ?_
  rw [← e_7, ← f_7] at o7
  have v_7 : Pre S6 A7 := by rw [f_7]; exact (Pre.refl _).app _
  clear g_t0_6 g_t1_6 g_spec_6
  have g_t0_7 : PtAt S7 (σ.length + 0) 0 [.int .i64 w0, .int .i64 h0_, .bool wr0, sv0, lv0] := pt_t0.pre (q_1.trans (v_2.trans (y_6.trans (v_7.trans q_7))))
  have g_t1_7 : PtAt S7 (σ.length + 1) 0 [ev1, xv1, yv1] := pt_t1.pre (q_1.trans (v_2.trans (y_6.trans (v_7.trans q_7))))
  have g_spec_7 : PtAt S7 (S1.length + 0) 0 [.int .i64 w0, .int .i64 h0_, .bool wr0, slV s1 sp0.length, slV l1 lo0.length, slV b1 gs.length] := pt_spec.pre (y_6.trans (v_7.trans q_7))
  have g_res_7 : PtAt S7 (S3.length + 0) 0 [.int .i64 w0, .int .i64 h0_, .bool wr0, slV s3 sp0.length, slV l3 lo0.length, .slice none 0 0] := g_res_6.pre (v_7.trans q_7)
  refine EvR.nrm ?_
  repeat' (first | refine ff ?_ | ((first | refine EvR.aSplB ?_ ?_ | refine Ev.aSplB ?_ ?_) <;> (intro hb; (try rw [hb]); (try simp only [Bool.not_eq_true', Bool.not_eq_false', Bool.not_eq_eq_eq_not, Bool.not_true, Bool.not_false, decide_eq_true_eq, decide_eq_false_iff_not, Bool.and_eq_true, Bool.and_eq_false_iff, Bool.or_eq_true, Bool.or_eq_false_iff] at hb); (try (exfalso; first | omega | exact hb trivial)))) | (apply endS trivial; rotate_left; (· exact eva); (· rfl); try refine ⟨?_, rfl⟩) | fail)
  (apply EvR.aCall h7.at_; (· exact eva); (· exact  h7.ok _ w0 h0_ wr0 _ _ _ _ _ _ sp0 lo0 gs ((o7.pre (Pre.refl S7)).ext _).sheet (nfls _) ((o1.pre (v_2.trans (y_6.trans (v_7.trans q_7)))).ext _).sheet ((o1.pre (v_2.trans (y_6.trans (v_7.trans q_7)))).ext _).fls gn1 gn2 gfit); (rintro _ _ ⟨rfl, rfl⟩; refine EvR.nrm ?_))
  repeat' (first | refine ff ?_ | ((first | refine EvR.aSplB ?_ ?_ | refine Ev.aSplB ?_ ?_) <;> (intro hb; (try rw [hb]); (try simp only [Bool.not_eq_true', Bool.not_eq_false', Bool.not_eq_eq_eq_not, Bool.not_true, Bool.not_false, decide_eq_true_eq, decide_eq_false_iff_not, Bool.and_eq_true, Bool.and_eq_false_iff, Bool.or_eq_true, Bool.or_eq_false_iff] at hb); (try (exfalso; first | omega | exact hb trivial)))) | (apply endS trivial; rotate_left; (· exact eva); (· rfl); try refine ⟨?_, rfl⟩) | fail)
  (apply EvR.aCall h13.at_; (· exact eva); (· exact  h13.ok.1.2 _ w0 h0_ wr0 s3 l3 sp0 lo0 1 (fun p hp => (Pre.app (v_7.trans q_7) _).get (M2 p hp)) gn1 gn2 (by omega) (by omega)); (rintro _ _ ⟨rfl, rfl⟩; refine EvR.nrm ?_))
  rw [← eT6]
  repeat' (first | refine ff ?_ | ((first | refine EvR.aSplB ?_ ?_ | refine Ev.aSplB ?_ ?_) <;> (intro hb; (try rw [hb]); (try simp only [Bool.not_eq_true', Bool.not_eq_false', Bool.not_eq_eq_eq_not, Bool.not_true, Bool.not_false, decide_eq_true_eq, decide_eq_false_iff_not, Bool.and_eq_true, Bool.and_eq_false_iff, Bool.or_eq_true, Bool.or_eq_false_iff] at hb); (try (exfalso; first | omega | exact hb trivial)))) | (apply endS trivial; rotate_left; (· exact eva); (· rfl); try refine ⟨?_, rfl⟩) | fail)
  apply endK (v_1.trans (q_1.trans (v_2.trans (y_6.trans (v_7.trans q_7)))))
  · trivial
  · rfl
  · exact eva
  · rfl
theorem laws_FnExactFilmOf_law {C : Ctab} {i1 i2 i3 i4 i5 i6 i7 i8 i9 i10 i11 i12 i13 : FuncId} {c1 c2 c3 c4 c5 c6 c7 c8 c9 c10 c11 c12 c13 : Contract} (h1 : Has C i1 c1 laws_szSheet_ok) (h2 : Has C i2 c2 laws_szField_ok) (h3 : Has C i3 c3 laws_toSheet_ok) (h4 : Has C i4 c4 laws_toField_ok) (h5 : Has C i5 c5 spec_FilmOf_ok) (h6 : Has C i6 c6 impl_FilmOf_ok) (h7 : Has C i7 c7 laws_eqFilm_ok) (h8 : Has C i8 c8 laws_eqSheet_ok) (h9 : Has C i9 c9 laws_eqField_ok) (h10 : HasW C i10 c10 laws_markSheet_ok) (h11 : HasW C i11 c11 laws_markField_ok) (h12 : HasW C i12 c12 laws_markFilm_ok) (h13 : Has C i13 c13 laws_heldFilm_ok) : laws_FnExactFilmOf_ok (gcC C (laws_FnExactFilmOf i1 i2 i3 i4 i5 i6 i7 i8 i9 i10 i11 i12 i13) true) := by
  intro σ avs hh
  match avs, hh with
  | [v0, v1, v2, v3], ⟨g0, g1, g2, g3, _⟩ =>
    obtain ⟨w0, h0_, wr0, sv0, lv0, sp0, lo0, rfl, r0, ba0, bb0, _, _⟩ := sheet_abs g0
    obtain ⟨ev1, xv1, yv1, f1, rfl, r1, ba1, bb1, bc1⟩ := field_absF g1
    obtain ⟨n2, rfl, _⟩ := int_abs g2
    obtain ⟨n3, rfl, _⟩ := int_abs g3
    have ka0 := r0.s.ok
    have kb0 := r0.l.ok
    have ka1 := r1.e.ok
    have kb1 := r1.x.ok
    have kc1 := r1.y.ok
    have z0 := szSheet_fact sp0 lo0 (1048576) (by omega)
    by_cases hz0 : szSheet sp0 lo0 (1048576) < 0
    · refine ret_gc rfl rfl ?_
      repeat' (first | refine ff ?_ | ((first | refine EvR.aSplB ?_ ?_ | refine Ev.aSplB ?_ ?_) <;> (intro hb; (try rw [hb]); (try simp only [Bool.not_eq_true', Bool.not_eq_false', Bool.not_eq_eq_eq_not, Bool.not_true, Bool.not_false, decide_eq_true_eq, decide_eq_false_iff_not, Bool.and_eq_true, Bool.and_eq_false_iff, Bool.or_eq_true, Bool.or_eq_false_iff] at hb); (try (exfalso; first | omega | exact hb trivial)))) | (apply endS trivial; rotate_left; (· exact eva); (· rfl); try refine ⟨?_, rfl⟩) | fail)
      (apply EvR.aCall h1.at_; (· exact eva); (· exact  h1.ok _ w0 h0_ wr0 sv0 lv0 sp0 lo0 (1048576) ⟨r0.s.ext _, r0.l.ext _⟩ ba0 bb0 (by omega) (by omega)); (rintro _ _ ⟨rfl, rfl⟩; refine EvR.nrm ?_))
      repeat' (first | refine ff ?_ | ((first | refine EvR.aSplB ?_ ?_ | refine Ev.aSplB ?_ ?_) <;> (intro hb; (try rw [hb]); (try simp only [Bool.not_eq_true', Bool.not_eq_false', Bool.not_eq_eq_eq_not, Bool.not_true, Bool.not_false, decide_eq_true_eq, decide_eq_false_iff_not, Bool.and_eq_true, Bool.and_eq_false_iff, Bool.or_eq_true, Bool.or_eq_false_iff] at hb); (try (exfalso; first | omega | exact hb trivial)))) | (apply endS trivial; rotate_left; (· exact eva); (· rfl); try refine ⟨?_, rfl⟩) | fail)
      all_goals rfl
    have z1 := szField_fact f1.e f1.x f1.y (szSheet sp0 lo0 (1048576)) (by omega)
    by_cases hz1 : szAll [f1.e.length, f1.x.length, f1.y.length] (szSheet sp0 lo0 (1048576)) < 0
    · refine ret_gc rfl rfl ?_
      repeat' (first | refine ff ?_ | ((first | refine EvR.aSplB ?_ ?_ | refine Ev.aSplB ?_ ?_) <;> (intro hb; (try rw [hb]); (try simp only [Bool.not_eq_true', Bool.not_eq_false', Bool.not_eq_eq_eq_not, Bool.not_true, Bool.not_false, decide_eq_true_eq, decide_eq_false_iff_not, Bool.and_eq_true, Bool.and_eq_false_iff, Bool.or_eq_true, Bool.or_eq_false_iff] at hb); (try (exfalso; first | omega | exact hb trivial)))) | (apply endS trivial; rotate_left; (· exact eva); (· rfl); try refine ⟨?_, rfl⟩) | fail)
      (apply EvR.aCall h1.at_; (· exact eva); (· exact  h1.ok _ w0 h0_ wr0 sv0 lv0 sp0 lo0 (1048576) ⟨r0.s.ext _, r0.l.ext _⟩ ba0 bb0 (by omega) (by omega)); (rintro _ _ ⟨rfl, rfl⟩; refine EvR.nrm ?_))
      repeat' (first | refine ff ?_ | ((first | refine EvR.aSplB ?_ ?_ | refine Ev.aSplB ?_ ?_) <;> (intro hb; (try rw [hb]); (try simp only [Bool.not_eq_true', Bool.not_eq_false', Bool.not_eq_eq_eq_not, Bool.not_true, Bool.not_false, decide_eq_true_eq, decide_eq_false_iff_not, Bool.and_eq_true, Bool.and_eq_false_iff, Bool.or_eq_true, Bool.or_eq_false_iff] at hb); (try (exfalso; first | omega | exact hb trivial)))) | (apply endS trivial; rotate_left; (· exact eva); (· rfl); try refine ⟨?_, rfl⟩) | fail)
      (apply EvR.aCall h2.at_; (· exact eva); (· exact  h2.ok _ ev1 xv1 yv1 f1.e f1.x f1.y (szSheet sp0 lo0 (1048576)) (r1.ext _) ba1 bb1 bc1 (by omega) (by omega)); (rintro _ _ ⟨rfl, rfl⟩; refine EvR.nrm ?_))
      repeat' (first | refine ff ?_ | ((first | refine EvR.aSplB ?_ ?_ | refine Ev.aSplB ?_ ?_) <;> (intro hb; (try rw [hb]); (try simp only [Bool.not_eq_true', Bool.not_eq_false', Bool.not_eq_eq_eq_not, Bool.not_true, Bool.not_false, decide_eq_true_eq, decide_eq_false_iff_not, Bool.and_eq_true, Bool.and_eq_false_iff, Bool.or_eq_true, Bool.or_eq_false_iff] at hb); (try (exfalso; first | omega | exact hb trivial)))) | (apply endS trivial; rotate_left; (· exact eva); (· rfl); try refine ⟨?_, rfl⟩) | fail)
      all_goals rfl
    cases hok : foOk w0 h0_ wr0 sp0 lo0 f1 n2 n3
    · exact rowFilmOf_f h1 h2 h3 h4 h5 h6 h7 h8 h9 h10 h11 h12 h13 σ w0 h0_ wr0 sv0 lv0 sp0 lo0 r0 ba0 bb0 ev1 xv1 yv1 f1 r1 ba1 bb1 bc1 n2 n3 hz0 hz1 hok
    · by_cases hne : foFs w0 h0_ wr0 sp0 lo0 f1 n2 n3 = []
      · exact rowFilmOf_n h1 h2 h3 h4 h5 h6 h7 h8 h9 h10 h11 h12 h13 σ w0 h0_ wr0 sv0 lv0 sp0 lo0 r0 ba0 bb0 ev1 xv1 yv1 f1 r1 ba1 bb1 bc1 n2 n3 hz0 hz1 hok hne
      · exact rowFilmOf_t h1 h2 h3 h4 h5 h6 h7 h8 h9 h10 h11 h12 h13 σ w0 h0_ wr0 sv0 lv0 sp0 lo0 r0 ba0 bb0 ev1 xv1 yv1 f1 r1 ba1 bb1 bc1 n2 n3 hz0 hz1 hok hne
end Go.Abs

