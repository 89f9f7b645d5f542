/- Law of a row's function: ScatterField. Conditions: the laws of what it calls. -/
import Derived.Test.YtoijdkmkfhefjaaExactScatterFieldL29
import Derived.Test.YtoijdkmkfhefjaaExactScatterFieldL59
namespace Go.Abs

set_option linter.unusedSimpArgs false
set_option linter.unusedVariables false
set_option maxHeartbeats 16000000
set_option maxRecDepth 100000
/- loop.example/g01201/laws.FnExactScatterField -/
def laws_FnExactScatterField_r0 : List SOper := [
  ⟨(some 4), none, .box (.tmp 0), 0⟩,
  ⟨(some 5), none, .box (.tmp 1), 0⟩,
  ⟨(some 6), none, .box (.tmp 2), 0⟩,
  ⟨(some 8), none, .mov (.const (.bool false)), 0⟩]
def laws_FnExactScatterField_r1 : List SOper := [
  ⟨(some 9), none, .mov (.const (.int .i64 1048576)), 0⟩]
def laws_FnExactScatterField_r2 (i_laws_szSheet : FuncId) : List SOper := [
  ⟨(some 22), none, .loadN 5 (.tmp 4), 0⟩,
  ⟨(some 23), none, .mov (.tmp 9), 0⟩,
  ⟨(some 24), none, .call (.func i_laws_szSheet) [(.tmp 22), (.tmp 23)], 3⟩,
  ⟨(some 9), none, .mov (.tmp 24), 7⟩]
def laws_FnExactScatterField_r3 : List SOper := [
  ⟨(some 25), none, .mov (.tmp 9), 0⟩,
  ⟨(some 26), none, .bin .lss .other (.tmp 25) (.const (.int .i64 0)), 1⟩]
def laws_FnExactScatterField_r4 : List SOper := [
  ⟨(some 8), none, .mov (.const (.bool true)), 0⟩]
def laws_FnExactScatterField_r5 (i_laws_szSheet : FuncId) : List SOper := [
  ⟨(some 27), none, .loadN 5 (.tmp 5), 0⟩,
  ⟨(some 28), none, .mov (.tmp 9), 0⟩,
  ⟨(some 29), none, .call (.func i_laws_szSheet) [(.tmp 27), (.tmp 28)], 3⟩,
  ⟨(some 9), none, .mov (.tmp 29), 7⟩]
def laws_FnExactScatterField_r6 : List SOper := [
  ⟨(some 30), none, .mov (.tmp 9), 0⟩,
  ⟨(some 31), none, .bin .lss .other (.tmp 30) (.const (.int .i64 0)), 1⟩]
def laws_FnExactScatterField_r7 : List SOper := [
  ⟨(some 8), none, .mov (.const (.bool true)), 0⟩]
def laws_FnExactScatterField_r8 (i_laws_szField : FuncId) : List SOper := [
  ⟨(some 32), none, .loadN 3 (.tmp 6), 0⟩,
  ⟨(some 33), none, .mov (.tmp 9), 0⟩,
  ⟨(some 34), none, .call (.func i_laws_szField) [(.tmp 32), (.tmp 33)], 3⟩,
  ⟨(some 9), none, .mov (.tmp 34), 7⟩]
def laws_FnExactScatterField_r9 : List SOper := [
  ⟨(some 35), none, .mov (.tmp 9), 0⟩,
  ⟨(some 36), none, .bin .lss .other (.tmp 35) (.const (.int .i64 0)), 1⟩]
def laws_FnExactScatterField_r10 : List SOper := [
  ⟨(some 8), none, .mov (.const (.bool true)), 0⟩]
def laws_FnExactScatterField_r11 (i_laws_toSheet i_laws_toField i_spec_ScatterField : FuncId) : List SOper := [
  ⟨(some 38), none, .loadN 5 (.tmp 4), 0⟩,
  ⟨(some 39), none, .call (.func i_laws_toSheet) [(.tmp 38)], 1⟩,
  ⟨(some 40), none, .loadN 5 (.tmp 5), 0⟩,
  ⟨(some 41), none, .call (.func i_laws_toSheet) [(.tmp 40)], 7⟩,
  ⟨(some 42), none, .loadN 3 (.tmp 6), 0⟩,
  ⟨(some 43), none, .call (.func i_laws_toField) [(.tmp 42)], 31⟩,
  ⟨(some 44), none, .mov (.tmp 3), 0⟩,
  ⟨(some 45), none, .call (.func i_spec_ScatterField) [(.tmp 39), (.tmp 41), (.tmp 43), (.tmp 44)], 127⟩,
  ⟨(some 37), none, .mov (.tmp 45), 255⟩,
  ⟨(some 46), none, .extract (.tmp 37) 0, 511⟩,
  ⟨(some 47), none, .extract (.tmp 37) 1, 511⟩,
  ⟨(some 10), none, .alloc [(.slice none 0 0), (.slice none 0 0), (.slice none 0 0)], 0⟩,
  ⟨none, none, .store 3 (.tmp 10) (.tmp 46), 3071⟩,
  ⟨(some 11), none, .mov (.tmp 47), 8191⟩]
def laws_FnExactScatterField_r12 (i_laws_toSheet : FuncId) : List SOper := [
  ⟨(some 48), none, .loadN 5 (.tmp 4), 0⟩,
  ⟨(some 49), none, .call (.func i_laws_toSheet) [(.tmp 48)], 1⟩,
  ⟨(some 12), none, .alloc [(.int .i64 0), (.int .i64 0), (.bool false), (.slice none 0 0), (.slice none 0 0)], 0⟩,
  ⟨none, none, .store 5 (.tmp 12) (.tmp 49), 7⟩]
def laws_FnExactScatterField_r13 (i_laws_toSheet : FuncId) : List SOper := [
  ⟨(some 50), none, .loadN 5 (.tmp 5), 0⟩,
  ⟨(some 51), none, .call (.func i_laws_toSheet) [(.tmp 50)], 1⟩,
  ⟨(some 13), none, .alloc [(.int .i64 0), (.int .i64 0), (.bool false), (.slice none 0 0), (.slice none 0 0)], 0⟩,
  ⟨none, none, .store 5 (.tmp 13) (.tmp 51), 7⟩]
def laws_FnExactScatterField_r14 (i_laws_toField : FuncId) : List SOper := [
  ⟨(some 52), none, .loadN 3 (.tmp 6), 0⟩,
  ⟨(some 53), none, .call (.func i_laws_toField) [(.tmp 52)], 1⟩,
  ⟨(some 14), none, .alloc [(.slice none 0 0), (.slice none 0 0), (.slice none 0 0)], 0⟩,
  ⟨none, none, .store 3 (.tmp 14) (.tmp 53), 7⟩]
def laws_FnExactScatterField_r15 (i_impl_ScatterField : FuncId) : List SOper := [
  ⟨(some 55), none, .loadN 5 (.tmp 12), 0⟩,
  ⟨(some 56), none, .loadN 5 (.tmp 13), 0⟩,
  ⟨(some 57), none, .loadN 3 (.tmp 14), 0⟩,
  ⟨(some 58), none, .mov (.tmp 3), 0⟩,
  ⟨(some 59), none, .call (.func i_impl_ScatterField) [(.tmp 55), (.tmp 56), (.tmp 57), (.tmp 58)], 15⟩,
  ⟨(some 54), none, .mov (.tmp 59), 31⟩,
  ⟨(some 60), none, .extract (.tmp 54) 0, 63⟩,
  ⟨(some 61), none, .extract (.tmp 54) 1, 63⟩,
  ⟨(some 15), none, .alloc [(.slice none 0 0), (.slice none 0 0), (.slice none 0 0)], 0⟩,
  ⟨none, none, .store 3 (.tmp 15) (.tmp 60), 383⟩,
  ⟨(some 16), none, .mov (.tmp 61), 1023⟩]
def laws_FnExactScatterField_r16 (i_laws_eqField : FuncId) : List SOper := [
  ⟨(some 62), none, .loadN 3 (.tmp 15), 0⟩,
  ⟨(some 63), none, .loadN 3 (.tmp 10), 0⟩,
  ⟨(some 64), none, .call (.func i_laws_eqField) [(.tmp 62), (.tmp 63)], 3⟩,
  ⟨(some 65), none, .un .not (.tmp 64), 7⟩,
  ⟨(some 66), none, .mov (.tmp 65), 15⟩,
  ⟨(some 67), (some (66, false)), .mov (.tmp 16), 31⟩,
  ⟨(some 68), (some (66, false)), .mov (.tmp 11), 31⟩,
  ⟨(some 69), (some (66, false)), .bin .neq .bool (.tmp 67) (.tmp 68), 127⟩,
  ⟨(some 70), none, .pick (.tmp 66) (.const (.bool true)) (.tmp 69), 255⟩]
def laws_FnExactScatterField_r17 : List SOper := [
  ⟨(some 8), none, .mov (.const (.bool false)), 0⟩]
def laws_FnExactScatterField_r18 (i_laws_toSheet i_laws_eqSheet : FuncId) : List SOper := [
  ⟨(some 71), none, .loadN 5 (.tmp 12), 0⟩,
  ⟨(some 72), none, .loadN 5 (.tmp 4), 0⟩,
  ⟨(some 73), none, .call (.func i_laws_toSheet) [(.tmp 72)], 2⟩,
  ⟨(some 74), none, .call (.func i_laws_eqSheet) [(.tmp 71), (.tmp 73)], 7⟩,
  ⟨(some 75), none, .un .not (.tmp 74), 15⟩]
def laws_FnExactScatterField_r19 : List SOper := [
  ⟨(some 8), none, .mov (.const (.bool false)), 0⟩]
def laws_FnExactScatterField_r20 (i_laws_toSheet i_laws_eqSheet : FuncId) : List SOper := [
  ⟨(some 76), none, .loadN 5 (.tmp 13), 0⟩,
  ⟨(some 77), none, .loadN 5 (.tmp 5), 0⟩,
  ⟨(some 78), none, .call (.func i_laws_toSheet) [(.tmp 77)], 2⟩,
  ⟨(some 79), none, .call (.func i_laws_eqSheet) [(.tmp 76), (.tmp 78)], 7⟩,
  ⟨(some 80), none, .un .not (.tmp 79), 15⟩]
def laws_FnExactScatterField_r21 : List SOper := [
  ⟨(some 8), none, .mov (.const (.bool false)), 0⟩]
def laws_FnExactScatterField_r22 (i_laws_toField i_laws_eqField : FuncId) : List SOper := [
  ⟨(some 81), none, .loadN 3 (.tmp 14), 0⟩,
  ⟨(some 82), none, .loadN 3 (.tmp 6), 0⟩,
  ⟨(some 83), none, .call (.func i_laws_toField) [(.tmp 82)], 2⟩,
  ⟨(some 84), none, .call (.func i_laws_eqField) [(.tmp 81), (.tmp 83)], 7⟩,
  ⟨(some 85), none, .un .not (.tmp 84), 15⟩]
def laws_FnExactScatterField_r23 : List SOper := [
  ⟨(some 8), none, .mov (.const (.bool false)), 0⟩]
def laws_FnExactScatterField_r24 : List SOper := [
  ⟨(some 17), none, .mov (.const (.int .i64 1)), 0⟩]
def laws_FnExactScatterField_r25 (i_laws_markSheet : FuncId) : List SOper := [
  ⟨(some 86), none, .loadN 5 (.tmp 12), 0⟩,
  ⟨(some 87), none, .mov (.tmp 17), 0⟩,
  ⟨(some 88), none, .call (.func i_laws_markSheet) [(.tmp 86), (.tmp 87)], 3⟩,
  ⟨(some 17), none, .mov (.tmp 88), 7⟩]
def laws_FnExactScatterField_r26 (i_laws_markSheet : FuncId) : List SOper := [
  ⟨(some 89), none, .loadN 5 (.tmp 13), 0⟩,
  ⟨(some 90), none, .mov (.tmp 17), 0⟩,
  ⟨(some 91), none, .call (.func i_laws_markSheet) [(.tmp 89), (.tmp 90)], 3⟩,
  ⟨(some 17), none, .mov (.tmp 91), 7⟩]
def laws_FnExactScatterField_r27 (i_laws_markField : FuncId) : List SOper := [
  ⟨(some 92), none, .loadN 3 (.tmp 14), 0⟩,
  ⟨(some 93), none, .mov (.tmp 17), 0⟩,
  ⟨(some 94), none, .call (.func i_laws_markField) [(.tmp 92), (.tmp 93)], 3⟩,
  ⟨(some 17), none, .mov (.tmp 94), 7⟩]
def laws_FnExactScatterField_r28 (i_laws_eqField : FuncId) : List SOper := [
  ⟨(some 95), none, .mov (.tmp 17), 0⟩,
  ⟨(some 96), none, .bin .lss .other (.tmp 95) (.const (.int .i64 0)), 1⟩,
  ⟨(some 97), none, .mov (.tmp 96), 3⟩,
  ⟨(some 98), (some (97, false)), .loadN 3 (.tmp 15), 7⟩,
  ⟨(some 99), (some (97, false)), .loadN 3 (.tmp 10), 7⟩,
  ⟨(some 100), (some (97, false)), .call (.func i_laws_eqField) [(.tmp 98), (.tmp 99)], 31⟩,
  ⟨(some 101), (some (97, false)), .un .not (.tmp 100), 63⟩,
  ⟨(some 102), none, .pick (.tmp 97) (.const (.bool true)) (.tmp 101), 127⟩,
  ⟨(some 103), none, .mov (.tmp 102), 255⟩,
  ⟨(some 104), (some (103, false)), .mov (.tmp 16), 511⟩,
  ⟨(some 105), (some (103, false)), .mov (.tmp 11), 511⟩,
  ⟨(some 106), (some (103, false)), .bin .neq .bool (.tmp 104) (.tmp 105), 2047⟩,
  ⟨(some 107), none, .pick (.tmp 103) (.const (.bool true)) (.tmp 106), 4095⟩]
def laws_FnExactScatterField_r29 : List SOper := [
  ⟨(some 8), none, .mov (.const (.bool false)), 0⟩]
def laws_FnExactScatterField_r30 : List SOper := [
  ⟨(some 18), none, .mov (.const (.int .i64 1)), 0⟩]
def laws_FnExactScatterField_r31 (i_laws_markField : FuncId) : List SOper := [
  ⟨(some 108), none, .loadN 3 (.tmp 15), 0⟩,
  ⟨(some 109), none, .mov (.tmp 18), 0⟩,
  ⟨(some 110), none, .call (.func i_laws_markField) [(.tmp 108), (.tmp 109)], 3⟩,
  ⟨(some 18), none, .mov (.tmp 110), 7⟩]
def laws_FnExactScatterField_r32 : List SOper := [
  ⟨(some 19), none, .mov (.const (.int .i64 1)), 0⟩]
def laws_FnExactScatterField_r33 (i_laws_heldField : FuncId) : List SOper := [
  ⟨(some 111), none, .loadN 3 (.tmp 15), 0⟩,
  ⟨(some 112), none, .mov (.tmp 19), 0⟩,
  ⟨(some 113), none, .call (.func i_laws_heldField) [(.tmp 111), (.tmp 112)], 3⟩,
  ⟨(some 19), none, .mov (.tmp 113), 7⟩]
def laws_FnExactScatterField_r34 : List SOper := [
  ⟨(some 114), none, .mov (.tmp 19), 0⟩,
  ⟨(some 115), none, .bin .lss .other (.tmp 114) (.const (.int .i64 0)), 1⟩]
def laws_FnExactScatterField_r35 : List SOper := [
  ⟨(some 8), none, .mov (.const (.bool false)), 0⟩]
def laws_FnExactScatterField_r36 : List SOper := [
  ⟨(some 116), none, .mov (.tmp 19), 0⟩,
  ⟨(some 117), none, .mov (.tmp 18), 0⟩,
  ⟨(some 118), none, .bin .neq .other (.tmp 116) (.tmp 117), 3⟩]
def laws_FnExactScatterField_r37 : List SOper := [
  ⟨(some 8), none, .mov (.const (.bool false)), 0⟩]
def laws_FnExactScatterField_r38 (i_laws_toSheet i_laws_toField i_impl_ScatterField : FuncId) : List SOper := [
  ⟨(some 120), none, .loadN 5 (.tmp 4), 0⟩,
  ⟨(some 121), none, .call (.func i_laws_toSheet) [(.tmp 120)], 1⟩,
  ⟨(some 122), none, .loadN 5 (.tmp 5), 0⟩,
  ⟨(some 123), none, .call (.func i_laws_toSheet) [(.tmp 122)], 7⟩,
  ⟨(some 124), none, .loadN 3 (.tmp 6), 0⟩,
  ⟨(some 125), none, .call (.func i_laws_toField) [(.tmp 124)], 31⟩,
  ⟨(some 126), none, .mov (.tmp 3), 0⟩,
  ⟨(some 127), none, .call (.func i_impl_ScatterField) [(.tmp 121), (.tmp 123), (.tmp 125), (.tmp 126)], 127⟩,
  ⟨(some 119), none, .mov (.tmp 127), 255⟩,
  ⟨(some 128), none, .extract (.tmp 119) 0, 511⟩,
  ⟨(some 129), none, .extract (.tmp 119) 1, 511⟩,
  ⟨(some 20), none, .alloc [(.slice none 0 0), (.slice none 0 0), (.slice none 0 0)], 0⟩,
  ⟨none, none, .store 3 (.tmp 20) (.tmp 128), 3071⟩,
  ⟨(some 21), none, .mov (.tmp 129), 8191⟩]
def laws_FnExactScatterField_r39 (i_laws_eqField : FuncId) : List SOper := [
  ⟨(some 130), none, .loadN 3 (.tmp 20), 0⟩,
  ⟨(some 131), none, .loadN 3 (.tmp 10), 0⟩,
  ⟨(some 132), none, .call (.func i_laws_eqField) [(.tmp 130), (.tmp 131)], 3⟩,
  ⟨(some 133), none, .un .not (.tmp 132), 7⟩,
  ⟨(some 134), none, .mov (.tmp 133), 15⟩,
  ⟨(some 135), (some (134, false)), .mov (.tmp 21), 31⟩,
  ⟨(some 136), (some (134, false)), .mov (.tmp 11), 31⟩,
  ⟨(some 137), (some (134, false)), .bin .neq .bool (.tmp 135) (.tmp 136), 127⟩,
  ⟨(some 138), none, .pick (.tmp 134) (.const (.bool true)) (.tmp 137), 255⟩]
def laws_FnExactScatterField_r40 : List SOper := [
  ⟨(some 8), none, .mov (.const (.bool false)), 0⟩]
def laws_FnExactScatterField_r41 : List SOper := [
  ⟨(some 19), none, .mov (.const (.int .i64 1)), 0⟩]
def laws_FnExactScatterField_r42 (i_laws_heldField : FuncId) : List SOper := [
  ⟨(some 139), none, .loadN 3 (.tmp 15), 0⟩,
  ⟨(some 140), none, .mov (.tmp 19), 0⟩,
  ⟨(some 141), none, .call (.func i_laws_heldField) [(.tmp 139), (.tmp 140)], 3⟩,
  ⟨(some 19), none, .mov (.tmp 141), 7⟩]
def laws_FnExactScatterField_r43 : List SOper := [
  ⟨(some 142), none, .mov (.tmp 19), 0⟩,
  ⟨(some 143), none, .bin .lss .other (.tmp 142) (.const (.int .i64 0)), 1⟩]
def laws_FnExactScatterField_r44 : List SOper := [
  ⟨(some 8), none, .mov (.const (.bool false)), 0⟩]
def laws_FnExactScatterField_r45 : List SOper := [
  ⟨(some 144), none, .mov (.tmp 19), 0⟩,
  ⟨(some 145), none, .mov (.tmp 18), 0⟩,
  ⟨(some 146), none, .bin .neq .other (.tmp 144) (.tmp 145), 3⟩]
def laws_FnExactScatterField_r46 : List SOper := [
  ⟨(some 8), none, .mov (.const (.bool false)), 0⟩]
def laws_FnExactScatterField_r47 : List SOper := [
  ⟨(some 8), none, .mov (.const (.bool true)), 0⟩]
def laws_FnExactScatterField (i_laws_szSheet i_laws_szField i_laws_toSheet i_laws_toField i_spec_ScatterField i_impl_ScatterField i_laws_eqField i_laws_eqSheet i_laws_markSheet i_laws_markField i_laws_heldField : FuncId) : SFunc := ⟨147, [.tmp 8], (.kp [0, 1, 2, 3] (.seq (.region laws_FnExactScatterField_r0 false) (.kp [3, 4, 5, 6] (.seq (.region laws_FnExactScatterField_r1 false) (.kp [3, 4, 5, 6, 9] (.seq (.region (laws_FnExactScatterField_r2 i_laws_szSheet) false) (.kp [3, 4, 5, 6, 9] (.seq (.seq (.region laws_FnExactScatterField_r3 false) (.kp [3, 4, 5, 6, 9, 26] (.cond (.tmp 26) (.seq (.region laws_FnExactScatterField_r4 false) .ret) .skip))) (.kp [3, 4, 5, 6, 9] (.seq (.region (laws_FnExactScatterField_r5 i_laws_szSheet) false) (.kp [3, 4, 5, 6, 9] (.seq (.seq (.region laws_FnExactScatterField_r6 false) (.kp [3, 4, 5, 6, 9, 31] (.cond (.tmp 31) (.seq (.region laws_FnExactScatterField_r7 false) .ret) .skip))) (.kp [3, 4, 5, 6, 9] (.seq (.region (laws_FnExactScatterField_r8 i_laws_szField) false) (.kp [3, 4, 5, 6, 9] (.seq (.seq (.region laws_FnExactScatterField_r9 false) (.kp [3, 4, 5, 6, 36] (.cond (.tmp 36) (.seq (.region laws_FnExactScatterField_r10 false) .ret) .skip))) (.kp [3, 4, 5, 6] (.seq (.region (laws_FnExactScatterField_r11 i_laws_toSheet i_laws_toField i_spec_ScatterField) true) (.kp [3, 4, 5, 6, 10, 11] (.seq (.region (laws_FnExactScatterField_r12 i_laws_toSheet) false) (.kp [3, 4, 5, 6, 10, 11, 12] (.seq (.region (laws_FnExactScatterField_r13 i_laws_toSheet) false) (.kp [3, 4, 5, 6, 10, 11, 12, 13] (.seq (.region (laws_FnExactScatterField_r14 i_laws_toField) false) (.kp [3, 4, 5, 6, 10, 11, 12, 13, 14] (.seq (.region (laws_FnExactScatterField_r15 i_impl_ScatterField) false) (.kp [3, 4, 5, 6, 10, 11, 12, 13, 14, 15, 16] (.seq (.seq (.region (laws_FnExactScatterField_r16 i_laws_eqField) false) (.kp [3, 4, 5, 6, 10, 11, 12, 13, 14, 15, 16, 70] (.cond (.tmp 70) (.seq (.region laws_FnExactScatterField_r17 false) .ret) .skip))) (.kp [3, 4, 5, 6, 10, 11, 12, 13, 14, 15, 16] (.seq (.seq (.region (laws_FnExactScatterField_r18 i_laws_toSheet i_laws_eqSheet) true) (.kp [3, 4, 5, 6, 10, 11, 12, 13, 14, 15, 16, 75] (.cond (.tmp 75) (.seq (.region laws_FnExactScatterField_r19 false) .ret) .skip))) (.kp [3, 4, 5, 6, 10, 11, 12, 13, 14, 15, 16] (.seq (.seq (.region (laws_FnExactScatterField_r20 i_laws_toSheet i_laws_eqSheet) true) (.kp [3, 4, 5, 6, 10, 11, 12, 13, 14, 15, 16, 80] (.cond (.tmp 80) (.seq (.region laws_FnExactScatterField_r21 false) .ret) .skip))) (.kp [3, 4, 5, 6, 10, 11, 12, 13, 14, 15, 16] (.seq (.seq (.region (laws_FnExactScatterField_r22 i_laws_toField i_laws_eqField) true) (.kp [3, 4, 5, 6, 10, 11, 12, 13, 14, 15, 16, 85] (.cond (.tmp 85) (.seq (.region laws_FnExactScatterField_r23 false) .ret) .skip))) (.kp [3, 4, 5, 6, 10, 11, 12, 13, 14, 15, 16] (.seq (.region laws_FnExactScatterField_r24 false) (.kp [3, 4, 5, 6, 10, 11, 12, 13, 14, 15, 16, 17] (.seq (.region (laws_FnExactScatterField_r25 i_laws_markSheet) false) (.kp [3, 4, 5, 6, 10, 11, 13, 14, 15, 16, 17] (.seq (.region (laws_FnExactScatterField_r26 i_laws_markSheet) false) (.kp [3, 4, 5, 6, 10, 11, 14, 15, 16, 17] (.seq (.region (laws_FnExactScatterField_r27 i_laws_markField) false) (.kp [3, 4, 5, 6, 10, 11, 15, 16, 17] (.seq (.seq (.region (laws_FnExactScatterField_r28 i_laws_eqField) false) (.kp [3, 4, 5, 6, 10, 11, 15, 107] (.cond (.tmp 107) (.seq (.region laws_FnExactScatterField_r29 false) .ret) .skip))) (.kp [3, 4, 5, 6, 10, 11, 15] (.seq (.region laws_FnExactScatterField_r30 false) (.kp [3, 4, 5, 6, 10, 11, 15, 18] (.seq (.region (laws_FnExactScatterField_r31 i_laws_markField) false) (.kp [3, 4, 5, 6, 10, 11, 15, 18] (.seq (.region laws_FnExactScatterField_r32 false) (.kp [3, 4, 5, 6, 10, 11, 15, 18, 19] (.seq (.region (laws_FnExactScatterField_r33 i_laws_heldField) false) (.kp [3, 4, 5, 6, 10, 11, 15, 18, 19] (.seq (.seq (.region laws_FnExactScatterField_r34 false) (.kp [3, 4, 5, 6, 10, 11, 15, 18, 19, 115] (.cond (.tmp 115) (.seq (.region laws_FnExactScatterField_r35 false) .ret) .skip))) (.kp [3, 4, 5, 6, 10, 11, 15, 18, 19] (.seq (.seq (.region laws_FnExactScatterField_r36 false) (.kp [3, 4, 5, 6, 10, 11, 15, 18, 118] (.cond (.tmp 118) (.seq (.region laws_FnExactScatterField_r37 false) .ret) .skip))) (.kp [3, 4, 5, 6, 10, 11, 15, 18] (.seq (.region (laws_FnExactScatterField_r38 i_laws_toSheet i_laws_toField i_impl_ScatterField) true) (.kp [10, 11, 15, 18, 20, 21] (.seq (.seq (.region (laws_FnExactScatterField_r39 i_laws_eqField) false) (.kp [15, 18, 138] (.cond (.tmp 138) (.seq (.region laws_FnExactScatterField_r40 false) .ret) .skip))) (.kp [15, 18] (.seq (.region laws_FnExactScatterField_r41 false) (.kp [15, 18, 19] (.seq (.region (laws_FnExactScatterField_r42 i_laws_heldField) false) (.kp [18, 19] (.seq (.seq (.region laws_FnExactScatterField_r43 false) (.kp [18, 19, 143] (.cond (.tmp 143) (.seq (.region laws_FnExactScatterField_r44 false) .ret) .skip))) (.kp [18, 19] (.seq (.seq (.region laws_FnExactScatterField_r45 false) (.kp [146] (.cond (.tmp 146) (.seq (.region laws_FnExactScatterField_r46 false) .ret) .skip))) (.kp [] (.seq (.region laws_FnExactScatterField_r47 false) .ret))))))))))))))))))))))))))))))))))))))))))))))))))))))))))))))))))))))⟩
theorem laws_FnExactScatterField_r11_dr {i_laws_toSheet i_laws_toField i_spec_ScatterField : FuncId} : (drawOkS (laws_FnExactScatterField_r11 i_laws_toSheet i_laws_toField i_spec_ScatterField) && storesOnly (laws_FnExactScatterField_r11 i_laws_toSheet i_laws_toField i_spec_ScatterField)) = true := by kernel_rfl
attribute [push_cast] laws_FnExactScatterField_r11_dr
theorem laws_FnExactScatterField_r18_dr {i_laws_toSheet i_laws_eqSheet : FuncId} : drawOkW wStat (laws_FnExactScatterField_r18 i_laws_toSheet i_laws_eqSheet) = true := by kernel_rfl
attribute [push_cast] laws_FnExactScatterField_r18_dr
theorem laws_FnExactScatterField_r20_dr {i_laws_toSheet i_laws_eqSheet : FuncId} : drawOkW wStat (laws_FnExactScatterField_r20 i_laws_toSheet i_laws_eqSheet) = true := by kernel_rfl
attribute [push_cast] laws_FnExactScatterField_r20_dr
theorem laws_FnExactScatterField_r22_dr {i_laws_toField i_laws_eqField : FuncId} : drawOkW wStat (laws_FnExactScatterField_r22 i_laws_toField i_laws_eqField) = true := by kernel_rfl
attribute [push_cast] laws_FnExactScatterField_r22_dr
theorem laws_FnExactScatterField_r38_dr {i_laws_toSheet i_laws_toField i_impl_ScatterField : FuncId} : (drawOkS (laws_FnExactScatterField_r38 i_laws_toSheet i_laws_toField i_impl_ScatterField) && storesOnly (laws_FnExactScatterField_r38 i_laws_toSheet i_laws_toField i_impl_ScatterField)) = true := by kernel_rfl
attribute [push_cast] laws_FnExactScatterField_r38_dr
def laws_FnExactScatterField_ok (c : Contract) : Prop := AlwaysTrue [sheetK, sheetK, fieldK, intK] c
theorem rowScatterField_f {C : Ctab} {i1 i2 i3 i4 i5 i6 i7 i8 i9 i10 i11 : FuncId} {c1 c2 c3 c4 c5 c6 c7 c8 c9 c10 c11 : Contract} (h1 : Has C i1 c1 laws_szSheet_ok) (h2 : Has C i2 c2 laws_szField_ok) (h3 : Has C i3 c3 laws_toSheet_ok) (h4 : Has C i4 c4 laws_toField_ok) (h5 : Has C i5 c5 spec_ScatterField_ok) (h6 : Has C i6 c6 impl_ScatterField_ok) (h7 : Has C i7 c7 laws_eqField_ok) (h8 : Has C i8 c8 laws_eqSheet_ok) (h9 : HasW C i9 c9 laws_markSheet_ok) (h10 : HasW C i10 c10 laws_markField_ok) (h11 : Has C i11 c11 laws_heldField_ok) (σ : Heap) (w0 t0 : Int) (wr0 : Bool) (sv0 lv0 : Value) (sp0 lo0 : List Nat) (w1 t1 : Int) (wr1 : Bool) (sv1 lv1 : Value) (sp1 lo1 : List Nat) (ev2 xv2 yv2 : Value) (e2 x2 y2 : List Nat) (n3 : Int) (hi3 : inK .i64 n3) (a0 : Row σ 1 sv0 sp0.length (f32s sp0)) (b0 : Row σ 1 lv0 lo0.length (f32s lo0)) (a1 : Row σ 1 sv1 sp1.length (f32s sp1)) (b1 : Row σ 1 lv1 lo1.length (f32s lo1)) (p2 : Row σ 1 ev2 e2.length (f32s e2)) (q2 : Row σ 1 xv2 x2.length (f32s x2)) (r2 : Row σ 1 yv2 y2.length (f32s y2)) (ha0 : sp0.length ≤ 9223372036854775807) (hb0 : lo0.length ≤ 9223372036854775807) (ha1 : sp1.length ≤ 9223372036854775807) (hb1 : lo1.length ≤ 9223372036854775807) (hp2 : e2.length ≤ 9223372036854775807) (hq2 : x2.length ≤ 9223372036854775807) (hr2 : y2.length ≤ 9223372036854775807) (hz0 : ¬ szSheet sp0 lo0 1048576 < 0) (hz1 : ¬ szSheet sp1 lo1 (szSheet sp0 lo0 1048576) < 0) (hz2 : ¬ szAll [e2.length, x2.length, y2.length] (szSheet sp1 lo1 (szSheet sp0 lo0 1048576)) < 0)
    (hok : sfOk w0 t0 wr0 sp0 lo0 w1 t1 wr1 sp1 lo1 e2 x2 y2 n3 (rfF w0 t0 wr0 sp0 lo0 e2 x2 y2 n3) (rfF w1 t1 wr1 sp1 lo1 e2 x2 y2 n3) = false) : Ret (gcC C (laws_FnExactScatterField i1 i2 i3 i4 i5 i6 i7 i8 i9 i10 i11) true) [shV w0 t0 wr0 sv0 lv0, shV w1 t1 wr1 sv1 lv1, fV ev2 xv2 yv2, .int .i64 n3] σ fun v _ => v = .bool true := by
  have z0 := szSheet_fact sp0 lo0 (1048576) (by omega)
  have y0_ : decide (szSheet sp0 lo0 1048576 < 0) = false := decide_eq_false hz0
  have z1 := szSheet_fact sp1 lo1 (szSheet sp0 lo0 1048576) (by omega)
  have y1_ : decide (szSheet sp1 lo1 (szSheet sp0 lo0 1048576) < 0) = false := decide_eq_false hz1
  have z2 := szField_fact e2 x2 y2 (szSheet sp1 lo1 (szSheet sp0 lo0 1048576)) (by omega)
  have y2_ : decide (szAll [e2.length, x2.length, y2.length] (szSheet sp1 lo1 (szSheet sp0 lo0 1048576)) < 0) = false := decide_eq_false hz2
  have ma0 : sp0.length ≤ 1048576 := by omega
  have mb0 : lo0.length ≤ 1048576 := by omega
  have ma1 : sp1.length ≤ 1048576 := by omega
  have mb1 : lo1.length ≤ 1048576 := by omega
  have mp2 : e2.length ≤ 1048576 := by omega
  have mq2 : x2.length ≤ 1048576 := by omega
  have mr2 : y2.length ≤ 1048576 := by omega
  refine ret_gc rfl rfl ?_
  repeat' (first | refine ff ?_ | (apply EvR.aCall h1.at_; (· exact eva); (· apply h1.ok <;> exact sid); (rintro _ _ ⟨rfl, rfl⟩; refine EvR.nrm ?_; try simp only [hok, flRes_f, flRows_f, List.append_nil])) | (apply EvR.aCall h2.at_; (· exact eva); (· apply h2.ok <;> exact sid); (rintro _ _ ⟨rfl, rfl⟩; refine EvR.nrm ?_; try simp only [hok, flRes_f, flRows_f, List.append_nil])) | (apply EvR.aCall h3.at_; (· exact eva); (· apply h3.ok <;> exact sid); (rintro _ _ ⟨rfl, rfl⟩; refine EvR.nrm ?_; try simp only [hok, flRes_f, flRows_f, List.append_nil])) | (apply EvR.aCall h4.at_; (· exact eva); (· apply h4.ok <;> exact sid); (rintro _ _ ⟨rfl, rfl⟩; refine EvR.nrm ?_; try simp only [hok, flRes_f, flRows_f, List.append_nil])) | (apply EvR.aCall h8.at_; (· exact eva); (· apply h8.ok <;> exact sid); (rintro _ _ ⟨rfl, rfl⟩; refine EvR.nrm ?_; try simp only [hok, flRes_f, flRows_f, List.append_nil])) | (apply EvR.aCall h7.at_; (· exact eva); (· apply h7.ok <;> exact sid); (rintro _ _ ⟨rfl, rfl⟩; refine EvR.nrm ?_; try simp only [hok, flRes_f, flRows_f, List.append_nil])) | ((first | refine EvR.aSplB ?_ ?_ | refine Ev.aSplB ?_ ?_) <;> (intro hb; (try rw [hb]); (try simp only [Bool.not_eq_true', Bool.not_eq_false', Bool.not_eq_eq_eq_not, Bool.not_true, Bool.not_false, decide_eq_true_eq, decide_eq_false_iff_not, Bool.and_eq_true, Bool.and_eq_false_iff, Bool.or_eq_true, Bool.or_eq_false_iff] at hb); (try (exfalso; first | omega | exact hb trivial)))) | (apply endS trivial; rotate_left; (· exact eva); (· rfl); try refine ⟨?_, rfl⟩) | fail)
  (apply EvR.aCall h5.at_; (· exact eva); (· exact  h5.ok _ w0 t0 wr0 _ _ sp0 lo0 w1 t1 wr1 _ _ sp1 lo1 _ _ _ e2 x2 y2 n3 _ _ rfl rfl ⟨Row.ownF rfl rfl, Row.ownF rfl rfl⟩ ma0 mb0 ⟨Row.ownF rfl rfl, Row.ownF rfl rfl⟩ ma1 mb1 ⟨Row.ownF rfl rfl, Row.ownF rfl rfl, Row.ownF rfl rfl⟩ mp2 mq2 mr2); (rintro _ _ ⟨rfl, rfl⟩; refine EvR.nrm ?_))
  rw [hok, flRes_f, flRows_f]
  try refine EvR.nrm ?_
  repeat' (first | refine ff ?_ | (apply EvR.aCall h1.at_; (· exact eva); (· apply h1.ok <;> exact sid); (rintro _ _ ⟨rfl, rfl⟩; refine EvR.nrm ?_; try simp only [hok, flRes_f, flRows_f, List.append_nil])) | (apply EvR.aCall h2.at_; (· exact eva); (· apply h2.ok <;> exact sid); (rintro _ _ ⟨rfl, rfl⟩; refine EvR.nrm ?_; try simp only [hok, flRes_f, flRows_f, List.append_nil])) | (apply EvR.aCall h3.at_; (· exact eva); (· apply h3.ok <;> exact sid); (rintro _ _ ⟨rfl, rfl⟩; refine EvR.nrm ?_; try simp only [hok, flRes_f, flRows_f, List.append_nil])) | (apply EvR.aCall h4.at_; (· exact eva); (· apply h4.ok <;> exact sid); (rintro _ _ ⟨rfl, rfl⟩; refine EvR.nrm ?_; try simp only [hok, flRes_f, flRows_f, List.append_nil])) | (apply EvR.aCall h8.at_; (· exact eva); (· apply h8.ok <;> exact sid); (rintro _ _ ⟨rfl, rfl⟩; refine EvR.nrm ?_; try simp only [hok, flRes_f, flRows_f, List.append_nil])) | (apply EvR.aCall h7.at_; (· exact eva); (· apply h7.ok <;> exact sid); (rintro _ _ ⟨rfl, rfl⟩; refine EvR.nrm ?_; try simp only [hok, flRes_f, flRows_f, List.append_nil])) | ((first | refine EvR.aSplB ?_ ?_ | refine Ev.aSplB ?_ ?_) <;> (intro hb; (try rw [hb]); (try simp only [Bool.not_eq_true', Bool.not_eq_false', Bool.not_eq_eq_eq_not, Bool.not_true, Bool.not_false, decide_eq_true_eq, decide_eq_false_iff_not, Bool.and_eq_true, Bool.and_eq_false_iff, Bool.or_eq_true, Bool.or_eq_false_iff] at hb); (try (exfalso; first | omega | exact hb trivial)))) | (apply endS trivial; rotate_left; (· exact eva); (· rfl); try refine ⟨?_, rfl⟩) | fail)
  (apply EvR.aCall h6.at_; (· exact eva); (· exact  h6.ok _ w0 t0 wr0 _ _ sp0 lo0 w1 t1 wr1 _ _ sp1 lo1 _ _ _ e2 x2 y2 n3 _ _ rfl rfl ⟨Row.ownF rfl rfl, Row.ownF rfl rfl⟩ ma0 mb0 ⟨Row.ownF rfl rfl, Row.ownF rfl rfl⟩ ma1 mb1 ⟨Row.ownF rfl rfl, Row.ownF rfl rfl, Row.ownF rfl rfl⟩ mp2 mq2 mr2); (rintro _ _ ⟨rfl, rfl⟩; refine EvR.nrm ?_))
  rw [hok, flRes_f, flRows_f]
  try refine EvR.nrm ?_
  repeat' (first | refine ff ?_ | (apply EvR.aCall h1.at_; (· exact eva); (· apply h1.ok <;> exact sid); (rintro _ _ ⟨rfl, rfl⟩; refine EvR.nrm ?_; try simp only [hok, flRes_f, flRows_f, List.append_nil])) | (apply EvR.aCall h2.at_; (· exact eva); (· apply h2.ok <;> exact sid); (rintro _ _ ⟨rfl, rfl⟩; refine EvR.nrm ?_; try simp only [hok, flRes_f, flRows_f, List.append_nil])) | (apply EvR.aCall h3.at_; (· exact eva); (· apply h3.ok <;> exact sid); (rintro _ _ ⟨rfl, rfl⟩; refine EvR.nrm ?_; try simp only [hok, flRes_f, flRows_f, List.append_nil])) | (apply EvR.aCall h4.at_; (· exact eva); (· apply h4.ok <;> exact sid); (rintro _ _ ⟨rfl, rfl⟩; refine EvR.nrm ?_; try simp only [hok, flRes_f, flRows_f, List.append_nil])) | (apply EvR.aCall h8.at_; (· exact eva); (· apply h8.ok <;> exact sid); (rintro _ _ ⟨rfl, rfl⟩; refine EvR.nrm ?_; try simp only [hok, flRes_f, flRows_f, List.append_nil])) | (apply EvR.aCall h7.at_; (· exact eva); (· apply h7.ok <;> exact sid); (rintro _ _ ⟨rfl, rfl⟩; refine EvR.nrm ?_; try simp only [hok, flRes_f, flRows_f, List.append_nil])) | ((first | refine EvR.aSplB ?_ ?_ | refine Ev.aSplB ?_ ?_) <;> (intro hb; (try rw [hb]); (try simp only [Bool.not_eq_true', Bool.not_eq_false', Bool.not_eq_eq_eq_not, Bool.not_true, Bool.not_false, decide_eq_true_eq, decide_eq_false_iff_not, Bool.and_eq_true, Bool.and_eq_false_iff, Bool.or_eq_true, Bool.or_eq_false_iff] at hb); (try (exfalso; first | omega | exact hb trivial)))) | (apply endS trivial; rotate_left; (· exact eva); (· rfl); try refine ⟨?_, rfl⟩) | fail)
  (apply EvR.aCall h9.at_; (· exact eva); (· exact  h9.ok.2 _ _ _ _ _ _ sp0 lo0 _ (by omega) (hget _ _ 11) (hget _ _ 12) ma0 mb0 (by omega) (by omega)); (rintro _ _ ⟨rfl, rfl⟩; refine EvR.nrm ?_))
  repeat' (first | refine ff ?_ | ((first | refine EvR.aSplB ?_ ?_ | refine Ev.aSplB ?_ ?_) <;> (intro hb; (try rw [hb]); (try simp only [Bool.not_eq_true', Bool.not_eq_false', Bool.not_eq_eq_eq_not, Bool.not_true, Bool.not_false, decide_eq_true_eq, decide_eq_false_iff_not, Bool.and_eq_true, Bool.and_eq_false_iff, Bool.or_eq_true, Bool.or_eq_false_iff] at hb); (try (exfalso; first | omega | exact hb trivial)))) | (apply endS trivial; rotate_left; (· exact eva); (· rfl); try refine ⟨?_, rfl⟩) | fail)
  (apply EvR.aCall h9.at_; (· exact eva); (· exact  h9.ok.2 _ _ _ _ _ _ sp1 lo1 _ (by omega) (hget _ _ 14) (hget _ _ 15) ma1 mb1 (by omega) (by omega)); (rintro _ _ ⟨rfl, rfl⟩; refine EvR.nrm ?_))
  repeat' (first | refine ff ?_ | ((first | refine EvR.aSplB ?_ ?_ | refine Ev.aSplB ?_ ?_) <;> (intro hb; (try rw [hb]); (try simp only [Bool.not_eq_true', Bool.not_eq_false', Bool.not_eq_eq_eq_not, Bool.not_true, Bool.not_false, decide_eq_true_eq, decide_eq_false_iff_not, Bool.and_eq_true, Bool.and_eq_false_iff, Bool.or_eq_true, Bool.or_eq_false_iff] at hb); (try (exfalso; first | omega | exact hb trivial)))) | (apply endS trivial; rotate_left; (· exact eva); (· rfl); try refine ⟨?_, rfl⟩) | fail)
  (apply EvR.aCall h10.at_; (· exact eva); (· exact  h10.ok.2 _ _ _ _ e2 x2 y2 _ _ _ _ rfl rfl rfl (by omega) (by omega) (by omega) (hget _ _ 17) (hget _ _ 18) (hget _ _ 19) mp2 mq2 mr2 (by omega) (by omega)); (rintro _ _ ⟨rfl, rfl⟩; refine EvR.nrm ?_))
  repeat' (first | refine ff ?_ | (apply EvR.aCall h1.at_; (· exact eva); (· apply h1.ok <;> exact sid); (rintro _ _ ⟨rfl, rfl⟩; refine EvR.nrm ?_; try simp only [hok, flRes_f, flRows_f, List.append_nil])) | (apply EvR.aCall h2.at_; (· exact eva); (· apply h2.ok <;> exact sid); (rintro _ _ ⟨rfl, rfl⟩; refine EvR.nrm ?_; try simp only [hok, flRes_f, flRows_f, List.append_nil])) | (apply EvR.aCall h3.at_; (· exact eva); (· apply h3.ok <;> exact sid); (rintro _ _ ⟨rfl, rfl⟩; refine EvR.nrm ?_; try simp only [hok, flRes_f, flRows_f, List.append_nil])) | (apply EvR.aCall h4.at_; (· exact eva); (· apply h4.ok <;> exact sid); (rintro _ _ ⟨rfl, rfl⟩; refine EvR.nrm ?_; try simp only [hok, flRes_f, flRows_f, List.append_nil])) | (apply EvR.aCall h8.at_; (· exact eva); (· apply h8.ok <;> exact sid); (rintro _ _ ⟨rfl, rfl⟩; refine EvR.nrm ?_; try simp only [hok, flRes_f, flRows_f, List.append_nil])) | (apply EvR.aCall h7.at_; (· exact eva); (· apply h7.ok <;> exact sid); (rintro _ _ ⟨rfl, rfl⟩; refine EvR.nrm ?_; try simp only [hok, flRes_f, flRows_f, List.append_nil])) | ((first | refine EvR.aSplB ?_ ?_ | refine Ev.aSplB ?_ ?_) <;> (intro hb; (try rw [hb]); (try simp only [Bool.not_eq_true', Bool.not_eq_false', Bool.not_eq_eq_eq_not, Bool.not_true, Bool.not_false, decide_eq_true_eq, decide_eq_false_iff_not, Bool.and_eq_true, Bool.and_eq_false_iff, Bool.or_eq_true, Bool.or_eq_false_iff] at hb); (try (exfalso; first | omega | exact hb trivial)))) | (apply endS trivial; rotate_left; (· exact eva); (· rfl); try refine ⟨?_, rfl⟩) | fail)
  (apply EvR.aCall h10.at_; (· exact eva); (· exact  h10.ok.1 _ 1); (rintro _ _ ⟨rfl, rfl⟩; refine EvR.nrm ?_))
  repeat' (first | refine ff ?_ | ((first | refine EvR.aSplB ?_ ?_ | refine Ev.aSplB ?_ ?_) <;> (intro hb; (try rw [hb]); (try simp only [Bool.not_eq_true', Bool.not_eq_false', Bool.not_eq_eq_eq_not, Bool.not_true, Bool.not_false, decide_eq_true_eq, decide_eq_false_iff_not, Bool.and_eq_true, Bool.and_eq_false_iff, Bool.or_eq_true, Bool.or_eq_false_iff] at hb); (try (exfalso; first | omega | exact hb trivial)))) | (apply endS trivial; rotate_left; (· exact eva); (· rfl); try refine ⟨?_, rfl⟩) | fail)
  (apply EvR.aCall h11.at_; (· exact eva); (· exact  h11.ok _ _ _ _ 0 0 0 1 ⟨rfl, rfl, rfl⟩ ⟨rfl, rfl, rfl⟩ ⟨rfl, rfl, rfl⟩ (by omega) (by omega) (by omega) (by omega) (by omega)); (rintro _ _ ⟨rfl, rfl⟩; refine EvR.nrm ?_))
  repeat' (first | refine ff ?_ | (apply EvR.aCall h1.at_; (· exact eva); (· apply h1.ok <;> exact sid); (rintro _ _ ⟨rfl, rfl⟩; refine EvR.nrm ?_; try simp only [hok, flRes_f, flRows_f, List.append_nil])) | (apply EvR.aCall h2.at_; (· exact eva); (· apply h2.ok <;> exact sid); (rintro _ _ ⟨rfl, rfl⟩; refine EvR.nrm ?_; try simp only [hok, flRes_f, flRows_f, List.append_nil])) | (apply EvR.aCall h3.at_; (· exact eva); (· apply h3.ok <;> exact sid); (rintro _ _ ⟨rfl, rfl⟩; refine EvR.nrm ?_; try simp only [hok, flRes_f, flRows_f, List.append_nil])) | (apply EvR.aCall h4.at_; (· exact eva); (· apply h4.ok <;> exact sid); (rintro _ _ ⟨rfl, rfl⟩; refine EvR.nrm ?_; try simp only [hok, flRes_f, flRows_f, List.append_nil])) | (apply EvR.aCall h8.at_; (· exact eva); (· apply h8.ok <;> exact sid); (rintro _ _ ⟨rfl, rfl⟩; refine EvR.nrm ?_; try simp only [hok, flRes_f, flRows_f, List.append_nil])) | (apply EvR.aCall h7.at_; (· exact eva); (· apply h7.ok <;> exact sid); (rintro _ _ ⟨rfl, rfl⟩; refine EvR.nrm ?_; try simp only [hok, flRes_f, flRows_f, List.append_nil])) | ((first | refine EvR.aSplB ?_ ?_ | refine Ev.aSplB ?_ ?_) <;> (intro hb; (try rw [hb]); (try simp only [Bool.not_eq_true', Bool.not_eq_false', Bool.not_eq_eq_eq_not, Bool.not_true, Bool.not_false, decide_eq_true_eq, decide_eq_false_iff_not, Bool.and_eq_true, Bool.and_eq_false_iff, Bool.or_eq_true, Bool.or_eq_false_iff] at hb); (try (exfalso; first | omega | exact hb trivial)))) | (apply endS trivial; rotate_left; (· exact eva); (· rfl); try refine ⟨?_, rfl⟩) | fail)
  (apply EvR.aCall h6.at_; (· exact eva); (· exact  h6.ok _ w0 t0 wr0 _ _ sp0 lo0 w1 t1 wr1 _ _ sp1 lo1 _ _ _ e2 x2 y2 n3 _ _ rfl rfl ⟨Row.ownF rfl rfl, Row.ownF rfl rfl⟩ ma0 mb0 ⟨Row.ownF rfl rfl, Row.ownF rfl rfl⟩ ma1 mb1 ⟨Row.ownF rfl rfl, Row.ownF rfl rfl, Row.ownF rfl rfl⟩ mp2 mq2 mr2); (rintro _ _ ⟨rfl, rfl⟩; refine EvR.nrm ?_))
  rw [hok, flRes_f, flRows_f]
  try refine EvR.nrm ?_
  repeat' (first | refine ff ?_ | (apply EvR.aCall h1.at_; (· exact eva); (· apply h1.ok <;> exact sid); (rintro _ _ ⟨rfl, rfl⟩; refine EvR.nrm ?_; try simp only [hok, flRes_f, flRows_f, List.append_nil])) | (apply EvR.aCall h2.at_; (· exact eva); (· apply h2.ok <;> exact sid); (rintro _ _ ⟨rfl, rfl⟩; refine EvR.nrm ?_; try simp only [hok, flRes_f, flRows_f, List.append_nil])) | (apply EvR.aCall h3.at_; (· exact eva); (· apply h3.ok <;> exact sid); (rintro _ _ ⟨rfl, rfl⟩; refine EvR.nrm ?_; try simp only [hok, flRes_f, flRows_f, List.append_nil])) | (apply EvR.aCall h4.at_; (· exact eva); (· apply h4.ok <;> exact sid); (rintro _ _ ⟨rfl, rfl⟩; refine EvR.nrm ?_; try simp only [hok, flRes_f, flRows_f, List.append_nil])) | (apply EvR.aCall h8.at_; (· exact eva); (· apply h8.ok <;> exact sid); (rintro _ _ ⟨rfl, rfl⟩; refine EvR.nrm ?_; try simp only [hok, flRes_f, flRows_f, List.append_nil])) | (apply EvR.aCall h7.at_; (· exact eva); (· apply h7.ok <;> exact sid); (rintro _ _ ⟨rfl, rfl⟩; refine EvR.nrm ?_; try simp only [hok, flRes_f, flRows_f, List.append_nil])) | ((first | refine EvR.aSplB ?_ ?_ | refine Ev.aSplB ?_ ?_) <;> (intro hb; (try rw [hb]); (try simp only [Bool.not_eq_true', Bool.not_eq_false', Bool.not_eq_eq_eq_not, Bool.not_true, Bool.not_false, decide_eq_true_eq, decide_eq_false_iff_not, Bool.and_eq_true, Bool.and_eq_false_iff, Bool.or_eq_true, Bool.or_eq_false_iff] at hb); (try (exfalso; first | omega | exact hb trivial)))) | (apply endS trivial; rotate_left; (· exact eva); (· rfl); try refine ⟨?_, rfl⟩) | fail)
  (apply EvR.aCall h11.at_; (· exact eva); (· exact  h11.ok _ _ _ _ 0 0 0 1 ⟨rfl, rfl, rfl⟩ ⟨rfl, rfl, rfl⟩ ⟨rfl, rfl, rfl⟩ (by omega) (by omega) (by omega) (by omega) (by omega)); (rintro _ _ ⟨rfl, rfl⟩; refine EvR.nrm ?_))
  repeat' (first | refine ff ?_ | ((first | refine EvR.aSplB ?_ ?_ | refine Ev.aSplB ?_ ?_) <;> (intro hb; (try rw [hb]); (try simp only [Bool.not_eq_true', Bool.not_eq_false', Bool.not_eq_eq_eq_not, Bool.not_true, Bool.not_false, decide_eq_true_eq, decide_eq_false_iff_not, Bool.and_eq_true, Bool.and_eq_false_iff, Bool.or_eq_true, Bool.or_eq_false_iff] at hb); (try (exfalso; first | omega | exact hb trivial)))) | (apply endS trivial; rotate_left; (· exact eva); (· rfl); try refine ⟨?_, rfl⟩) | fail)
  rfl

theorem rowScatterField_t {C : Ctab} {i1 i2 i3 i4 i5 i6 i7 i8 i9 i10 i11 : FuncId} {c1 c2 c3 c4 c5 c6 c7 c8 c9 c10 c11 : Contract} (h1 : Has C i1 c1 laws_szSheet_ok) (h2 : Has C i2 c2 laws_szField_ok) (h3 : Has C i3 c3 laws_toSheet_ok) (h4 : Has C i4 c4 laws_toField_ok) (h5 : Has C i5 c5 spec_ScatterField_ok) (h6 : Has C i6 c6 impl_ScatterField_ok) (h7 : Has C i7 c7 laws_eqField_ok) (h8 : Has C i8 c8 laws_eqSheet_ok) (h9 : HasW C i9 c9 laws_markSheet_ok) (h10 : HasW C i10 c10 laws_markField_ok) (h11 : Has C i11 c11 laws_heldField_ok) (σ : Heap) (w0 t0 : Int) (wr0 : Bool) (sv0 lv0 : Value) (sp0 lo0 : List Nat) (w1 t1 : Int) (wr1 : Bool) (sv1 lv1 : Value) (sp1 lo1 : List Nat) (ev2 xv2 yv2 : Value) (e2 x2 y2 : List Nat) (n3 : Int) (hi3 : inK .i64 n3) (a0 : Row σ 1 sv0 sp0.length (f32s sp0)) (b0 : Row σ 1 lv0 lo0.length (f32s lo0)) (a1 : Row σ 1 sv1 sp1.length (f32s sp1)) (b1 : Row σ 1 lv1 lo1.length (f32s lo1)) (p2 : Row σ 1 ev2 e2.length (f32s e2)) (q2 : Row σ 1 xv2 x2.length (f32s x2)) (r2 : Row σ 1 yv2 y2.length (f32s y2)) (ha0 : sp0.length ≤ 9223372036854775807) (hb0 : lo0.length ≤ 9223372036854775807) (ha1 : sp1.length ≤ 9223372036854775807) (hb1 : lo1.length ≤ 9223372036854775807) (hp2 : e2.length ≤ 9223372036854775807) (hq2 : x2.length ≤ 9223372036854775807) (hr2 : y2.length ≤ 9223372036854775807) (hz0 : ¬ szSheet sp0 lo0 1048576 < 0) (hz1 : ¬ szSheet sp1 lo1 (szSheet sp0 lo0 1048576) < 0) (hz2 : ¬ szAll [e2.length, x2.length, y2.length] (szSheet sp1 lo1 (szSheet sp0 lo0 1048576)) < 0)
    (hok : sfOk w0 t0 wr0 sp0 lo0 w1 t1 wr1 sp1 lo1 e2 x2 y2 n3 (rfF w0 t0 wr0 sp0 lo0 e2 x2 y2 n3) (rfF w1 t1 wr1 sp1 lo1 e2 x2 y2 n3) = true) : Ret (gcC C (laws_FnExactScatterField i1 i2 i3 i4 i5 i6 i7 i8 i9 i10 i11) true) [shV w0 t0 wr0 sv0 lv0, shV w1 t1 wr1 sv1 lv1, fV ev2 xv2 yv2, .int .i64 n3] σ fun v _ => v = .bool true := by
  have z0 := szSheet_fact sp0 lo0 (1048576) (by omega)
  have y0_ : decide (szSheet sp0 lo0 1048576 < 0) = false := decide_eq_false hz0
  have z1 := szSheet_fact sp1 lo1 (szSheet sp0 lo0 1048576) (by omega)
  have y1_ : decide (szSheet sp1 lo1 (szSheet sp0 lo0 1048576) < 0) = false := decide_eq_false hz1
  have z2 := szField_fact e2 x2 y2 (szSheet sp1 lo1 (szSheet sp0 lo0 1048576)) (by omega)
  have y2_ : decide (szAll [e2.length, x2.length, y2.length] (szSheet sp1 lo1 (szSheet sp0 lo0 1048576)) < 0) = false := decide_eq_false hz2
  have ma0 : sp0.length ≤ 1048576 := by omega
  have mb0 : lo0.length ≤ 1048576 := by omega
  have ma1 : sp1.length ≤ 1048576 := by omega
  have mb1 : lo1.length ≤ 1048576 := by omega
  have mp2 : e2.length ≤ 1048576 := by omega
  have mq2 : x2.length ≤ 1048576 := by omega
  have mr2 : y2.length ≤ 1048576 := by omega
  have hR1 : rfOk w0 t0 wr0 sp0 lo0 e2 x2 y2 n3 = true := by simp only [sfOk, sfA, Bool.and_eq_true] at hok; exact hok.1.2.1
  obtain ⟨L1, L2, L3⟩ := rf_lens rfl hR1
  have L1 : (addL (rfF w0 t0 wr0 sp0 lo0 e2 x2 y2 n3).e (scaleL mOne (rfF w1 t1 wr1 sp1 lo1 e2 x2 y2 n3).e)).length ≤ 1048576 := by rw [newM_length]; exact L1
  have L2 : (addL (rfF w0 t0 wr0 sp0 lo0 e2 x2 y2 n3).x (scaleL mOne (rfF w1 t1 wr1 sp1 lo1 e2 x2 y2 n3).x)).length ≤ 1048576 := by rw [newM_length]; exact L2
  have L3 : (addL (rfF w0 t0 wr0 sp0 lo0 e2 x2 y2 n3).y (scaleL mOne (rfF w1 t1 wr1 sp1 lo1 e2 x2 y2 n3).y)).length ≤ 1048576 := by rw [newM_length]; exact L3
  obtain ⟨R1, E1⟩ : ∃ R, addL (rfF w0 t0 wr0 sp0 lo0 e2 x2 y2 n3).e (scaleL mOne (rfF w1 t1 wr1 sp1 lo1 e2 x2 y2 n3).e) = R := ⟨_, rfl⟩
  obtain ⟨R2, E2⟩ : ∃ R, addL (rfF w0 t0 wr0 sp0 lo0 e2 x2 y2 n3).x (scaleL mOne (rfF w1 t1 wr1 sp1 lo1 e2 x2 y2 n3).x) = R := ⟨_, rfl⟩
  obtain ⟨R3, E3⟩ : ∃ R, addL (rfF w0 t0 wr0 sp0 lo0 e2 x2 y2 n3).y (scaleL mOne (rfF w1 t1 wr1 sp1 lo1 e2 x2 y2 n3).y) = R := ⟨_, rfl⟩
  rw [E1] at L1
  rw [E2] at L2
  rw [E3] at L3
  refine ret_gc rfl rfl ?_
  repeat' (first | refine ff ?_ | (apply EvR.aCall h1.at_; (· exact eva); (· apply h1.ok <;> exact sid); (rintro _ _ ⟨rfl, rfl⟩; refine EvR.nrm ?_; try simp only [hok, E1, E2, E3, flRes_t, flRows_t, slV])) | (apply EvR.aCall h2.at_; (· exact eva); (· apply h2.ok <;> exact sid); (rintro _ _ ⟨rfl, rfl⟩; refine EvR.nrm ?_; try simp only [hok, E1, E2, E3, flRes_t, flRows_t, slV])) | (apply EvR.aCall h3.at_; (· exact eva); (· apply h3.ok <;> exact sid); (rintro _ _ ⟨rfl, rfl⟩; refine EvR.nrm ?_; try simp only [hok, E1, E2, E3, flRes_t, flRows_t, slV])) | (apply EvR.aCall h4.at_; (· exact eva); (· apply h4.ok <;> exact sid); (rintro _ _ ⟨rfl, rfl⟩; refine EvR.nrm ?_; try simp only [hok, E1, E2, E3, flRes_t, flRows_t, slV])) | (apply EvR.aCall h8.at_; (· exact eva); (· apply h8.ok <;> exact sid); (rintro _ _ ⟨rfl, rfl⟩; refine EvR.nrm ?_; try simp only [hok, E1, E2, E3, flRes_t, flRows_t, slV])) | (apply EvR.aCall h7.at_; (· exact eva); (· apply h7.ok <;> exact sid); (rintro _ _ ⟨rfl, rfl⟩; refine EvR.nrm ?_; try simp only [hok, E1, E2, E3, flRes_t, flRows_t, slV])) | ((first | refine EvR.aSplB ?_ ?_ | refine Ev.aSplB ?_ ?_) <;> (intro hb; (try rw [hb]); (try simp only [Bool.not_eq_true', Bool.not_eq_false', Bool.not_eq_eq_eq_not, Bool.not_true, Bool.not_false, decide_eq_true_eq, decide_eq_false_iff_not, Bool.and_eq_true, Bool.and_eq_false_iff, Bool.or_eq_true, Bool.or_eq_false_iff] at hb); (try (exfalso; first | omega | exact hb trivial)))) | (apply endS trivial; rotate_left; (· exact eva); (· rfl); try refine ⟨?_, rfl⟩) | fail)
  (apply EvR.aCall h5.at_; (· exact eva); (· exact  h5.ok _ w0 t0 wr0 _ _ sp0 lo0 w1 t1 wr1 _ _ sp1 lo1 _ _ _ e2 x2 y2 n3 _ _ rfl rfl ⟨Row.ownF rfl rfl, Row.ownF rfl rfl⟩ ma0 mb0 ⟨Row.ownF rfl rfl, Row.ownF rfl rfl⟩ ma1 mb1 ⟨Row.ownF rfl rfl, Row.ownF rfl rfl, Row.ownF rfl rfl⟩ mp2 mq2 mr2); (rintro _ _ ⟨rfl, rfl⟩; refine EvR.nrm ?_))
  rw [hok, flRes_t, flRows_t, E1, E2, E3]
  refine EvR.nrm ?_
  repeat' (first | refine ff ?_ | (apply EvR.aCall h1.at_; (· exact eva); (· apply h1.ok <;> exact sid); (rintro _ _ ⟨rfl, rfl⟩; refine EvR.nrm ?_; try simp only [hok, E1, E2, E3, flRes_t, flRows_t, slV])) | (apply EvR.aCall h2.at_; (· exact eva); (· apply h2.ok <;> exact sid); (rintro _ _ ⟨rfl, rfl⟩; refine EvR.nrm ?_; try simp only [hok, E1, E2, E3, flRes_t, flRows_t, slV])) | (apply EvR.aCall h3.at_; (· exact eva); (· apply h3.ok <;> exact sid); (rintro _ _ ⟨rfl, rfl⟩; refine EvR.nrm ?_; try simp only [hok, E1, E2, E3, flRes_t, flRows_t, slV])) | (apply EvR.aCall h4.at_; (· exact eva); (· apply h4.ok <;> exact sid); (rintro _ _ ⟨rfl, rfl⟩; refine EvR.nrm ?_; try simp only [hok, E1, E2, E3, flRes_t, flRows_t, slV])) | (apply EvR.aCall h8.at_; (· exact eva); (· apply h8.ok <;> exact sid); (rintro _ _ ⟨rfl, rfl⟩; refine EvR.nrm ?_; try simp only [hok, E1, E2, E3, flRes_t, flRows_t, slV])) | (apply EvR.aCall h7.at_; (· exact eva); (· apply h7.ok <;> exact sid); (rintro _ _ ⟨rfl, rfl⟩; refine EvR.nrm ?_; try simp only [hok, E1, E2, E3, flRes_t, flRows_t, slV])) | ((first | refine EvR.aSplB ?_ ?_ | refine Ev.aSplB ?_ ?_) <;> (intro hb; (try rw [hb]); (try simp only [Bool.not_eq_true', Bool.not_eq_false', Bool.not_eq_eq_eq_not, Bool.not_true, Bool.not_false, decide_eq_true_eq, decide_eq_false_iff_not, Bool.and_eq_true, Bool.and_eq_false_iff, Bool.or_eq_true, Bool.or_eq_false_iff] at hb); (try (exfalso; first | omega | exact hb trivial)))) | (apply endS trivial; rotate_left; (· exact eva); (· rfl); try refine ⟨?_, rfl⟩) | fail)
  (apply EvR.aCall h6.at_; (· exact eva); (· exact  h6.ok _ w0 t0 wr0 _ _ sp0 lo0 w1 t1 wr1 _ _ sp1 lo1 _ _ _ e2 x2 y2 n3 _ _ rfl rfl ⟨Row.ownF rfl rfl, Row.ownF rfl rfl⟩ ma0 mb0 ⟨Row.ownF rfl rfl, Row.ownF rfl rfl⟩ ma1 mb1 ⟨Row.ownF rfl rfl, Row.ownF rfl rfl, Row.ownF rfl rfl⟩ mp2 mq2 mr2); (rintro _ _ ⟨rfl, rfl⟩; refine EvR.nrm ?_))
  rw [hok, flRes_t, flRows_t, E1, E2, E3]
  refine EvR.nrm ?_
  repeat' (first | refine ff ?_ | (apply EvR.aCall h1.at_; (· exact eva); (· apply h1.ok <;> exact sid); (rintro _ _ ⟨rfl, rfl⟩; refine EvR.nrm ?_; try simp only [hok, E1, E2, E3, flRes_t, flRows_t, slV])) | (apply EvR.aCall h2.at_; (· exact eva); (· apply h2.ok <;> exact sid); (rintro _ _ ⟨rfl, rfl⟩; refine EvR.nrm ?_; try simp only [hok, E1, E2, E3, flRes_t, flRows_t, slV])) | (apply EvR.aCall h3.at_; (· exact eva); (· apply h3.ok <;> exact sid); (rintro _ _ ⟨rfl, rfl⟩; refine EvR.nrm ?_; try simp only [hok, E1, E2, E3, flRes_t, flRows_t, slV])) | (apply EvR.aCall h4.at_; (· exact eva); (· apply h4.ok <;> exact sid); (rintro _ _ ⟨rfl, rfl⟩; refine EvR.nrm ?_; try simp only [hok, E1, E2, E3, flRes_t, flRows_t, slV])) | (apply EvR.aCall h8.at_; (· exact eva); (· apply h8.ok <;> exact sid); (rintro _ _ ⟨rfl, rfl⟩; refine EvR.nrm ?_; try simp only [hok, E1, E2, E3, flRes_t, flRows_t, slV])) | (apply EvR.aCall h7.at_; (· exact eva); (· apply h7.ok <;> exact sid); (rintro _ _ ⟨rfl, rfl⟩; refine EvR.nrm ?_; try simp only [hok, E1, E2, E3, flRes_t, flRows_t, slV])) | ((first | refine EvR.aSplB ?_ ?_ | refine Ev.aSplB ?_ ?_) <;> (intro hb; (try rw [hb]); (try simp only [Bool.not_eq_true', Bool.not_eq_false', Bool.not_eq_eq_eq_not, Bool.not_true, Bool.not_false, decide_eq_true_eq, decide_eq_false_iff_not, Bool.and_eq_true, Bool.and_eq_false_iff, Bool.or_eq_true, Bool.or_eq_false_iff] at hb); (try (exfalso; first | omega | exact hb trivial)))) | (apply endS trivial; rotate_left; (· exact eva); (· rfl); try refine ⟨?_, rfl⟩) | fail)
  (apply EvR.aCall h9.at_; (· exact eva); (· exact  h9.ok.2 _ _ _ _ _ _ sp0 lo0 _ (by omega) (hget _ _ 14) (hget _ _ 15) ma0 mb0 (by omega) (by omega)); (rintro _ _ ⟨rfl, rfl⟩; refine EvR.nrm ?_))
  repeat' (first | refine ff ?_ | ((first | refine EvR.aSplB ?_ ?_ | refine Ev.aSplB ?_ ?_) <;> (intro hb; (try rw [hb]); (try simp only [Bool.not_eq_true', Bool.not_eq_false', Bool.not_eq_eq_eq_not, Bool.not_true, Bool.not_false, decide_eq_true_eq, decide_eq_false_iff_not, Bool.and_eq_true, Bool.and_eq_false_iff, Bool.or_eq_true, Bool.or_eq_false_iff] at hb); (try (exfalso; first | omega | exact hb trivial)))) | (apply endS trivial; rotate_left; (· exact eva); (· rfl); try refine ⟨?_, rfl⟩) | fail)
  (apply EvR.aCall h9.at_; (· exact eva); (· exact  h9.ok.2 _ _ _ _ _ _ sp1 lo1 _ (by omega) (hget _ _ 17) (hget _ _ 18) ma1 mb1 (by omega) (by omega)); (rintro _ _ ⟨rfl, rfl⟩; refine EvR.nrm ?_))
  repeat' (first | refine ff ?_ | ((first | refine EvR.aSplB ?_ ?_ | refine Ev.aSplB ?_ ?_) <;> (intro hb; (try rw [hb]); (try simp only [Bool.not_eq_true', Bool.not_eq_false', Bool.not_eq_eq_eq_not, Bool.not_true, Bool.not_false, decide_eq_true_eq, decide_eq_false_iff_not, Bool.and_eq_true, Bool.and_eq_false_iff, Bool.or_eq_true, Bool.or_eq_false_iff] at hb); (try (exfalso; first | omega | exact hb trivial)))) | (apply endS trivial; rotate_left; (· exact eva); (· rfl); try refine ⟨?_, rfl⟩) | fail)
  (apply EvR.aCall h10.at_; (· exact eva); (· exact  h10.ok.2 _ _ _ _ e2 x2 y2 _ _ _ _ rfl rfl rfl (by omega) (by omega) (by omega) (hget _ _ 20) (hget _ _ 21) (hget _ _ 22) mp2 mq2 mr2 (by omega) (by omega)); (rintro _ _ ⟨rfl, rfl⟩; refine EvR.nrm ?_))
  repeat' (first | refine ff ?_ | (apply EvR.aCall h1.at_; (· exact eva); (· apply h1.ok <;> exact sid); (rintro _ _ ⟨rfl, rfl⟩; refine EvR.nrm ?_; try simp only [hok, E1, E2, E3, flRes_t, flRows_t, slV])) | (apply EvR.aCall h2.at_; (· exact eva); (· apply h2.ok <;> exact sid); (rintro _ _ ⟨rfl, rfl⟩; refine EvR.nrm ?_; try simp only [hok, E1, E2, E3, flRes_t, flRows_t, slV])) | (apply EvR.aCall h3.at_; (· exact eva); (· apply h3.ok <;> exact sid); (rintro _ _ ⟨rfl, rfl⟩; refine EvR.nrm ?_; try simp only [hok, E1, E2, E3, flRes_t, flRows_t, slV])) | (apply EvR.aCall h4.at_; (· exact eva); (· apply h4.ok <;> exact sid); (rintro _ _ ⟨rfl, rfl⟩; refine EvR.nrm ?_; try simp only [hok, E1, E2, E3, flRes_t, flRows_t, slV])) | (apply EvR.aCall h8.at_; (· exact eva); (· apply h8.ok <;> exact sid); (rintro _ _ ⟨rfl, rfl⟩; refine EvR.nrm ?_; try simp only [hok, E1, E2, E3, flRes_t, flRows_t, slV])) | (apply EvR.aCall h7.at_; (· exact eva); (· apply h7.ok <;> exact sid); (rintro _ _ ⟨rfl, rfl⟩; refine EvR.nrm ?_; try simp only [hok, E1, E2, E3, flRes_t, flRows_t, slV])) | ((first | refine EvR.aSplB ?_ ?_ | refine Ev.aSplB ?_ ?_) <;> (intro hb; (try rw [hb]); (try simp only [Bool.not_eq_true', Bool.not_eq_false', Bool.not_eq_eq_eq_not, Bool.not_true, Bool.not_false, decide_eq_true_eq, decide_eq_false_iff_not, Bool.and_eq_true, Bool.and_eq_false_iff, Bool.or_eq_true, Bool.or_eq_false_iff] at hb); (try (exfalso; first | omega | exact hb trivial)))) | (apply endS trivial; rotate_left; (· exact eva); (· rfl); try refine ⟨?_, rfl⟩) | fail)
  (apply EvR.aCall h10.at_; (· exact eva); (· exact  h10.ok.2 _ _ _ _ R1 R2 R3 _ _ _ 1 rfl rfl rfl (by omega) (by omega) (by omega) (hget _ _ 24) (hget _ _ 25) (hget _ _ 26) L1 L2 L3 (by omega) (by omega)); (rintro _ _ ⟨rfl, rfl⟩; refine EvR.nrm ?_))
  repeat' (first | refine ff ?_ | ((first | refine EvR.aSplB ?_ ?_ | refine Ev.aSplB ?_ ?_) <;> (intro hb; (try rw [hb]); (try simp only [Bool.not_eq_true', Bool.not_eq_false', Bool.not_eq_eq_eq_not, Bool.not_true, Bool.not_false, decide_eq_true_eq, decide_eq_false_iff_not, Bool.and_eq_true, Bool.and_eq_false_iff, Bool.or_eq_true, Bool.or_eq_false_iff] at hb); (try (exfalso; first | omega | exact hb trivial)))) | (apply endS trivial; rotate_left; (· exact eva); (· rfl); try refine ⟨?_, rfl⟩) | fail)
  (apply EvR.aCall h11.at_; (· exact eva); (· exact  h11.ok _ _ _ _ R1.length R2.length R3.length 1 (Row.own rfl (by omega) (by rw [f32s_length, marks_length]; omega)) (Row.own rfl (by omega) (by rw [f32s_length, marks_length]; omega)) (Row.own rfl (by omega) (by rw [f32s_length, marks_length]; omega)) L1 L2 L3 (by omega) (by omega)); (rintro _ _ ⟨rfl, rfl⟩; refine EvR.nrm ?_))
  repeat' (first | refine ff ?_ | (apply EvR.aCall h1.at_; (· exact eva); (· apply h1.ok <;> exact sid); (rintro _ _ ⟨rfl, rfl⟩; refine EvR.nrm ?_; try simp only [hok, E1, E2, E3, flRes_t, flRows_t, slV])) | (apply EvR.aCall h2.at_; (· exact eva); (· apply h2.ok <;> exact sid); (rintro _ _ ⟨rfl, rfl⟩; refine EvR.nrm ?_; try simp only [hok, E1, E2, E3, flRes_t, flRows_t, slV])) | (apply EvR.aCall h3.at_; (· exact eva); (· apply h3.ok <;> exact sid); (rintro _ _ ⟨rfl, rfl⟩; refine EvR.nrm ?_; try simp only [hok, E1, E2, E3, flRes_t, flRows_t, slV])) | (apply EvR.aCall h4.at_; (· exact eva); (· apply h4.ok <;> exact sid); (rintro _ _ ⟨rfl, rfl⟩; refine EvR.nrm ?_; try simp only [hok, E1, E2, E3, flRes_t, flRows_t, slV])) | (apply EvR.aCall h8.at_; (· exact eva); (· apply h8.ok <;> exact sid); (rintro _ _ ⟨rfl, rfl⟩; refine EvR.nrm ?_; try simp only [hok, E1, E2, E3, flRes_t, flRows_t, slV])) | (apply EvR.aCall h7.at_; (· exact eva); (· apply h7.ok <;> exact sid); (rintro _ _ ⟨rfl, rfl⟩; refine EvR.nrm ?_; try simp only [hok, E1, E2, E3, flRes_t, flRows_t, slV])) | ((first | refine EvR.aSplB ?_ ?_ | refine Ev.aSplB ?_ ?_) <;> (intro hb; (try rw [hb]); (try simp only [Bool.not_eq_true', Bool.not_eq_false', Bool.not_eq_eq_eq_not, Bool.not_true, Bool.not_false, decide_eq_true_eq, decide_eq_false_iff_not, Bool.and_eq_true, Bool.and_eq_false_iff, Bool.or_eq_true, Bool.or_eq_false_iff] at hb); (try (exfalso; first | omega | exact hb trivial)))) | (apply endS trivial; rotate_left; (· exact eva); (· rfl); try refine ⟨?_, rfl⟩) | fail)
  (apply EvR.aCall h6.at_; (· exact eva); (· exact  h6.ok _ w0 t0 wr0 _ _ sp0 lo0 w1 t1 wr1 _ _ sp1 lo1 _ _ _ e2 x2 y2 n3 _ _ rfl rfl ⟨Row.ownF rfl rfl, Row.ownF rfl rfl⟩ ma0 mb0 ⟨Row.ownF rfl rfl, Row.ownF rfl rfl⟩ ma1 mb1 ⟨Row.ownF rfl rfl, Row.ownF rfl rfl, Row.ownF rfl rfl⟩ mp2 mq2 mr2); (rintro _ _ ⟨rfl, rfl⟩; refine EvR.nrm ?_))
  rw [hok, flRes_t, flRows_t, E1, E2, E3]
  refine EvR.nrm ?_
  repeat' (first | refine ff ?_ | (apply EvR.aCall h1.at_; (· exact eva); (· apply h1.ok <;> exact sid); (rintro _ _ ⟨rfl, rfl⟩; refine EvR.nrm ?_; try simp only [hok, E1, E2, E3, flRes_t, flRows_t, slV])) | (apply EvR.aCall h2.at_; (· exact eva); (· apply h2.ok <;> exact sid); (rintro _ _ ⟨rfl, rfl⟩; refine EvR.nrm ?_; try simp only [hok, E1, E2, E3, flRes_t, flRows_t, slV])) | (apply EvR.aCall h3.at_; (· exact eva); (· apply h3.ok <;> exact sid); (rintro _ _ ⟨rfl, rfl⟩; refine EvR.nrm ?_; try simp only [hok, E1, E2, E3, flRes_t, flRows_t, slV])) | (apply EvR.aCall h4.at_; (· exact eva); (· apply h4.ok <;> exact sid); (rintro _ _ ⟨rfl, rfl⟩; refine EvR.nrm ?_; try simp only [hok, E1, E2, E3, flRes_t, flRows_t, slV])) | (apply EvR.aCall h8.at_; (· exact eva); (· apply h8.ok <;> exact sid); (rintro _ _ ⟨rfl, rfl⟩; refine EvR.nrm ?_; try simp only [hok, E1, E2, E3, flRes_t, flRows_t, slV])) | (apply EvR.aCall h7.at_; (· exact eva); (· apply h7.ok <;> exact sid); (rintro _ _ ⟨rfl, rfl⟩; refine EvR.nrm ?_; try simp only [hok, E1, E2, E3, flRes_t, flRows_t, slV])) | ((first | refine EvR.aSplB ?_ ?_ | refine Ev.aSplB ?_ ?_) <;> (intro hb; (try rw [hb]); (try simp only [Bool.not_eq_true', Bool.not_eq_false', Bool.not_eq_eq_eq_not, Bool.not_true, Bool.not_false, decide_eq_true_eq, decide_eq_false_iff_not, Bool.and_eq_true, Bool.and_eq_false_iff, Bool.or_eq_true, Bool.or_eq_false_iff] at hb); (try (exfalso; first | omega | exact hb trivial)))) | (apply endS trivial; rotate_left; (· exact eva); (· rfl); try refine ⟨?_, rfl⟩) | fail)
  (apply EvR.aCall h11.at_; (· exact eva); (· exact  h11.ok _ _ _ _ R1.length R2.length R3.length 1 (Row.own rfl (by omega) (by rw [f32s_length, marks_length]; omega)) (Row.own rfl (by omega) (by rw [f32s_length, marks_length]; omega)) (Row.own rfl (by omega) (by rw [f32s_length, marks_length]; omega)) L1 L2 L3 (by omega) (by omega)); (rintro _ _ ⟨rfl, rfl⟩; refine EvR.nrm ?_))
  repeat' (first | refine ff ?_ | ((first | refine EvR.aSplB ?_ ?_ | refine Ev.aSplB ?_ ?_) <;> (intro hb; (try rw [hb]); (try simp only [Bool.not_eq_true', Bool.not_eq_false', Bool.not_eq_eq_eq_not, Bool.not_true, Bool.not_false, decide_eq_true_eq, decide_eq_false_iff_not, Bool.and_eq_true, Bool.and_eq_false_iff, Bool.or_eq_true, Bool.or_eq_false_iff] at hb); (try (exfalso; first | omega | exact hb trivial)))) | (apply endS trivial; rotate_left; (· exact eva); (· rfl); try refine ⟨?_, rfl⟩) | fail)
  rfl

theorem laws_FnExactScatterField_law {C : Ctab} {i1 i2 i3 i4 i5 i6 i7 i8 i9 i10 i11 : FuncId} {c1 c2 c3 c4 c5 c6 c7 c8 c9 c10 c11 : Contract} (h1 : Has C i1 c1 laws_szSheet_ok) (h2 : Has C i2 c2 laws_szField_ok) (h3 : Has C i3 c3 laws_toSheet_ok) (h4 : Has C i4 c4 laws_toField_ok) (h5 : Has C i5 c5 spec_ScatterField_ok) (h6 : Has C i6 c6 impl_ScatterField_ok) (h7 : Has C i7 c7 laws_eqField_ok) (h8 : Has C i8 c8 laws_eqSheet_ok) (h9 : HasW C i9 c9 laws_markSheet_ok) (h10 : HasW C i10 c10 laws_markField_ok) (h11 : Has C i11 c11 laws_heldField_ok) : laws_FnExactScatterField_ok (gcC C (laws_FnExactScatterField i1 i2 i3 i4 i5 i6 i7 i8 i9 i10 i11) true) := by
  intro σ avs hh
  match avs, hh with
  | [v0, v1, v2, v3], ⟨g0, g1, g2, g3, _⟩ =>
    obtain ⟨w0, t0, wr0, sv0, lv0, sp0, lo0, rfl, ⟨a0, b0⟩, ha0, hb0, _, _⟩ := sheet_abs g0
    obtain ⟨w1, t1, wr1, sv1, lv1, sp1, lo1, rfl, ⟨a1, b1⟩, ha1, hb1, _, _⟩ := sheet_abs g1
    obtain ⟨ev2, xv2, yv2, e2, x2, y2, rfl, ⟨p2, q2, r2⟩, hp2, hq2, hr2⟩ := field_abs g2
    obtain ⟨n3, rfl, hi3⟩ := int_abs g3
    have z0 := szSheet_fact sp0 lo0 (1048576) (by omega)
    cases y0_ : decide (szSheet sp0 lo0 1048576 < 0)
    case true =>
      have hz0 := of_decide_eq_true y0_
      refine ret_gc rfl rfl ?_
      repeat' (first | refine ff ?_ | (apply EvR.aCall h1.at_; (· exact eva); (· apply h1.ok <;> exact sid); (rintro _ _ ⟨rfl, rfl⟩; refine EvR.nrm ?_; try simp only [y0_])) | (apply EvR.aCall h2.at_; (· exact eva); (· apply h2.ok <;> exact sid); (rintro _ _ ⟨rfl, rfl⟩; refine EvR.nrm ?_; try simp only [y0_])) | ((first | refine EvR.aSplB ?_ ?_ | refine Ev.aSplB ?_ ?_) <;> (intro hb; (try rw [hb]); (try simp only [Bool.not_eq_true', Bool.not_eq_false', Bool.not_eq_eq_eq_not, Bool.not_true, Bool.not_false, decide_eq_true_eq, decide_eq_false_iff_not, Bool.and_eq_true, Bool.and_eq_false_iff, Bool.or_eq_true, Bool.or_eq_false_iff] at hb); (try (exfalso; first | omega | exact hb trivial)))) | (apply endS trivial; rotate_left; (· exact eva); (· rfl); try refine ⟨?_, rfl⟩) | fail)
      all_goals rfl
    have hz0 := of_decide_eq_false y0_
    have z1 := szSheet_fact sp1 lo1 (szSheet sp0 lo0 1048576) (by omega)
    cases y1_ : decide (szSheet sp1 lo1 (szSheet sp0 lo0 1048576) < 0)
    case true =>
      have hz1 := of_decide_eq_true y1_
      refine ret_gc rfl rfl ?_
      repeat' (first | refine ff ?_ | (apply EvR.aCall h1.at_; (· exact eva); (· apply h1.ok <;> exact sid); (rintro _ _ ⟨rfl, rfl⟩; refine EvR.nrm ?_; try simp only [y0_, y1_])) | (apply EvR.aCall h2.at_; (· exact eva); (· apply h2.ok <;> exact sid); (rintro _ _ ⟨rfl, rfl⟩; refine EvR.nrm ?_; try simp only [y0_, y1_])) | ((first | refine EvR.aSplB ?_ ?_ | refine Ev.aSplB ?_ ?_) <;> (intro hb; (try rw [hb]); (try simp only [Bool.not_eq_true', Bool.not_eq_false', Bool.not_eq_eq_eq_not, Bool.not_true, Bool.not_false, decide_eq_true_eq, decide_eq_false_iff_not, Bool.and_eq_true, Bool.and_eq_false_iff, Bool.or_eq_true, Bool.or_eq_false_iff] at hb); (try (exfalso; first | omega | exact hb trivial)))) | (apply endS trivial; rotate_left; (· exact eva); (· rfl); try refine ⟨?_, rfl⟩) | fail)
      all_goals rfl
    have hz1 := of_decide_eq_false y1_
    have z2 := szField_fact e2 x2 y2 (szSheet sp1 lo1 (szSheet sp0 lo0 1048576)) (by omega)
    cases y2_ : decide (szAll [e2.length, x2.length, y2.length] (szSheet sp1 lo1 (szSheet sp0 lo0 1048576)) < 0)
    case true =>
      have hz2 := of_decide_eq_true y2_
      refine ret_gc rfl rfl ?_
      repeat' (first | refine ff ?_ | (apply EvR.aCall h1.at_; (· exact eva); (· apply h1.ok <;> exact sid); (rintro _ _ ⟨rfl, rfl⟩; refine EvR.nrm ?_; try simp only [y0_, y1_, y2_])) | (apply EvR.aCall h2.at_; (· exact eva); (· apply h2.ok <;> exact sid); (rintro _ _ ⟨rfl, rfl⟩; refine EvR.nrm ?_; try simp only [y0_, y1_, y2_])) | ((first | refine EvR.aSplB ?_ ?_ | refine Ev.aSplB ?_ ?_) <;> (intro hb; (try rw [hb]); (try simp only [Bool.not_eq_true', Bool.not_eq_false', Bool.not_eq_eq_eq_not, Bool.not_true, Bool.not_false, decide_eq_true_eq, decide_eq_false_iff_not, Bool.and_eq_true, Bool.and_eq_false_iff, Bool.or_eq_true, Bool.or_eq_false_iff] at hb); (try (exfalso; first | omega | exact hb trivial)))) | (apply endS trivial; rotate_left; (· exact eva); (· rfl); try refine ⟨?_, rfl⟩) | fail)
      all_goals rfl
    have hz2 := of_decide_eq_false y2_
    cases hok : sfOk w0 t0 wr0 sp0 lo0 w1 t1 wr1 sp1 lo1 e2 x2 y2 n3 (rfF w0 t0 wr0 sp0 lo0 e2 x2 y2 n3) (rfF w1 t1 wr1 sp1 lo1 e2 x2 y2 n3)
    · exact rowScatterField_f h1 h2 h3 h4 h5 h6 h7 h8 h9 h10 h11 σ w0 t0 wr0 sv0 lv0 sp0 lo0 w1 t1 wr1 sv1 lv1 sp1 lo1 ev2 xv2 yv2 e2 x2 y2 n3 hi3 a0 b0 a1 b1 p2 q2 r2 ha0 hb0 ha1 hb1 hp2 hq2 hr2 hz0 hz1 hz2 hok
    · exact rowScatterField_t h1 h2 h3 h4 h5 h6 h7 h8 h9 h10 h11 σ w0 t0 wr0 sv0 lv0 sp0 lo0 w1 t1 wr1 sv1 lv1 sp1 lo1 ev2 xv2 yv2 e2 x2 y2 n3 hi3 a0 b0 a1 b1 p2 q2 r2 ha0 hb0 ha1 hb1 hp2 hq2 hr2 hz0 hz1 hz2 hok
end Go.Abs


