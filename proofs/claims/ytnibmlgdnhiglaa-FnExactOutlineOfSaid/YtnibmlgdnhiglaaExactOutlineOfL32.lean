/- Laws of functions: cells by a predicate; outlines, by the program and by the reference. Conditions: the laws of what they call. -/
import Derived.Test.YtnibmlgdnhiglaaExactOutlineOfL30
import Derived.Test.YtnibmlgdnhiglaaExactOutlineOfL31
import Derived.Test.YtnibmlgdnhiglaaWvX2
namespace Go.Abs

set_option linter.unusedSimpArgs false
set_option linter.unusedVariables false
set_option maxHeartbeats 8000000
/- loop.example/g01201/impl.cellsBy -/
def impl_cellsBy_r0 : List SOper := [
  ⟨(some 2), none, .box (.tmp 0), 0⟩,
  ⟨(some 4), none, .mov (.const (.slice none 0 0)), 0⟩]
def impl_cellsBy_r1 : List SOper := [
  ⟨(some 8), none, .buildSlice 1 0 [] [], 0⟩,
  ⟨(some 5), none, .mov (.tmp 8), 1⟩]
def impl_cellsBy_r2 : List SOper := [
  ⟨(some 9), none, .fieldAddr 1 (.tmp 2), 0⟩,
  ⟨(some 10), none, .load1 (.tmp 9), 1⟩,
  ⟨(some 11), none, .mov (.const (.int .i64 0)), 0⟩]
def impl_cellsBy_r3 : List SOper := [
  ⟨(some 12), none, .bin .lss .other (.tmp 11) (.tmp 10), 0⟩]
def impl_cellsBy_r4 : List SOper := [
  ⟨(some 13), none, .mov (.tmp 11), 0⟩,
  ⟨(some 6), none, .mov (.tmp 13), 1⟩]
def impl_cellsBy_r5 : List SOper := [
  ⟨(some 14), none, .fieldAddr 0 (.tmp 2), 0⟩,
  ⟨(some 15), none, .load1 (.tmp 14), 1⟩,
  ⟨(some 16), none, .mov (.const (.int .i64 0)), 0⟩]
def impl_cellsBy_r6 : List SOper := [
  ⟨(some 17), none, .bin .lss .other (.tmp 16) (.tmp 15), 0⟩]
def impl_cellsBy_r7 : List SOper := [
  ⟨(some 18), none, .mov (.tmp 16), 0⟩,
  ⟨(some 7), none, .mov (.tmp 18), 1⟩]
def impl_cellsBy_r8 : List SOper := [
  ⟨(some 19), none, .mov (.tmp 1), 0⟩,
  ⟨(some 20), none, .mov (.tmp 7), 0⟩,
  ⟨(some 21), none, .mov (.tmp 6), 0⟩,
  ⟨(some 22), none, .call (.tmp 19) [(.tmp 20), (.tmp 21)], 7⟩]
def impl_cellsBy_r9 (i_impl_Sheet_at : FuncId) : List SOper := [
  ⟨(some 23), none, .mov (.tmp 5), 0⟩,
  ⟨(some 24), none, .loadN 5 (.tmp 2), 0⟩,
  ⟨(some 25), none, .mov (.tmp 7), 0⟩,
  ⟨(some 26), none, .mov (.tmp 6), 0⟩,
  ⟨(some 27), none, .call (.func i_impl_Sheet_at) [(.tmp 24), (.tmp 25), (.tmp 26)], 14⟩,
  ⟨(some 28), none, .buildSlice 1 1 [(.int .i64 0)] [(0, 1, (.tmp 27))], 30⟩,
  ⟨(some 29), none, .append 1 8 (.tmp 23) (.tmp 28), 63⟩,
  ⟨(some 5), none, .mov (.tmp 29), 127⟩]
def impl_cellsBy_r10 : List SOper := [
  ⟨(some 30), none, .bin .add .other (.tmp 16) (.const (.int .i64 1)), 0⟩,
  ⟨(some 16), none, .mov (.tmp 30), 1⟩]
def impl_cellsBy_l11 (i_impl_Sheet_at : FuncId) : SCode := (.kp [1, 2, 5, 6, 10, 11, 15, 16] (.seq (.region impl_cellsBy_r6 false) (.kp [1, 2, 5, 6, 10, 11, 15, 16, 17] (.seq (.cond (.tmp 17) .skip (.exit 2)) (.kp [1, 2, 5, 6, 10, 11, 15, 16] (.seq (.block 3 (.seq (.region impl_cellsBy_r7 false) (.kp [1, 2, 5, 6, 7, 10, 11, 15, 16] (.seq (.region impl_cellsBy_r8 false) (.kp [1, 2, 5, 6, 7, 10, 11, 15, 16, 22] (.cond (.tmp 22) (.region (impl_cellsBy_r9 i_impl_Sheet_at) false) .skip)))))) (.kp [1, 2, 5, 6, 10, 11, 15, 16] (.region impl_cellsBy_r10 false))))))))
def impl_cellsBy_r12 : List SOper := [
  ⟨(some 31), none, .bin .add .other (.tmp 11) (.const (.int .i64 1)), 0⟩,
  ⟨(some 11), none, .mov (.tmp 31), 1⟩]
def impl_cellsBy_l13 (i_impl_Sheet_at : FuncId) : SCode := (.kp [1, 2, 5, 10, 11] (.seq (.region impl_cellsBy_r3 false) (.kp [1, 2, 5, 10, 11, 12] (.seq (.cond (.tmp 12) .skip (.exit 0)) (.kp [1, 2, 5, 10, 11] (.seq (.block 1 (.seq (.region impl_cellsBy_r4 false) (.kp [1, 2, 5, 6, 10, 11] (.seq (.region impl_cellsBy_r5 false) (.kp [1, 2, 5, 6, 10, 11, 15, 16] (.block 2 (.loop (impl_cellsBy_l11 i_impl_Sheet_at)))))))) (.kp [1, 2, 5, 10, 11] (.region impl_cellsBy_r12 false))))))))
def impl_cellsBy_r14 : List SOper := [
  ⟨(some 32), none, .mov (.tmp 5), 0⟩,
  ⟨(some 4), none, .mov (.tmp 32), 1⟩]
def impl_cellsBy (i_impl_Sheet_at : FuncId) : SFunc := ⟨33, [.tmp 4], (.kp [0, 1] (.seq (.region impl_cellsBy_r0 false) (.kp [1, 2] (.seq (.region impl_cellsBy_r1 false) (.kp [1, 2, 5] (.seq (.seq (.region impl_cellsBy_r2 false) (.kp [1, 2, 5, 10, 11] (.block 0 (.loop (impl_cellsBy_l13 i_impl_Sheet_at))))) (.kp [5] (.seq (.region impl_cellsBy_r14 false) .ret))))))))⟩

/- loop.example/g01201/impl.OutlineOf$1 -/
def impl_OutlineOfC1_r0 : List SOper := [
  ⟨(some 5), none, .mov (.const (.bool false)), 0⟩]
def impl_OutlineOfC1_r1 : List SOper := [
  ⟨(some 10), none, .build [(.int .i64 0), (.int .i64 0)] [(0, 1, (.const (.int .i64 1))), (1, 1, (.const (.int .i64 0)))], 0⟩,
  ⟨(some 11), none, .build [(.int .i64 0), (.int .i64 0)] [(0, 1, (.const (.int .i64 (-1)))), (1, 1, (.const (.int .i64 0)))], 0⟩,
  ⟨(some 12), none, .build [(.int .i64 0), (.int .i64 0)] [(0, 1, (.const (.int .i64 0))), (1, 1, (.const (.int .i64 1)))], 0⟩,
  ⟨(some 13), none, .build [(.int .i64 0), (.int .i64 0)] [(0, 1, (.const (.int .i64 0))), (1, 1, (.const (.int .i64 (-1))))], 0⟩,
  ⟨(some 14), none, .build [(.int .i64 0), (.int .i64 0), (.int .i64 0), (.int .i64 0), (.int .i64 0), (.int .i64 0), (.int .i64 0), (.int .i64 0)] [(0, 2, (.tmp 10)), (2, 2, (.tmp 11)), (4, 2, (.tmp 12)), (6, 2, (.tmp 13))], 15⟩,
  ⟨(some 15), none, .mov (.const (.int .i64 0)), 0⟩]
def impl_OutlineOfC1_r2 : List SOper := [
  ⟨(some 16), none, .bin .lss .other (.tmp 15) (.const (.int .i64 4)), 0⟩]
def impl_OutlineOfC1_r3 : List SOper := [
  ⟨(some 17), none, .indexN 4 2 (.tmp 14) (.tmp 15), 0⟩,
  ⟨(some 7), none, .alloc [(.int .i64 0), (.int .i64 0)], 0⟩,
  ⟨none, none, .store 2 (.tmp 7) (.tmp 17), 3⟩]
def impl_OutlineOfC1_r4 : List SOper := [
  ⟨(some 18), none, .mov (.tmp 0), 0⟩,
  ⟨(some 19), none, .indexAddrA 2 1 (.tmp 7) (.const (.int .i64 0)), 0⟩,
  ⟨(some 20), none, .load1 (.tmp 19), 2⟩,
  ⟨(some 21), none, .bin .add .other (.tmp 18) (.tmp 20), 7⟩,
  ⟨(some 22), none, .mov (.tmp 1), 0⟩,
  ⟨(some 23), none, .indexAddrA 2 1 (.tmp 7) (.const (.int .i64 1)), 0⟩,
  ⟨(some 24), none, .load1 (.tmp 23), 32⟩,
  ⟨(some 25), none, .bin .add .other (.tmp 22) (.tmp 24), 112⟩,
  ⟨(some 8), none, .mov (.tmp 21), 15⟩,
  ⟨(some 9), none, .mov (.tmp 25), 511⟩]
def impl_OutlineOfC1_r5 (i_impl_Sheet_isCell i_impl_Sheet_at : FuncId) : List SOper := [
  ⟨(some 26), none, .fieldAddr 2 (.tmp 2), 0⟩,
  ⟨(some 27), none, .load1 (.tmp 26), 1⟩,
  ⟨(some 28), none, .mov (.tmp 27), 3⟩,
  ⟨(some 29), (some (28, false)), .loadN 5 (.tmp 2), 7⟩,
  ⟨(some 30), (some (28, false)), .mov (.tmp 8), 7⟩,
  ⟨(some 31), (some (28, false)), .mov (.tmp 9), 7⟩,
  ⟨(some 32), (some (28, false)), .call (.func i_impl_Sheet_isCell) [(.tmp 29), (.tmp 30), (.tmp 31)], 63⟩,
  ⟨(some 33), none, .pick (.tmp 28) (.const (.bool true)) (.tmp 32), 127⟩,
  ⟨(some 34), none, .mov (.tmp 33), 255⟩,
  ⟨(some 35), (some (34, true)), .fieldAddr 3 (.tmp 2), 511⟩,
  ⟨(some 36), (some (34, true)), .load1 (.tmp 35), 1023⟩,
  ⟨(some 37), (some (34, true)), .loadN 5 (.tmp 2), 511⟩,
  ⟨(some 38), (some (34, true)), .mov (.tmp 8), 511⟩,
  ⟨(some 39), (some (34, true)), .mov (.tmp 9), 511⟩,
  ⟨(some 40), (some (34, true)), .call (.func i_impl_Sheet_at) [(.tmp 37), (.tmp 38), (.tmp 39)], 14847⟩,
  ⟨(some 41), (some (34, true)), .indexAddrS 1 (.tmp 36) (.tmp 40), 32767⟩,
  ⟨(some 42), (some (34, true)), .load1 (.tmp 41), 65535⟩,
  ⟨(some 43), (some (34, true)), .fieldAddr 3 (.tmp 2), 511⟩,
  ⟨(some 44), (some (34, true)), .load1 (.tmp 43), 131583⟩,
  ⟨(some 45), (some (34, true)), .loadN 5 (.tmp 2), 511⟩,
  ⟨(some 46), (some (34, true)), .mov (.tmp 0), 511⟩,
  ⟨(some 47), (some (34, true)), .mov (.tmp 1), 511⟩,
  ⟨(some 48), (some (34, true)), .call (.func i_impl_Sheet_at) [(.tmp 45), (.tmp 46), (.tmp 47)], 3701247⟩,
  ⟨(some 49), (some (34, true)), .indexAddrS 1 (.tmp 44) (.tmp 48), 8288767⟩,
  ⟨(some 50), (some (34, true)), .load1 (.tmp 49), 16677375⟩,
  ⟨(some 51), (some (34, true)), .bin .neq .other (.tmp 42) (.tmp 50), 33554431⟩,
  ⟨(some 52), none, .pick (.tmp 34) (.tmp 51) (.const (.bool false)), 67108863⟩]
def impl_OutlineOfC1_r6 : List SOper := [
  ⟨(some 5), none, .mov (.const (.bool true)), 0⟩]
def impl_OutlineOfC1_r7 : List SOper := [
  ⟨(some 53), none, .bin .add .other (.tmp 15) (.const (.int .i64 1)), 0⟩,
  ⟨(some 15), none, .mov (.tmp 53), 1⟩]
def impl_OutlineOfC1_l8 (i_impl_Sheet_isCell i_impl_Sheet_at : FuncId) : SCode := (.kp [0, 1, 2, 14, 15] (.seq (.region impl_OutlineOfC1_r2 false) (.kp [0, 1, 2, 14, 15, 16] (.seq (.cond (.tmp 16) .skip (.exit 0)) (.kp [0, 1, 2, 14, 15] (.seq (.block 1 (.seq (.region impl_OutlineOfC1_r3 false) (.kp [0, 1, 2, 7, 14, 15] (.seq (.region impl_OutlineOfC1_r4 true) (.kp [0, 1, 2, 8, 9, 14, 15] (.seq (.region (impl_OutlineOfC1_r5 i_impl_Sheet_isCell i_impl_Sheet_at) true) (.kp [0, 1, 2, 14, 15, 52] (.cond (.tmp 52) (.seq (.region impl_OutlineOfC1_r6 false) .ret) .skip)))))))) (.kp [0, 1, 2, 14, 15] (.region impl_OutlineOfC1_r7 false))))))))
def impl_OutlineOfC1_r9 : List SOper := [
  ⟨(some 5), none, .mov (.const (.bool false)), 0⟩]
def impl_OutlineOfC1 (i_impl_Sheet_isCell i_impl_Sheet_at : FuncId) : SFunc := ⟨54, [.tmp 5], (.kp [0, 1, 2] (.seq (.region impl_OutlineOfC1_r0 false) (.kp [0, 1, 2] (.seq (.seq (.region impl_OutlineOfC1_r1 false) (.kp [0, 1, 2, 14, 15] (.block 0 (.loop (impl_OutlineOfC1_l8 i_impl_Sheet_isCell i_impl_Sheet_at))))) (.kp [] (.seq (.region impl_OutlineOfC1_r9 false) .ret))))))⟩
theorem impl_OutlineOfC1_r4_dr : drawOkW wStat impl_OutlineOfC1_r4 = true := by kernel_rfl
attribute [push_cast] impl_OutlineOfC1_r4_dr
theorem impl_OutlineOfC1_r5_dr {i_impl_Sheet_isCell i_impl_Sheet_at : FuncId} : drawOkW wStat (impl_OutlineOfC1_r5 i_impl_Sheet_isCell i_impl_Sheet_at) = true := by kernel_rfl
attribute [push_cast] impl_OutlineOfC1_r5_dr
/- loop.example/g01201/impl.OutlineOf -/
def impl_OutlineOf_r0 : List SOper := [
  ⟨(some 1), none, .box (.tmp 0), 0⟩,
  ⟨(some 2), none, .mov (.const (.slice none 0 0)), 0⟩,
  ⟨(some 3), none, .mov (.const (.bool false)), 2⟩]
def impl_OutlineOf_r1 (i_impl_ValidSheet : FuncId) : List SOper := [
  ⟨(some 4), none, .loadN 5 (.tmp 1), 0⟩,
  ⟨(some 5), none, .call (.func i_impl_ValidSheet) [(.tmp 4)], 1⟩,
  ⟨(some 6), none, .un .not (.tmp 5), 3⟩]
def impl_OutlineOf_r2 : List SOper := [
  ⟨(some 2), none, .mov (.const (.slice none 0 0)), 0⟩,
  ⟨(some 3), none, .mov (.const (.bool false)), 1⟩]
def impl_OutlineOf_r3 (i_impl_OutlineOfC1 i_impl_cellsBy : FuncId) : List SOper := [
  ⟨(some 7), none, .loadN 5 (.tmp 1), 0⟩,
  ⟨(some 8), none, .makeFunc i_impl_OutlineOfC1 [] [(.tmp 1)], 0⟩,
  ⟨(some 9), none, .call (.func i_impl_cellsBy) [(.tmp 7), (.tmp 8)], 3⟩,
  ⟨(some 2), none, .mov (.tmp 9), 7⟩,
  ⟨(some 3), none, .mov (.const (.bool true)), 15⟩]
def impl_OutlineOf (i_impl_ValidSheet i_impl_OutlineOfC1 i_impl_cellsBy : FuncId) : SFunc := ⟨10, [.tmp 2, .tmp 3], (.kp [0] (.seq (.region impl_OutlineOf_r0 false) (.kp [1] (.seq (.seq (.region (impl_OutlineOf_r1 i_impl_ValidSheet) false) (.kp [1, 6] (.cond (.tmp 6) (.seq (.region impl_OutlineOf_r2 false) .ret) .skip))) (.kp [1] (.seq (.region (impl_OutlineOf_r3 i_impl_OutlineOfC1 i_impl_cellsBy) false) .ret))))))⟩

/- loop.example/g01201/spec.l00Max -/
def spec_l00Max_r0 : List SOper := [
  ⟨(some 4), none, .mov (.const (.int .i64 0)), 0⟩]
def spec_l00Max_r1 : List SOper := [
  ⟨(some 5), none, .mov (.tmp 0), 0⟩,
  ⟨(some 6), none, .mov (.tmp 1), 0⟩,
  ⟨(some 7), none, .bin .gtr .other (.tmp 5) (.tmp 6), 3⟩]
def spec_l00Max_r2 : List SOper := [
  ⟨(some 8), none, .mov (.tmp 0), 0⟩,
  ⟨(some 4), none, .mov (.tmp 8), 1⟩]
def spec_l00Max_r3 : List SOper := [
  ⟨(some 9), none, .mov (.tmp 1), 0⟩,
  ⟨(some 4), none, .mov (.tmp 9), 1⟩]
def spec_l00Max : SFunc := ⟨10, [.tmp 4], (.kp [0, 1] (.seq (.region spec_l00Max_r0 false) (.kp [0, 1] (.seq (.seq (.region spec_l00Max_r1 false) (.kp [0, 1, 7] (.cond (.tmp 7) (.seq (.region spec_l00Max_r2 false) .ret) .skip))) (.kp [1] (.seq (.region spec_l00Max_r3 false) .ret))))))⟩

/- loop.example/g01201/spec.l00Min -/
def spec_l00Min_r0 : List SOper := [
  ⟨(some 4), none, .mov (.const (.int .i64 0)), 0⟩]
def spec_l00Min_r1 : List SOper := [
  ⟨(some 5), none, .mov (.tmp 0), 0⟩,
  ⟨(some 6), none, .mov (.tmp 1), 0⟩,
  ⟨(some 7), none, .bin .lss .other (.tmp 5) (.tmp 6), 3⟩]
def spec_l00Min_r2 : List SOper := [
  ⟨(some 8), none, .mov (.tmp 0), 0⟩,
  ⟨(some 4), none, .mov (.tmp 8), 1⟩]
def spec_l00Min_r3 : List SOper := [
  ⟨(some 9), none, .mov (.tmp 1), 0⟩,
  ⟨(some 4), none, .mov (.tmp 9), 1⟩]
def spec_l00Min : SFunc := ⟨10, [.tmp 4], (.kp [0, 1] (.seq (.region spec_l00Min_r0 false) (.kp [0, 1] (.seq (.seq (.region spec_l00Min_r1 false) (.kp [0, 1, 7] (.cond (.tmp 7) (.seq (.region spec_l00Min_r2 false) .ret) .skip))) (.kp [1] (.seq (.region spec_l00Min_r3 false) .ret))))))⟩

/- loop.example/g01201/spec.l03Way -/
def spec_l03Way_r0 : List SOper := [
  ⟨(some 8), none, .mov (.const (.int .i64 0)), 0⟩]
def spec_l03Way_r1 (i_spec_l00Max : FuncId) : List SOper := [
  ⟨(some 10), none, .mov (.tmp 0), 0⟩,
  ⟨(some 11), none, .mov (.tmp 1), 0⟩,
  ⟨(some 12), none, .bin .sub .other (.tmp 10) (.tmp 11), 3⟩,
  ⟨(some 13), none, .mov (.tmp 1), 0⟩,
  ⟨(some 14), none, .mov (.tmp 0), 0⟩,
  ⟨(some 15), none, .bin .sub .other (.tmp 13) (.tmp 14), 24⟩,
  ⟨(some 16), none, .call (.func i_spec_l00Max) [(.tmp 12), (.tmp 15)], 63⟩,
  ⟨(some 9), none, .mov (.tmp 16), 127⟩]
def spec_l03Way_r2 : List SOper := [
  ⟨(some 17), none, .mov (.tmp 3), 0⟩]
def spec_l03Way_r3 (i_spec_l00Min : FuncId) : List SOper := [
  ⟨(some 18), none, .mov (.tmp 9), 0⟩,
  ⟨(some 19), none, .mov (.tmp 2), 0⟩,
  ⟨(some 20), none, .mov (.tmp 9), 0⟩,
  ⟨(some 21), none, .bin .sub .other (.tmp 19) (.tmp 20), 6⟩,
  ⟨(some 22), none, .call (.func i_spec_l00Min) [(.tmp 18), (.tmp 21)], 15⟩,
  ⟨(some 8), none, .mov (.tmp 22), 31⟩]
def spec_l03Way_r4 : List SOper := [
  ⟨(some 23), none, .mov (.tmp 9), 0⟩,
  ⟨(some 8), none, .mov (.tmp 23), 1⟩]
def spec_l03Way (i_spec_l00Max i_spec_l00Min : FuncId) : SFunc := ⟨24, [.tmp 8], (.kp [0, 1, 2, 3] (.seq (.region spec_l03Way_r0 false) (.kp [0, 1, 2, 3] (.seq (.region (spec_l03Way_r1 i_spec_l00Max) false) (.kp [2, 3, 9] (.seq (.seq (.region spec_l03Way_r2 false) (.kp [2, 9, 17] (.cond (.tmp 17) (.seq (.region (spec_l03Way_r3 i_spec_l00Min) false) .ret) .skip))) (.kp [9] (.seq (.region spec_l03Way_r4 false) .ret))))))))⟩

/- loop.example/g01201/spec.l09Ways -/
def spec_l09Ways_r0 : List SOper := [
  ⟨(some 6), none, .mov (.const (.int .i64 0)), 0⟩]
def spec_l09Ways_r1 (i_spec_l03Way : FuncId) : List SOper := [
  ⟨(some 7), none, .mov (.tmp 1), 0⟩,
  ⟨(some 8), none, .mov (.tmp 0), 0⟩,
  ⟨(some 9), none, .nilCheck (.tmp 8), 2⟩,
  ⟨(some 10), none, .fieldAddr 0 (.tmp 9), 6⟩,
  ⟨(some 11), none, .load1 (.tmp 10), 14⟩,
  ⟨(some 12), none, .bin .rem .other (.tmp 7) (.tmp 11), 31⟩,
  ⟨(some 13), none, .mov (.tmp 2), 0⟩,
  ⟨(some 14), none, .mov (.tmp 0), 0⟩,
  ⟨(some 15), none, .nilCheck (.tmp 14), 128⟩,
  ⟨(some 16), none, .fieldAddr 0 (.tmp 15), 384⟩,
  ⟨(some 17), none, .load1 (.tmp 16), 896⟩,
  ⟨(some 18), none, .bin .rem .other (.tmp 13) (.tmp 17), 1984⟩,
  ⟨(some 19), none, .mov (.tmp 0), 0⟩,
  ⟨(some 20), none, .nilCheck (.tmp 19), 4096⟩,
  ⟨(some 21), none, .fieldAddr 0 (.tmp 20), 12288⟩,
  ⟨(some 22), none, .load1 (.tmp 21), 28672⟩,
  ⟨(some 23), none, .mov (.tmp 0), 0⟩,
  ⟨(some 24), none, .nilCheck (.tmp 23), 65536⟩,
  ⟨(some 25), none, .fieldAddr 2 (.tmp 24), 196608⟩,
  ⟨(some 26), none, .load1 (.tmp 25), 458752⟩,
  ⟨(some 27), none, .call (.func i_spec_l03Way) [(.tmp 12), (.tmp 18), (.tmp 22), (.tmp 26)], 1048575⟩,
  ⟨(some 28), none, .mov (.tmp 1), 0⟩,
  ⟨(some 29), none, .mov (.tmp 0), 0⟩,
  ⟨(some 30), none, .nilCheck (.tmp 29), 4194304⟩,
  ⟨(some 31), none, .fieldAddr 0 (.tmp 30), 12582912⟩,
  ⟨(some 32), none, .load1 (.tmp 31), 29360128⟩,
  ⟨(some 33), none, .bin .quo .other (.tmp 28) (.tmp 32), 65011712⟩,
  ⟨(some 34), none, .mov (.tmp 2), 0⟩,
  ⟨(some 35), none, .mov (.tmp 0), 0⟩,
  ⟨(some 36), none, .nilCheck (.tmp 35), 268435456⟩,
  ⟨(some 37), none, .fieldAddr 0 (.tmp 36), 805306368⟩,
  ⟨(some 38), none, .load1 (.tmp 37), 1879048192⟩,
  ⟨(some 39), none, .bin .quo .other (.tmp 34) (.tmp 38), 4160749568⟩,
  ⟨(some 40), none, .mov (.tmp 0), 0⟩,
  ⟨(some 41), none, .nilCheck (.tmp 40), 8589934592⟩,
  ⟨(some 42), none, .fieldAddr 1 (.tmp 41), 25769803776⟩,
  ⟨(some 43), none, .load1 (.tmp 42), 60129542144⟩,
  ⟨(some 44), none, .mov (.tmp 0), 0⟩,
  ⟨(some 45), none, .nilCheck (.tmp 44), 137438953472⟩,
  ⟨(some 46), none, .fieldAddr 2 (.tmp 45), 412316860416⟩,
  ⟨(some 47), none, .load1 (.tmp 46), 962072674304⟩,
  ⟨(some 48), none, .call (.func i_spec_l03Way) [(.tmp 33), (.tmp 39), (.tmp 43), (.tmp 47)], 2199023255551⟩,
  ⟨(some 49), none, .bin .add .other (.tmp 27) (.tmp 48), 4398046511103⟩,
  ⟨(some 6), none, .mov (.tmp 49), 8796093022207⟩]
def spec_l09Ways (i_spec_l03Way : FuncId) : SFunc := ⟨50, [.tmp 6], (.kp [0, 1, 2] (.seq (.region spec_l09Ways_r0 false) (.kp [0, 1, 2] (.seq (.region (spec_l09Ways_r1 i_spec_l03Way) true) .ret))))⟩
theorem spec_l09Ways_r1_dr {i_spec_l03Way : FuncId} : drawOkW wStat (spec_l09Ways_r1 i_spec_l03Way) = true := by kernel_rfl
attribute [push_cast] spec_l09Ways_r1_dr
/- loop.example/g01201/spec.OutlineOf -/
def spec_OutlineOf_r0 : List SOper := [
  ⟨(some 1), none, .box (.tmp 0), 0⟩,
  ⟨(some 2), none, .mov (.const (.slice none 0 0)), 0⟩,
  ⟨(some 3), none, .mov (.const (.bool false)), 2⟩]
def spec_OutlineOf_r1 (i_spec_l02Is : FuncId) : List SOper := [
  ⟨(some 8), none, .call (.func i_spec_l02Is) [(.tmp 1)], 0⟩,
  ⟨(some 9), none, .un .not (.tmp 8), 1⟩]
def spec_OutlineOf_r2 : List SOper := [
  ⟨(some 2), none, .mov (.const (.slice none 0 0)), 0⟩,
  ⟨(some 3), none, .mov (.const (.bool false)), 1⟩]
def spec_OutlineOf_r3 : List SOper := [
  ⟨(some 10), none, .buildSlice 1 0 [] [], 0⟩,
  ⟨(some 4), none, .mov (.tmp 10), 1⟩]
def spec_OutlineOf_r4 : List SOper := [
  ⟨(some 11), none, .fieldAddr 3 (.tmp 1), 0⟩,
  ⟨(some 12), none, .load1 (.tmp 11), 1⟩,
  ⟨(some 13), none, .len false (.tmp 12), 3⟩,
  ⟨(some 14), none, .mov (.const (.int .i64 0)), 0⟩]
def spec_OutlineOf_r5 : List SOper := [
  ⟨(some 15), none, .bin .lss .other (.tmp 14) (.tmp 13), 0⟩]
def spec_OutlineOf_r6 : List SOper := [
  ⟨(some 16), none, .mov (.tmp 14), 0⟩,
  ⟨(some 5), none, .mov (.tmp 16), 1⟩]
def spec_OutlineOf_r7 : List SOper := [
  ⟨(some 6), none, .mov (.const (.bool false)), 0⟩]
def spec_OutlineOf_r8 : List SOper := [
  ⟨(some 17), none, .fieldAddr 3 (.tmp 1), 0⟩,
  ⟨(some 18), none, .load1 (.tmp 17), 1⟩,
  ⟨(some 19), none, .len false (.tmp 18), 3⟩,
  ⟨(some 20), none, .mov (.const (.int .i64 0)), 0⟩]
def spec_OutlineOf_r9 : List SOper := [
  ⟨(some 21), none, .bin .lss .other (.tmp 20) (.tmp 19), 0⟩]
def spec_OutlineOf_r10 : List SOper := [
  ⟨(some 22), none, .mov (.tmp 20), 0⟩,
  ⟨(some 7), none, .mov (.tmp 22), 1⟩]
def spec_OutlineOf_r11 (i_spec_l09Ways : FuncId) : List SOper := [
  ⟨(some 23), none, .mov (.tmp 6), 0⟩,
  ⟨(some 24), none, .mov (.tmp 23), 1⟩,
  ⟨(some 25), (some (24, false)), .fieldAddr 3 (.tmp 1), 3⟩,
  ⟨(some 26), (some (24, false)), .load1 (.tmp 25), 7⟩,
  ⟨(some 27), (some (24, false)), .mov (.tmp 5), 3⟩,
  ⟨(some 28), (some (24, false)), .indexAddrS 1 (.tmp 26) (.tmp 27), 31⟩,
  ⟨(some 29), (some (24, false)), .load1 (.tmp 28), 63⟩,
  ⟨(some 30), (some (24, false)), .fieldAddr 3 (.tmp 1), 3⟩,
  ⟨(some 31), (some (24, false)), .load1 (.tmp 30), 131⟩,
  ⟨(some 32), (some (24, false)), .mov (.tmp 7), 3⟩,
  ⟨(some 33), (some (24, false)), .indexAddrS 1 (.tmp 31) (.tmp 32), 899⟩,
  ⟨(some 34), (some (24, false)), .load1 (.tmp 33), 1923⟩,
  ⟨(some 35), (some (24, false)), .bin .neq .other (.tmp 29) (.tmp 34), 4095⟩,
  ⟨(some 36), (some (24, false)), .mov (.tmp 35), 8191⟩,
  ⟨(some 37), (some (36, true)), .mov (.tmp 5), 16383⟩,
  ⟨(some 38), (some (36, true)), .mov (.tmp 7), 16383⟩,
  ⟨(some 39), (some (36, true)), .call (.func i_spec_l09Ways) [(.tmp 1), (.tmp 37), (.tmp 38)], 65535⟩,
  ⟨(some 40), (some (36, true)), .bin .eql .other (.tmp 39) (.const (.int .i64 1)), 131071⟩,
  ⟨(some 41), (some (24, false)), .pick (.tmp 36) (.tmp 40) (.const (.bool false)), 262143⟩,
  ⟨(some 42), none, .pick (.tmp 24) (.const (.bool true)) (.tmp 41), 524287⟩,
  ⟨(some 6), none, .mov (.tmp 42), 1048575⟩]
def spec_OutlineOf_r12 : List SOper := [
  ⟨(some 43), none, .bin .add .other (.tmp 20) (.const (.int .i64 1)), 0⟩,
  ⟨(some 20), none, .mov (.tmp 43), 1⟩]
def spec_OutlineOf_l13 (i_spec_l09Ways : FuncId) : SCode := (.kp [1, 4, 5, 6, 13, 14, 19, 20] (.seq (.region spec_OutlineOf_r9 false) (.kp [1, 4, 5, 6, 13, 14, 19, 20, 21] (.seq (.cond (.tmp 21) .skip (.exit 2)) (.kp [1, 4, 5, 6, 13, 14, 19, 20] (.seq (.block 3 (.seq (.region spec_OutlineOf_r10 false) (.kp [1, 4, 5, 6, 7, 13, 14, 19, 20] (.region (spec_OutlineOf_r11 i_spec_l09Ways) true)))) (.kp [1, 4, 5, 6, 13, 14, 19, 20] (.region spec_OutlineOf_r12 false))))))))
def spec_OutlineOf_r14 : List SOper := [
  ⟨(some 44), none, .mov (.tmp 6), 0⟩]
def spec_OutlineOf_r15 : List SOper := [
  ⟨(some 45), none, .mov (.tmp 4), 0⟩,
  ⟨(some 46), none, .mov (.tmp 5), 0⟩,
  ⟨(some 47), none, .buildSlice 1 1 [(.int .i64 0)] [(0, 1, (.tmp 46))], 2⟩,
  ⟨(some 48), none, .append 1 8 (.tmp 45) (.tmp 47), 7⟩,
  ⟨(some 4), none, .mov (.tmp 48), 15⟩]
def spec_OutlineOf_r16 : List SOper := [
  ⟨(some 49), none, .bin .add .other (.tmp 14) (.const (.int .i64 1)), 0⟩,
  ⟨(some 14), none, .mov (.tmp 49), 1⟩]
def spec_OutlineOf_l17 (i_spec_l09Ways : FuncId) : SCode := (.kp [1, 4, 13, 14] (.seq (.region spec_OutlineOf_r5 false) (.kp [1, 4, 13, 14, 15] (.seq (.cond (.tmp 15) .skip (.exit 0)) (.kp [1, 4, 13, 14] (.seq (.block 1 (.seq (.region spec_OutlineOf_r6 false) (.kp [1, 4, 5, 13, 14] (.seq (.region spec_OutlineOf_r7 false) (.kp [1, 4, 5, 6, 13, 14] (.seq (.seq (.region spec_OutlineOf_r8 false) (.kp [1, 4, 5, 6, 13, 14, 19, 20] (.block 2 (.loop (spec_OutlineOf_l13 i_spec_l09Ways))))) (.kp [1, 4, 5, 6, 13, 14] (.seq (.region spec_OutlineOf_r14 false) (.kp [1, 4, 5, 13, 14, 44] (.cond (.tmp 44) (.region spec_OutlineOf_r15 false) .skip)))))))))) (.kp [1, 4, 13, 14] (.region spec_OutlineOf_r16 false))))))))
def spec_OutlineOf_r18 : List SOper := [
  ⟨(some 50), none, .mov (.tmp 4), 0⟩,
  ⟨(some 2), none, .mov (.tmp 50), 1⟩,
  ⟨(some 3), none, .mov (.const (.bool true)), 3⟩]
def spec_OutlineOf (i_spec_l02Is i_spec_l09Ways : FuncId) : SFunc := ⟨51, [.tmp 2, .tmp 3], (.kp [0] (.seq (.region spec_OutlineOf_r0 false) (.kp [1] (.seq (.seq (.region (spec_OutlineOf_r1 i_spec_l02Is) false) (.kp [1, 9] (.cond (.tmp 9) (.seq (.region spec_OutlineOf_r2 false) .ret) .skip))) (.kp [1] (.seq (.region spec_OutlineOf_r3 false) (.kp [1, 4] (.seq (.seq (.region spec_OutlineOf_r4 false) (.kp [1, 4, 13, 14] (.block 0 (.loop (spec_OutlineOf_l17 i_spec_l09Ways))))) (.kp [4] (.seq (.region spec_OutlineOf_r18 false) .ret))))))))))⟩
theorem spec_OutlineOf_r11_dr {i_spec_l09Ways : FuncId} : drawOkW wStat (spec_OutlineOf_r11 i_spec_l09Ways) = true := by kernel_rfl
attribute [push_cast] spec_OutlineOf_r11_dr
/-- The indices below n of which Q holds. -/
def cellsN (Q : Nat → Bool) (n : Nat) : List Int := ((List.range n).filter Q).map Int.ofNat
theorem cellsN_succ (Q : Nat → Bool) (n : Nat) : cellsN Q (n + 1) = if Q n = true then cellsN Q n ++ [(n : Int)] else cellsN Q n := by
  unfold cellsN
  rw [List.range_succ, List.filter_append, List.map_append]
  by_cases h : Q n = true
  · rw [if_pos h]; simp [h]
  · rw [if_neg h]; simp [h]
theorem cellsN_t {Q : Nat → Bool} {n : Nat} (h : Q n = true) : cellsN Q (n + 1) = cellsN Q n ++ [(n : Int)] := by rw [cellsN_succ, if_pos h]
theorem cellsN_f {Q : Nat → Bool} {n : Nat} (h : Q n = false) : cellsN Q (n + 1) = cellsN Q n := by rw [cellsN_succ, if_neg (by rw [h]; simp)]
theorem cellsN_len (Q : Nat → Bool) (n : Nat) : (cellsN Q n).length ≤ n := by
  unfold cellsN
  rw [List.length_map]
  exact Nat.le_trans (List.length_filter_le ..) (by rw [List.length_range]; exact Nat.le_refl _)
theorem cellsN_congr {Q R : Nat → Bool} {n : Nat} (h : ∀ i, i < n → Q i = R i) : cellsN Q n = cellsN R n := by
  unfold cellsN
  rw [List.filter_congr fun i hi => h i (List.mem_range.1 hi)]
/-- The same of a predicate on coordinates. -/
def onCell (P : Int → Int → Bool) (W : Nat) (i : Nat) : Bool := P ((i % W : Nat) : Int) ((i / W : Nat) : Int)

def impl_cellsBy_ok (k : FuncId) (ck : Contract) (c : Contract) : Prop := ∀ (σ : Heap) (W H : Nat) (wr : Bool) (sv lv : Value) (capt : Array Value) (P : Int → Int → Bool), cellOk sv = true → cellOk lv = true → 3 ≤ W → W ≤ 16 → 3 ≤ H → H ≤ 16 →
    (∀ (x y : Nat), x < W → y < H → ∀ τ, Ret ck ([.int .i64 x, .int .i64 y] ++ capt.toList) (σ ++ τ) fun v σ' => v = .bool (P x y) ∧ σ' = σ ++ τ) →
    Ret c [shV W H wr sv lv, .func (.func k) #[] capt] σ fun v σ' => v = slV σ.length (cellsN (onCell P W) (W * H)).length ∧ σ' = σ ++ [rowI (cellsN (onCell P W) (W * H))]
theorem impl_cellsBy_law {C : Ctab} {i1 k : FuncId} {c1 ck : Contract} (h1 : Has C i1 c1 impl_Sheet_at_ok) (hk : C k = some ck) : impl_cellsBy_ok k ck (gcC C (impl_cellsBy i1) true) := by
  intro σ W H wr sv lv capt P ks kl a1 a2 a3 a4 hstep
  have hWH : W * H ≤ 256 := Nat.mul_le_mul a2 a4
  refine ret_gc rfl rfl ?_
  repeat' (first | apply Ev.sq | apply Ev.rg | refine Ev.aKp ?_ | apply thenQ.n | apply thenQ.e | apply thenQ.r | apply blkQ.n | apply blkQ.e | refine blkQ.x ?_ rfl | apply blkQ.r | refine Ev.aT ?_ | refine Ev.aF ?_ | apply Ev.skip | apply Ev.exit | apply Ev.ret | apply Ev.bk | refine EvR.mv ?_ | refine EvR.fa ?_ | refine EvR.l1 ?_ | refine EvR.aNotSF ?_ | refine EvR.aNotST ?_ | refine EvR.aMetT ?_ | refine EvR.aMetF ?_ | refine EvR.aUS ?_ | refine EvR.mvc ?_ | refine EvR.lv ?_ | refine EvR.lp ?_ | refine EvR.lNp ?_ | refine EvR.pkT ?_ | refine EvR.pkF ?_ | refine EvR.lN ?_ | refine EvR.ix ?_ | refine EvR.le ?_ | refine EvR.ixo ?_ | refine EvR.l1o ?_ | refine EvR.lei ?_ | refine EvR.leb ?_ | refine EvR.lnr ?_ | refine EvR.lns ?_ | refine EvR.nt ?_ | refine EvR.lt ?_ | refine EvR.le_ ?_ | refine EvR.gt ?_ | refine EvR.ge ?_ | refine EvR.eqi ?_ | refine EvR.nei ?_ | refine EvR.add ?_ | refine EvR.sub ?_ | refine EvR.mul ?_ | refine EvR.rem ?_ | refine EvR.quo ?_ | refine EvR.nc ?_ | refine EvR.ex ?_ | refine EvR.f1 ?_ | refine EvR.fadd ?_ | refine EvR.fsub ?_ | refine EvR.fmul ?_ | refine EvR.fquo ?_ | refine EvR.flt_ ?_ | refine EvR.fle_ ?_ | refine EvR.fgt_ ?_ | refine EvR.fge_ ?_ | refine EvR.feq_ ?_ | refine EvR.fne_ ?_ | refine EvR.cv ?_ | refine EvR.cvu ?_ | refine EvR.cvf ?_ | refine EvR.cvw ?_ | refine EvR.bx ?_ | refine EvR.aNotNT ?_ | refine EvR.aNotNF ?_ | refine EvR.aUN ?_ | refine EvR.nl ?_ | refine EvR.so ?_ | (apply Ev.regionQ drk; (· exact quie)) | (apply Ev.regionN0 drk; (· exact quie)) | (apply Ev.regionA drk (by assumption); (· exact quie)) | (apply Ev.regionNA drk (by assumption); (· exact quie)) | (apply Ev.regionS0 drk; (· exact quie)) | (refine EvR.aSplB ?_ ?_ <;> (intro hb; rw [hb]; (try simp only [Bool.not_eq_true', Bool.not_eq_false', Bool.not_eq_eq_eq_not, Bool.not_true, Bool.not_false, decide_eq_true_eq, decide_eq_false_iff_not, Bool.and_eq_true, Bool.and_eq_false_iff, Bool.or_eq_true, Bool.or_eq_false_iff] at hb); (try (exfalso; omega)))) | (refine Ev.aSplB ?_ ?_ <;> (intro hb; (try rw [hb]); (try simp only [Bool.not_eq_true', Bool.not_eq_false', Bool.not_eq_eq_eq_not, Bool.not_true, Bool.not_false, decide_eq_true_eq, decide_eq_false_iff_not, Bool.and_eq_true, Bool.and_eq_false_iff, Bool.or_eq_true, Bool.or_eq_false_iff] at hb); (try (exfalso; omega)))) | (apply EvR.aS0; (· exact evc)) | (apply EvR.aN0; (· exact evc)) | (apply endS trivial; rotate_left; (· exact eva); (· rfl); try refine ⟨?_, rfl⟩) | fail)
  refine Ev.whlH (S := Nat × Heap) (fun st => H - st.1) (fun st => [(5, .slice (some ⟨σ.length + 1, 0, none⟩) (cellsN (onCell P W) (W * st.1)).length (cellsN (onCell P W) (W * st.1)).length), (11, .int .i64 st.1)])
    (fun st => σ ++ (⟨[.int .i64 W, .int .i64 H, .bool wr, sv, lv], 0, true⟩ :: rowI (cellsN (onCell P W) (W * st.1)) :: st.2)) (fun st => st.1 ≤ H) (0, []) (by (simp only [List.cons_append, List.nil_append, ↓fget_cons, push_cast, Nat.reduceEqDiff, reduceIte] <;> rfl)) rfl (Nat.zero_le _) ?_
  rintro ⟨y, rub⟩ F hF hi
  dsimp only at hi hF ⊢
  (simp only [List.cons_append, List.nil_append, ↓fget_cons, fkeep_cons, fkeep_nil, Nat.reduceEqDiff, reduceIte] at hF; subst hF)
  by_cases hlt : y < H
  · repeat' (first | apply Ev.sq | apply Ev.rg | refine Ev.aKp ?_ | apply thenQ.n | apply thenQ.e | apply thenQ.r | apply blkQ.n | apply blkQ.e | refine blkQ.x ?_ rfl | apply blkQ.r | refine Ev.aT ?_ | refine Ev.aF ?_ | apply Ev.skip | apply Ev.exit | apply Ev.ret | apply Ev.bk | refine EvR.mv ?_ | refine EvR.fa ?_ | refine EvR.l1 ?_ | refine EvR.aNotSF ?_ | refine EvR.aNotST ?_ | refine EvR.aMetT ?_ | refine EvR.aMetF ?_ | refine EvR.aUS ?_ | refine EvR.mvc ?_ | refine EvR.lv ?_ | refine EvR.lp ?_ | refine EvR.lNp ?_ | refine EvR.pkT ?_ | refine EvR.pkF ?_ | refine EvR.lN ?_ | refine EvR.ix ?_ | refine EvR.le ?_ | refine EvR.ixo ?_ | refine EvR.l1o ?_ | refine EvR.lei ?_ | refine EvR.leb ?_ | refine EvR.lnr ?_ | refine EvR.lns ?_ | refine EvR.nt ?_ | refine EvR.lt ?_ | refine EvR.le_ ?_ | refine EvR.gt ?_ | refine EvR.ge ?_ | refine EvR.eqi ?_ | refine EvR.nei ?_ | refine EvR.add ?_ | refine EvR.sub ?_ | refine EvR.mul ?_ | refine EvR.rem ?_ | refine EvR.quo ?_ | refine EvR.nc ?_ | refine EvR.ex ?_ | refine EvR.f1 ?_ | refine EvR.fadd ?_ | refine EvR.fsub ?_ | refine EvR.fmul ?_ | refine EvR.fquo ?_ | refine EvR.flt_ ?_ | refine EvR.fle_ ?_ | refine EvR.fgt_ ?_ | refine EvR.fge_ ?_ | refine EvR.feq_ ?_ | refine EvR.fne_ ?_ | refine EvR.cv ?_ | refine EvR.cvu ?_ | refine EvR.cvf ?_ | refine EvR.cvw ?_ | refine EvR.bx ?_ | refine EvR.aNotNT ?_ | refine EvR.aNotNF ?_ | refine EvR.aUN ?_ | refine EvR.nl ?_ | refine EvR.so ?_ | (apply Ev.regionQ drk; (· exact quie)) | (apply Ev.regionN0 drk; (· exact quie)) | (apply Ev.regionA drk (by assumption); (· exact quie)) | (apply Ev.regionNA drk (by assumption); (· exact quie)) | (apply Ev.regionS0 drk; (· exact quie)) | (refine EvR.aSplB ?_ ?_ <;> (intro hb; rw [hb]; (try simp only [Bool.not_eq_true', Bool.not_eq_false', Bool.not_eq_eq_eq_not, Bool.not_true, Bool.not_false, decide_eq_true_eq, decide_eq_false_iff_not, Bool.and_eq_true, Bool.and_eq_false_iff, Bool.or_eq_true, Bool.or_eq_false_iff] at hb); (try (exfalso; omega)))) | (refine Ev.aSplB ?_ ?_ <;> (intro hb; (try rw [hb]); (try simp only [Bool.not_eq_true', Bool.not_eq_false', Bool.not_eq_eq_eq_not, Bool.not_true, Bool.not_false, decide_eq_true_eq, decide_eq_false_iff_not, Bool.and_eq_true, Bool.and_eq_false_iff, Bool.or_eq_true, Bool.or_eq_false_iff] at hb); (try (exfalso; omega)))) | (apply EvR.aS0; (· exact evc)) | (apply EvR.aN0; (· exact evc)) | (apply endS trivial; rotate_left; (· exact eva); (· rfl); try refine ⟨?_, rfl⟩) | fail)
    refine Ev.whlH (S := Nat × Heap) (fun st => W - st.1) (fun st => [(5, .slice (some ⟨σ.length + 1, 0, none⟩) (cellsN (onCell P W) (W * y + st.1)).length (cellsN (onCell P W) (W * y + st.1)).length), (16, .int .i64 st.1)])
      (fun st => σ ++ (⟨[.int .i64 W, .int .i64 H, .bool wr, sv, lv], 0, true⟩ :: rowI (cellsN (onCell P W) (W * y + st.1)) :: st.2)) (fun st => st.1 ≤ W) (0, rub) (by (simp only [List.cons_append, List.nil_append, ↓fget_cons, push_cast, Nat.reduceEqDiff, reduceIte] <;> rfl)) rfl (Nat.zero_le _) ?_
    rintro ⟨x, rub2⟩ F hF hi2
    dsimp only at hi2 hF ⊢
    (simp only [List.cons_append, List.nil_append, ↓fget_cons, fkeep_cons, fkeep_nil, Nat.reduceEqDiff, reduceIte] at hF; subst hF)
    by_cases hlt2 : x < W
    · have hc := cell_lt hlt2 hlt
      have hlen := cellsN_len (onCell P W) (W * y + x)
      have hon : onCell P W (W * y + x) = P x y := by unfold onCell; rw [mod_at hlt2, div_at hlt2]
      have hat : atC W H x y = ((W * y + x : Nat) : Int) := by
        have := atC_nat a1 a3 hlt2 hlt
        have h0 : 0 ≤ atC W H x y := by
          unfold atC
          rw [wrapC (by omega) (by omega) (by omega), wrapC (by omega) (by omega) (by omega), if_neg (by omega), if_neg (by omega), if_neg (by omega), if_neg (by omega)]
          have : 0 ≤ (W : Int) * (y : Int) := Int.mul_nonneg (by omega) (by omega)
          omega
        omega
      repeat' (first | apply Ev.sq | apply Ev.rg | refine Ev.aKp ?_ | apply thenQ.n | apply thenQ.e | apply thenQ.r | apply blkQ.n | apply blkQ.e | refine blkQ.x ?_ rfl | apply blkQ.r | refine Ev.aT ?_ | refine Ev.aF ?_ | apply Ev.skip | apply Ev.exit | apply Ev.ret | apply Ev.bk | refine EvR.mv ?_ | refine EvR.fa ?_ | refine EvR.l1 ?_ | refine EvR.aNotSF ?_ | refine EvR.aNotST ?_ | refine EvR.aMetT ?_ | refine EvR.aMetF ?_ | refine EvR.aUS ?_ | refine EvR.mvc ?_ | refine EvR.lv ?_ | refine EvR.lp ?_ | refine EvR.lNp ?_ | refine EvR.pkT ?_ | refine EvR.pkF ?_ | refine EvR.lN ?_ | refine EvR.ix ?_ | refine EvR.le ?_ | refine EvR.ixo ?_ | refine EvR.l1o ?_ | refine EvR.lei ?_ | refine EvR.leb ?_ | refine EvR.lnr ?_ | refine EvR.lns ?_ | refine EvR.nt ?_ | refine EvR.lt ?_ | refine EvR.le_ ?_ | refine EvR.gt ?_ | refine EvR.ge ?_ | refine EvR.eqi ?_ | refine EvR.nei ?_ | refine EvR.add ?_ | refine EvR.sub ?_ | refine EvR.mul ?_ | refine EvR.rem ?_ | refine EvR.quo ?_ | refine EvR.nc ?_ | refine EvR.ex ?_ | refine EvR.f1 ?_ | refine EvR.fadd ?_ | refine EvR.fsub ?_ | refine EvR.fmul ?_ | refine EvR.fquo ?_ | refine EvR.flt_ ?_ | refine EvR.fle_ ?_ | refine EvR.fgt_ ?_ | refine EvR.fge_ ?_ | refine EvR.feq_ ?_ | refine EvR.fne_ ?_ | refine EvR.cv ?_ | refine EvR.cvu ?_ | refine EvR.cvf ?_ | refine EvR.cvw ?_ | refine EvR.bx ?_ | refine EvR.aNotNT ?_ | refine EvR.aNotNF ?_ | refine EvR.aUN ?_ | refine EvR.nl ?_ | refine EvR.so ?_ | (apply Ev.regionQ drk; (· exact quie)) | (apply Ev.regionN0 drk; (· exact quie)) | (apply Ev.regionA drk (by assumption); (· exact quie)) | (apply Ev.regionNA drk (by assumption); (· exact quie)) | (apply Ev.regionS0 drk; (· exact quie)) | (refine EvR.aSplB ?_ ?_ <;> (intro hb; rw [hb]; (try simp only [Bool.not_eq_true', Bool.not_eq_false', Bool.not_eq_eq_eq_not, Bool.not_true, Bool.not_false, decide_eq_true_eq, decide_eq_false_iff_not, Bool.and_eq_true, Bool.and_eq_false_iff, Bool.or_eq_true, Bool.or_eq_false_iff] at hb); (try (exfalso; omega)))) | (refine Ev.aSplB ?_ ?_ <;> (intro hb; (try rw [hb]); (try simp only [Bool.not_eq_true', Bool.not_eq_false', Bool.not_eq_eq_eq_not, Bool.not_true, Bool.not_false, decide_eq_true_eq, decide_eq_false_iff_not, Bool.and_eq_true, Bool.and_eq_false_iff, Bool.or_eq_true, Bool.or_eq_false_iff] at hb); (try (exfalso; omega)))) | (apply EvR.aS0; (· exact evc)) | (apply EvR.aN0; (· exact evc)) | (apply endS trivial; rotate_left; (· exact eva); (· rfl); try refine ⟨?_, rfl⟩) | fail)
      (apply EvR.aDyn hk; (· exact rfl); (· exact eva); (· exact  hstep x y hlt2 hlt _); (rintro _ _ ⟨rfl, rfl⟩; refine EvR.nrm ?_))
      cases hP : P x y
      · have e := cellsN_f (Q := onCell P W) (n := W * y + x) (by rw [hon]; exact hP)
        repeat' (first | apply Ev.sq | apply Ev.rg | refine Ev.aKp ?_ | apply thenQ.n | apply thenQ.e | apply thenQ.r | apply blkQ.n | apply blkQ.e | refine blkQ.x ?_ rfl | apply blkQ.r | refine Ev.aT ?_ | refine Ev.aF ?_ | apply Ev.skip | apply Ev.exit | apply Ev.ret | apply Ev.bk | refine EvR.mv ?_ | refine EvR.fa ?_ | refine EvR.l1 ?_ | refine EvR.aNotSF ?_ | refine EvR.aNotST ?_ | refine EvR.aMetT ?_ | refine EvR.aMetF ?_ | refine EvR.aUS ?_ | refine EvR.mvc ?_ | refine EvR.lv ?_ | refine EvR.lp ?_ | refine EvR.lNp ?_ | refine EvR.pkT ?_ | refine EvR.pkF ?_ | refine EvR.lN ?_ | refine EvR.ix ?_ | refine EvR.le ?_ | refine EvR.ixo ?_ | refine EvR.l1o ?_ | refine EvR.lei ?_ | refine EvR.leb ?_ | refine EvR.lnr ?_ | refine EvR.lns ?_ | refine EvR.nt ?_ | refine EvR.lt ?_ | refine EvR.le_ ?_ | refine EvR.gt ?_ | refine EvR.ge ?_ | refine EvR.eqi ?_ | refine EvR.nei ?_ | refine EvR.add ?_ | refine EvR.sub ?_ | refine EvR.mul ?_ | refine EvR.rem ?_ | refine EvR.quo ?_ | refine EvR.nc ?_ | refine EvR.ex ?_ | refine EvR.f1 ?_ | refine EvR.fadd ?_ | refine EvR.fsub ?_ | refine EvR.fmul ?_ | refine EvR.fquo ?_ | refine EvR.flt_ ?_ | refine EvR.fle_ ?_ | refine EvR.fgt_ ?_ | refine EvR.fge_ ?_ | refine EvR.feq_ ?_ | refine EvR.fne_ ?_ | refine EvR.cv ?_ | refine EvR.cvu ?_ | refine EvR.cvf ?_ | refine EvR.cvw ?_ | refine EvR.bx ?_ | refine EvR.aNotNT ?_ | refine EvR.aNotNF ?_ | refine EvR.aUN ?_ | refine EvR.nl ?_ | refine EvR.so ?_ | (apply Ev.regionQ drk; (· exact quie)) | (apply Ev.regionN0 drk; (· exact quie)) | (apply Ev.regionA drk (by assumption); (· exact quie)) | (apply Ev.regionNA drk (by assumption); (· exact quie)) | (apply Ev.regionS0 drk; (· exact quie)) | (refine EvR.aSplB ?_ ?_ <;> (intro hb; rw [hb]; (try simp only [Bool.not_eq_true', Bool.not_eq_false', Bool.not_eq_eq_eq_not, Bool.not_true, Bool.not_false, decide_eq_true_eq, decide_eq_false_iff_not, Bool.and_eq_true, Bool.and_eq_false_iff, Bool.or_eq_true, Bool.or_eq_false_iff] at hb); (try (exfalso; omega)))) | (refine Ev.aSplB ?_ ?_ <;> (intro hb; (try rw [hb]); (try simp only [Bool.not_eq_true', Bool.not_eq_false', Bool.not_eq_eq_eq_not, Bool.not_true, Bool.not_false, decide_eq_true_eq, decide_eq_false_iff_not, Bool.and_eq_true, Bool.and_eq_false_iff, Bool.or_eq_true, Bool.or_eq_false_iff] at hb); (try (exfalso; omega)))) | (apply EvR.aS0; (· exact evc)) | (apply EvR.aN0; (· exact evc)) | (apply endS trivial; rotate_left; (· exact eva); (· rfl); try refine ⟨?_, rfl⟩) | fail)
        exact ⟨(x + 1, rub2), by dsimp only; omega, by rw [← Nat.add_assoc, e]; (simp only [List.cons_append, List.nil_append, ↓fget_cons, push_cast, Nat.reduceEqDiff, reduceIte] <;> rfl), by dsimp only; rw [← Nat.add_assoc, e], by dsimp only; omega⟩
      · have e := cellsN_t (Q := onCell P W) (n := W * y + x) (by rw [hon]; exact hP)
        have e2 : (cellsN (onCell P W) (W * y + (x + 1))).length = (cellsN (onCell P W) (W * y + x)).length + 1 := by rw [← Nat.add_assoc, e]; simp
        repeat' (first | apply Ev.sq | apply Ev.rg | refine Ev.aKp ?_ | apply thenQ.n | apply thenQ.e | apply thenQ.r | apply blkQ.n | apply blkQ.e | refine blkQ.x ?_ rfl | apply blkQ.r | refine Ev.aT ?_ | refine Ev.aF ?_ | apply Ev.skip | apply Ev.exit | apply Ev.ret | apply Ev.bk | refine EvR.mv ?_ | refine EvR.fa ?_ | refine EvR.l1 ?_ | refine EvR.aNotSF ?_ | refine EvR.aNotST ?_ | refine EvR.aMetT ?_ | refine EvR.aMetF ?_ | refine EvR.aUS ?_ | refine EvR.mvc ?_ | refine EvR.lv ?_ | refine EvR.lp ?_ | refine EvR.lNp ?_ | refine EvR.pkT ?_ | refine EvR.pkF ?_ | refine EvR.lN ?_ | refine EvR.ix ?_ | refine EvR.le ?_ | refine EvR.ixo ?_ | refine EvR.l1o ?_ | refine EvR.lei ?_ | refine EvR.leb ?_ | refine EvR.lnr ?_ | refine EvR.lns ?_ | refine EvR.nt ?_ | refine EvR.lt ?_ | refine EvR.le_ ?_ | refine EvR.gt ?_ | refine EvR.ge ?_ | refine EvR.eqi ?_ | refine EvR.nei ?_ | refine EvR.add ?_ | refine EvR.sub ?_ | refine EvR.mul ?_ | refine EvR.rem ?_ | refine EvR.quo ?_ | refine EvR.nc ?_ | refine EvR.ex ?_ | refine EvR.f1 ?_ | refine EvR.fadd ?_ | refine EvR.fsub ?_ | refine EvR.fmul ?_ | refine EvR.fquo ?_ | refine EvR.flt_ ?_ | refine EvR.fle_ ?_ | refine EvR.fgt_ ?_ | refine EvR.fge_ ?_ | refine EvR.feq_ ?_ | refine EvR.fne_ ?_ | refine EvR.cv ?_ | refine EvR.cvu ?_ | refine EvR.cvf ?_ | refine EvR.cvw ?_ | refine EvR.bx ?_ | refine EvR.aNotNT ?_ | refine EvR.aNotNF ?_ | refine EvR.aUN ?_ | refine EvR.nl ?_ | refine EvR.so ?_ | (apply EvR.aCall h1.at_; (· exact eva); (· apply h1.ok <;> exact sid); (rintro _ _ ⟨rfl, rfl⟩; refine EvR.nrm ?_; try simp only [hat])) | (apply Ev.regionQ drk; (· exact quie)) | (apply Ev.regionN0 drk; (· exact quie)) | (apply Ev.regionA drk (by assumption); (· exact quie)) | (apply Ev.regionNA drk (by assumption); (· exact quie)) | (apply Ev.regionS0 drk; (· exact quie)) | (refine EvR.aSplB ?_ ?_ <;> (intro hb; rw [hb]; (try simp only [Bool.not_eq_true', Bool.not_eq_false', Bool.not_eq_eq_eq_not, Bool.not_true, Bool.not_false, decide_eq_true_eq, decide_eq_false_iff_not, Bool.and_eq_true, Bool.and_eq_false_iff, Bool.or_eq_true, Bool.or_eq_false_iff] at hb); (try (exfalso; omega)))) | (refine Ev.aSplB ?_ ?_ <;> (intro hb; (try rw [hb]); (try simp only [Bool.not_eq_true', Bool.not_eq_false', Bool.not_eq_eq_eq_not, Bool.not_true, Bool.not_false, decide_eq_true_eq, decide_eq_false_iff_not, Bool.and_eq_true, Bool.and_eq_false_iff, Bool.or_eq_true, Bool.or_eq_false_iff] at hb); (try (exfalso; omega)))) | (apply EvR.aS0; (· exact evc)) | (apply EvR.aN0; (· exact evc)) | (apply endS trivial; rotate_left; (· exact eva); (· rfl); try refine ⟨?_, rfl⟩) | fail)
        exact ⟨(x + 1, rub2 ++ [rowI [((W * y + x : Nat) : Int)]]), by dsimp only; omega, by rw [e2]; (simp only [List.cons_append, List.nil_append, ↓fget_cons, push_cast, Nat.reduceEqDiff, reduceIte] <;> rfl), by dsimp only; rw [← Nat.add_assoc, e]; rfl, by dsimp only; omega⟩
    · obtain rfl : x = W := by omega
      repeat' (first | apply Ev.sq | apply Ev.rg | refine Ev.aKp ?_ | apply thenQ.n | apply thenQ.e | apply thenQ.r | apply blkQ.n | apply blkQ.e | refine blkQ.x ?_ rfl | apply blkQ.r | refine Ev.aT ?_ | refine Ev.aF ?_ | apply Ev.skip | apply Ev.exit | apply Ev.ret | apply Ev.bk | refine EvR.mv ?_ | refine EvR.fa ?_ | refine EvR.l1 ?_ | refine EvR.aNotSF ?_ | refine EvR.aNotST ?_ | refine EvR.aMetT ?_ | refine EvR.aMetF ?_ | refine EvR.aUS ?_ | refine EvR.mvc ?_ | refine EvR.lv ?_ | refine EvR.lp ?_ | refine EvR.lNp ?_ | refine EvR.pkT ?_ | refine EvR.pkF ?_ | refine EvR.lN ?_ | refine EvR.ix ?_ | refine EvR.le ?_ | refine EvR.ixo ?_ | refine EvR.l1o ?_ | refine EvR.lei ?_ | refine EvR.leb ?_ | refine EvR.lnr ?_ | refine EvR.lns ?_ | refine EvR.nt ?_ | refine EvR.lt ?_ | refine EvR.le_ ?_ | refine EvR.gt ?_ | refine EvR.ge ?_ | refine EvR.eqi ?_ | refine EvR.nei ?_ | refine EvR.add ?_ | refine EvR.sub ?_ | refine EvR.mul ?_ | refine EvR.rem ?_ | refine EvR.quo ?_ | refine EvR.nc ?_ | refine EvR.ex ?_ | refine EvR.f1 ?_ | refine EvR.fadd ?_ | refine EvR.fsub ?_ | refine EvR.fmul ?_ | refine EvR.fquo ?_ | refine EvR.flt_ ?_ | refine EvR.fle_ ?_ | refine EvR.fgt_ ?_ | refine EvR.fge_ ?_ | refine EvR.feq_ ?_ | refine EvR.fne_ ?_ | refine EvR.cv ?_ | refine EvR.cvu ?_ | refine EvR.cvf ?_ | refine EvR.cvw ?_ | refine EvR.bx ?_ | refine EvR.aNotNT ?_ | refine EvR.aNotNF ?_ | refine EvR.aUN ?_ | refine EvR.nl ?_ | refine EvR.so ?_ | (apply Ev.regionQ drk; (· exact quie)) | (apply Ev.regionN0 drk; (· exact quie)) | (apply Ev.regionA drk (by assumption); (· exact quie)) | (apply Ev.regionNA drk (by assumption); (· exact quie)) | (apply Ev.regionS0 drk; (· exact quie)) | (refine EvR.aSplB ?_ ?_ <;> (intro hb; rw [hb]; (try simp only [Bool.not_eq_true', Bool.not_eq_false', Bool.not_eq_eq_eq_not, Bool.not_true, Bool.not_false, decide_eq_true_eq, decide_eq_false_iff_not, Bool.and_eq_true, Bool.and_eq_false_iff, Bool.or_eq_true, Bool.or_eq_false_iff] at hb); (try (exfalso; omega)))) | (refine Ev.aSplB ?_ ?_ <;> (intro hb; (try rw [hb]); (try simp only [Bool.not_eq_true', Bool.not_eq_false', Bool.not_eq_eq_eq_not, Bool.not_true, Bool.not_false, decide_eq_true_eq, decide_eq_false_iff_not, Bool.and_eq_true, Bool.and_eq_false_iff, Bool.or_eq_true, Bool.or_eq_false_iff] at hb); (try (exfalso; omega)))) | (apply EvR.aS0; (· exact evc)) | (apply EvR.aN0; (· exact evc)) | (apply endS trivial; rotate_left; (· exact eva); (· rfl); try refine ⟨?_, rfl⟩) | fail)
      exact ⟨(y + 1, rub2), by dsimp only; omega, by rw [Nat.mul_succ]; (simp only [List.cons_append, List.nil_append, ↓fget_cons, push_cast, Nat.reduceEqDiff, reduceIte] <;> rfl), by dsimp only; rw [Nat.mul_succ], by dsimp only; omega⟩
  · obtain rfl : y = H := by omega
    repeat' (first | apply Ev.sq | apply Ev.rg | refine Ev.aKp ?_ | apply thenQ.n | apply thenQ.e | apply thenQ.r | apply blkQ.n | apply blkQ.e | refine blkQ.x ?_ rfl | apply blkQ.r | refine Ev.aT ?_ | refine Ev.aF ?_ | apply Ev.skip | apply Ev.exit | apply Ev.ret | apply Ev.bk | refine EvR.mv ?_ | refine EvR.fa ?_ | refine EvR.l1 ?_ | refine EvR.aNotSF ?_ | refine EvR.aNotST ?_ | refine EvR.aMetT ?_ | refine EvR.aMetF ?_ | refine EvR.aUS ?_ | refine EvR.mvc ?_ | refine EvR.lv ?_ | refine EvR.lp ?_ | refine EvR.lNp ?_ | refine EvR.pkT ?_ | refine EvR.pkF ?_ | refine EvR.lN ?_ | refine EvR.ix ?_ | refine EvR.le ?_ | refine EvR.ixo ?_ | refine EvR.l1o ?_ | refine EvR.lei ?_ | refine EvR.leb ?_ | refine EvR.lnr ?_ | refine EvR.lns ?_ | refine EvR.nt ?_ | refine EvR.lt ?_ | refine EvR.le_ ?_ | refine EvR.gt ?_ | refine EvR.ge ?_ | refine EvR.eqi ?_ | refine EvR.nei ?_ | refine EvR.add ?_ | refine EvR.sub ?_ | refine EvR.mul ?_ | refine EvR.rem ?_ | refine EvR.quo ?_ | refine EvR.nc ?_ | refine EvR.ex ?_ | refine EvR.f1 ?_ | refine EvR.fadd ?_ | refine EvR.fsub ?_ | refine EvR.fmul ?_ | refine EvR.fquo ?_ | refine EvR.flt_ ?_ | refine EvR.fle_ ?_ | refine EvR.fgt_ ?_ | refine EvR.fge_ ?_ | refine EvR.feq_ ?_ | refine EvR.fne_ ?_ | refine EvR.cv ?_ | refine EvR.cvu ?_ | refine EvR.cvf ?_ | refine EvR.cvw ?_ | refine EvR.bx ?_ | refine EvR.aNotNT ?_ | refine EvR.aNotNF ?_ | refine EvR.aUN ?_ | refine EvR.nl ?_ | refine EvR.so ?_ | (apply Ev.regionQ drk; (· exact quie)) | (apply Ev.regionN0 drk; (· exact quie)) | (apply Ev.regionA drk (by assumption); (· exact quie)) | (apply Ev.regionNA drk (by assumption); (· exact quie)) | (apply Ev.regionS0 drk; (· exact quie)) | (refine EvR.aSplB ?_ ?_ <;> (intro hb; rw [hb]; (try simp only [Bool.not_eq_true', Bool.not_eq_false', Bool.not_eq_eq_eq_not, Bool.not_true, Bool.not_false, decide_eq_true_eq, decide_eq_false_iff_not, Bool.and_eq_true, Bool.and_eq_false_iff, Bool.or_eq_true, Bool.or_eq_false_iff] at hb); (try (exfalso; omega)))) | (refine Ev.aSplB ?_ ?_ <;> (intro hb; (try rw [hb]); (try simp only [Bool.not_eq_true', Bool.not_eq_false', Bool.not_eq_eq_eq_not, Bool.not_true, Bool.not_false, decide_eq_true_eq, decide_eq_false_iff_not, Bool.and_eq_true, Bool.and_eq_false_iff, Bool.or_eq_true, Bool.or_eq_false_iff] at hb); (try (exfalso; omega)))) | (apply EvR.aS0; (· exact evc)) | (apply EvR.aN0; (· exact evc)) | (apply endS trivial; rotate_left; (· exact eva); (· rfl); try refine ⟨?_, rfl⟩) | fail)
    (apply endR [1] trivial ⟨rfl, rfl⟩; (· exact eva); (· simp [gcTop, gcVal, gcLeaf, gcLeaves, gcVals, constOk, gc_lt, gc_lt0]); (· rfl); (· decide); (· simp [allConst, f32s, i64s, b8s, bools, constOk]))

def diffS (sp : List Nat) (a b : Nat) : Bool := !feq .f32 (sp.getD a 0) (sp.getD b 0)
theorem atC_bd {W H : Nat} {u v : Int} (hW : 3 ≤ W) (hH : 3 ≤ H) (u1 : -1 ≤ u) (u2 : u ≤ W) (v1 : -1 ≤ v) (v2 : v ≤ H) : 0 ≤ atC W H u v ∧ atC W H u v < ((W * H : Nat) : Int) := by
  unfold atC
  rw [wrapC (by omega) u1 u2, wrapC (by omega) v1 v2]
  obtain ⟨x, hx, ex⟩ : ∃ x : Nat, x < W ∧ (if u = -1 then (W : Int) - 1 else if u = W then 0 else u) = x := by
    refine ⟨(if u = -1 then (W : Int) - 1 else if u = W then 0 else u).toNat, ?_, ?_⟩ <;> split <;> (try split) <;> omega
  obtain ⟨y, hy, ey⟩ : ∃ y : Nat, y < H ∧ (if v = -1 then (H : Int) - 1 else if v = H then 0 else v) = y := by
    refine ⟨(if v = -1 then (H : Int) - 1 else if v = H then 0 else v).toNat, ?_, ?_⟩ <;> split <;> (try split) <;> omega
  rw [ex, ey]
  have := cell_lt hx hy
  have e : (W : Int) * (y : Int) = ((W * y : Nat) : Int) := (Int.natCast_mul _ _).symm
  omega
def condI (D : Nat → Nat → Bool) (wr : Bool) (w h x y : Int) (p : Int × Int) : Bool := (wr || (inR (x + p.1) 0 (w - 1) && inR (y + p.2) 0 (h - 1))) && D (atC w h (x + p.1) (y + p.2)).toNat (atC w h x y).toNat
theorem edgeI_t {D : Nat → Nat → Bool} {wr : Bool} {w h x y : Int} {i : Nat} (hi : i < 4) (hh : condI D wr w h x y (four.getD i (0, 0)) = true) : edgeI D wr w h x y = true := by
  unfold edgeI
  rw [List.any_eq_true]
  refine ⟨four.getD i (0, 0), ?_, hh⟩
  rw [List.getD_eq_getElem?_getD, List.getElem?_eq_getElem (by show i < 4; exact hi)]
  simp
theorem edgeI_f {D : Nat → Nat → Bool} {wr : Bool} {w h x y : Int} (hh : ∀ i, i < 4 → condI D wr w h x y (four.getD i (0, 0)) = false) : edgeI D wr w h x y = false := by
  unfold edgeI
  rw [List.any_eq_false]
  intro p hp
  obtain ⟨i, hi, rfl⟩ := List.getElem_of_mem hp
  have := hh i hi
  rw [List.getD_eq_getElem?_getD, List.getElem?_eq_getElem hi] at this
  simp only [Option.getD_some, condI] at this
  rw [this]; simp
theorem four_at {i : Nat} (hi : i < 4) : ∃ dx dy : Int, four.getD i (0, 0) = (dx, dy) ∧ -1 ≤ dx ∧ dx ≤ 1 ∧ -1 ≤ dy ∧ dy ≤ 1 ∧ aIndexN 4 2 (.agg #[.int .i64 1, .int .i64 0, .int .i64 (-1), .int .i64 0, .int .i64 0, .int .i64 1, .int .i64 0, .int .i64 (-1)]) (.int .i64 i) = some (.agg #[.int .i64 dx, .int .i64 dy]) := by
  match i, hi with
  | 0, _ => exact ⟨1, 0, rfl, by omega, by omega, by omega, by omega, rfl⟩
  | 1, _ => exact ⟨-1, 0, rfl, by omega, by omega, by omega, by omega, rfl⟩
  | 2, _ => exact ⟨0, 1, rfl, by omega, by omega, by omega, by omega, rfl⟩
  | 3, _ => exact ⟨0, -1, rfl, by omega, by omega, by omega, by omega, rfl⟩

def impl_OutlineOfC1_ok (c : Contract) : Prop := ∀ (σ : Heap) (b : Nat) (W H : Nat) (wr : Bool) (sv lv : Value) (sp lo : List Nat) (r : Bool) (x y : Nat), σ[b]? = some ⟨[.int .i64 W, .int .i64 H, .bool wr, sv, lv], 0, r⟩ → ShR σ sv lv sp lo → 3 ≤ W → W ≤ 16 → 3 ≤ H → H ≤ 16 → sp.length = W * H → x < W → y < H →
    Ret c [.int .i64 x, .int .i64 y, .pointer (some ⟨b, 0, none⟩)] σ fun v σ' => v = .bool (edgeI (diffS sp) wr W H x y) ∧ σ' = σ
theorem impl_OutlineOfC1_law {C : Ctab} {i1 i2 : FuncId} {c1 c2 : Contract} (h1 : Has C i1 c1 impl_Sheet_isCell_ok) (h2 : Has C i2 c2 impl_Sheet_at_ok) : impl_OutlineOfC1_ok (gcC C (impl_OutlineOfC1 i1 i2) true) := by
  intro σ b W H wr sv lv sp lo r x y hb ⟨r1, r2⟩ a1 a2 a3 a4 hl hx hy
  have p1 := PtAt.whole hb
  have k1 := r1.ok
  have k2 := r2.ok
  have q0 := atC_bd (u := x) (v := y) a1 a3 (by omega) (by omega) (by omega) (by omega)
  refine ret_gc rfl rfl ?_
  repeat' (first | apply Ev.sq | apply Ev.rg | refine Ev.aKp ?_ | apply thenQ.n | apply thenQ.e | apply thenQ.r | apply blkQ.n | apply blkQ.e | refine blkQ.x ?_ rfl | apply blkQ.r | refine Ev.aT ?_ | refine Ev.aF ?_ | apply Ev.skip | apply Ev.exit | apply Ev.ret | apply Ev.bk | refine EvR.mv ?_ | refine EvR.fa ?_ | refine EvR.l1 ?_ | refine EvR.aNotSF ?_ | refine EvR.aNotST ?_ | refine EvR.aMetT ?_ | refine EvR.aMetF ?_ | refine EvR.aUS ?_ | refine EvR.mvc ?_ | refine EvR.lv ?_ | refine EvR.lp ?_ | refine EvR.lNp ?_ | refine EvR.pkT ?_ | refine EvR.pkF ?_ | refine EvR.lN ?_ | refine EvR.ix ?_ | refine EvR.le ?_ | refine EvR.ixo ?_ | refine EvR.l1o ?_ | refine EvR.lei ?_ | refine EvR.leb ?_ | refine EvR.lnr ?_ | refine EvR.lns ?_ | refine EvR.nt ?_ | refine EvR.lt ?_ | refine EvR.le_ ?_ | refine EvR.gt ?_ | refine EvR.ge ?_ | refine EvR.eqi ?_ | refine EvR.nei ?_ | refine EvR.add ?_ | refine EvR.sub ?_ | refine EvR.mul ?_ | refine EvR.rem ?_ | refine EvR.quo ?_ | refine EvR.nc ?_ | refine EvR.ex ?_ | refine EvR.f1 ?_ | refine EvR.fadd ?_ | refine EvR.fsub ?_ | refine EvR.fmul ?_ | refine EvR.fquo ?_ | refine EvR.flt_ ?_ | refine EvR.fle_ ?_ | refine EvR.fgt_ ?_ | refine EvR.fge_ ?_ | refine EvR.feq_ ?_ | refine EvR.fne_ ?_ | refine EvR.cv ?_ | refine EvR.cvu ?_ | refine EvR.cvf ?_ | refine EvR.cvw ?_ | refine EvR.bx ?_ | refine EvR.aNotNT ?_ | refine EvR.aNotNF ?_ | refine EvR.aUN ?_ | refine EvR.nl ?_ | refine EvR.so ?_ | (apply Ev.regionQ drk; (· exact quie)) | (apply Ev.regionN0 drk; (· exact quie)) | (apply Ev.regionA drk (by assumption); (· exact quie)) | (apply Ev.regionNA drk (by assumption); (· exact quie)) | (apply Ev.regionS0 drk; (· exact quie)) | (refine EvR.aSplB ?_ ?_ <;> (intro hb; rw [hb]; (try simp only [Bool.not_eq_true', Bool.not_eq_false', Bool.not_eq_eq_eq_not, Bool.not_true, Bool.not_false, decide_eq_true_eq, decide_eq_false_iff_not, Bool.and_eq_true, Bool.and_eq_false_iff, Bool.or_eq_true, Bool.or_eq_false_iff] at hb); (try (exfalso; omega)))) | (refine Ev.aSplB ?_ ?_ <;> (intro hb; (try rw [hb]); (try simp only [Bool.not_eq_true', Bool.not_eq_false', Bool.not_eq_eq_eq_not, Bool.not_true, Bool.not_false, decide_eq_true_eq, decide_eq_false_iff_not, Bool.and_eq_true, Bool.and_eq_false_iff, Bool.or_eq_true, Bool.or_eq_false_iff] at hb); (try (exfalso; omega)))) | (apply EvR.aS0; (· exact evc)) | (apply EvR.aN0; (· exact evc)) | (apply endS trivial; rotate_left; (· exact eva); (· rfl); try refine ⟨?_, rfl⟩) | fail)
  refine Ev.whlH (S := Nat × Heap) (fun st => 4 - st.1) (fun st => [(15, .int .i64 st.1)]) (fun st => σ ++ st.2) (fun st => st.1 ≤ 4 ∧ ∀ j, j < st.1 → condI (diffS sp) wr W H x y (four.getD j (0, 0)) = false) (0, []) (by (simp only [List.cons_append, List.nil_append, ↓fget_cons, push_cast, Nat.reduceEqDiff, reduceIte] <;> rfl)) rfl ⟨Nat.zero_le _, fun j hj => by dsimp only at hj; omega⟩ ?_
  rintro ⟨i, rub⟩ F hF ⟨hi, hp⟩
  dsimp only at hi hF hp ⊢
  (simp only [List.cons_append, List.nil_append, ↓fget_cons, fkeep_cons, fkeep_nil, Nat.reduceEqDiff, reduceIte] at hF; subst hF)
  by_cases hlt : i < 4
  · obtain ⟨dx, dy, e1, d1, d2, d3, d4, e2⟩ := four_at hlt
    have q1 := atC_bd (W := W) (H := H) (u := x + dx) (v := y + dy) a1 a3 (by omega) (by omega) (by omega) (by omega)
    have ec : condI (diffS sp) wr W H x y (four.getD i (0, 0)) = ((wr || (inR (x + dx) 0 (W - 1) && inR (y + dy) 0 (H - 1))) && diffS sp (atC W H (x + dx) (y + dy)).toNat (atC W H x y).toNat) := by rw [e1]; rfl
    repeat' (first | apply Ev.sq | apply Ev.rg | refine Ev.aKp ?_ | apply thenQ.n | apply thenQ.e | apply thenQ.r | apply blkQ.n | apply blkQ.e | refine blkQ.x ?_ rfl | apply blkQ.r | refine Ev.aT ?_ | refine Ev.aF ?_ | apply Ev.skip | apply Ev.exit | apply Ev.ret | apply Ev.bk | refine EvR.mv ?_ | refine EvR.fa ?_ | refine EvR.l1 ?_ | refine EvR.aNotSF ?_ | refine EvR.aNotST ?_ | refine EvR.aMetT ?_ | refine EvR.aMetF ?_ | refine EvR.aUS ?_ | refine EvR.mvc ?_ | refine EvR.lv ?_ | refine EvR.lp ?_ | refine EvR.lNp ?_ | refine EvR.pkT ?_ | refine EvR.pkF ?_ | refine EvR.lN ?_ | refine EvR.ix ?_ | refine EvR.le ?_ | refine EvR.ixo ?_ | refine EvR.l1o ?_ | refine EvR.lei ?_ | refine EvR.leb ?_ | refine EvR.lnr ?_ | refine EvR.lns ?_ | refine EvR.nt ?_ | refine EvR.lt ?_ | refine EvR.le_ ?_ | refine EvR.gt ?_ | refine EvR.ge ?_ | refine EvR.eqi ?_ | refine EvR.nei ?_ | refine EvR.add ?_ | refine EvR.sub ?_ | refine EvR.mul ?_ | refine EvR.rem ?_ | refine EvR.quo ?_ | refine EvR.nc ?_ | refine EvR.ex ?_ | refine EvR.f1 ?_ | refine EvR.fadd ?_ | refine EvR.fsub ?_ | refine EvR.fmul ?_ | refine EvR.fquo ?_ | refine EvR.flt_ ?_ | refine EvR.fle_ ?_ | refine EvR.fgt_ ?_ | refine EvR.fge_ ?_ | refine EvR.feq_ ?_ | refine EvR.fne_ ?_ | refine EvR.cv ?_ | refine EvR.cvu ?_ | refine EvR.cvf ?_ | refine EvR.cvw ?_ | refine EvR.bx ?_ | refine EvR.aNotNT ?_ | refine EvR.aNotNF ?_ | refine EvR.aUN ?_ | refine EvR.nl ?_ | refine EvR.so ?_ | (apply Ev.regionQ drk; (· exact quie)) | (apply Ev.regionN0 drk; (· exact quie)) | (apply Ev.regionA drk (by assumption); (· exact quie)) | (apply Ev.regionNA drk (by assumption); (· exact quie)) | (apply Ev.regionS0 drk; (· exact quie)) | (refine EvR.aSplB ?_ ?_ <;> (intro hb; rw [hb]; (try simp only [Bool.not_eq_true', Bool.not_eq_false', Bool.not_eq_eq_eq_not, Bool.not_true, Bool.not_false, decide_eq_true_eq, decide_eq_false_iff_not, Bool.and_eq_true, Bool.and_eq_false_iff, Bool.or_eq_true, Bool.or_eq_false_iff] at hb); (try (exfalso; omega)))) | (refine Ev.aSplB ?_ ?_ <;> (intro hb; (try rw [hb]); (try simp only [Bool.not_eq_true', Bool.not_eq_false', Bool.not_eq_eq_eq_not, Bool.not_true, Bool.not_false, decide_eq_true_eq, decide_eq_false_iff_not, Bool.and_eq_true, Bool.and_eq_false_iff, Bool.or_eq_true, Bool.or_eq_false_iff] at hb); (try (exfalso; omega)))) | (apply EvR.aS0; (· exact evc)) | (apply EvR.aN0; (· exact evc)) | (apply endS trivial; rotate_left; (· exact eva); (· rfl); try refine ⟨?_, rfl⟩) | fail)
    refine EvR.opS (by show (aIndexN 4 2 (.agg _) (.int .i64 (i : Int))).map _ = _; rw [e2]; rfl) ?_
    repeat' (first | apply Ev.sq | apply Ev.rg | refine Ev.aKp ?_ | apply thenQ.n | apply thenQ.e | apply thenQ.r | apply blkQ.n | apply blkQ.e | refine blkQ.x ?_ rfl | apply blkQ.r | refine Ev.aT ?_ | refine Ev.aF ?_ | apply Ev.skip | apply Ev.exit | apply Ev.ret | apply Ev.bk | refine EvR.mv ?_ | refine EvR.fa ?_ | refine EvR.l1 ?_ | refine EvR.aNotSF ?_ | refine EvR.aNotST ?_ | refine EvR.aMetT ?_ | refine EvR.aMetF ?_ | refine EvR.aUS ?_ | refine EvR.mvc ?_ | refine EvR.lv ?_ | refine EvR.lp ?_ | refine EvR.lNp ?_ | refine EvR.pkT ?_ | refine EvR.pkF ?_ | refine EvR.lN ?_ | refine EvR.ix ?_ | refine EvR.le ?_ | refine EvR.ixo ?_ | refine EvR.l1o ?_ | refine EvR.lei ?_ | refine EvR.leb ?_ | refine EvR.lnr ?_ | refine EvR.lns ?_ | refine EvR.nt ?_ | refine EvR.lt ?_ | refine EvR.le_ ?_ | refine EvR.gt ?_ | refine EvR.ge ?_ | refine EvR.eqi ?_ | refine EvR.nei ?_ | refine EvR.add ?_ | refine EvR.sub ?_ | refine EvR.mul ?_ | refine EvR.rem ?_ | refine EvR.quo ?_ | refine EvR.nc ?_ | refine EvR.ex ?_ | refine EvR.f1 ?_ | refine EvR.fadd ?_ | refine EvR.fsub ?_ | refine EvR.fmul ?_ | refine EvR.fquo ?_ | refine EvR.flt_ ?_ | refine EvR.fle_ ?_ | refine EvR.fgt_ ?_ | refine EvR.fge_ ?_ | refine EvR.feq_ ?_ | refine EvR.fne_ ?_ | refine EvR.cv ?_ | refine EvR.cvu ?_ | refine EvR.cvf ?_ | refine EvR.cvw ?_ | refine EvR.bx ?_ | refine EvR.aNotNT ?_ | refine EvR.aNotNF ?_ | refine EvR.aUN ?_ | refine EvR.nl ?_ | refine EvR.so ?_ | (apply Ev.regionQ drk; (· exact quie)) | (apply Ev.regionN0 drk; (· exact quie)) | (apply Ev.regionA drk (by assumption); (· exact quie)) | (apply Ev.regionNA drk (by assumption); (· exact quie)) | (apply Ev.regionS0 drk; (· exact quie)) | (refine EvR.aSplB ?_ ?_ <;> (intro hb; rw [hb]; (try simp only [Bool.not_eq_true', Bool.not_eq_false', Bool.not_eq_eq_eq_not, Bool.not_true, Bool.not_false, decide_eq_true_eq, decide_eq_false_iff_not, Bool.and_eq_true, Bool.and_eq_false_iff, Bool.or_eq_true, Bool.or_eq_false_iff] at hb); (try (exfalso; omega)))) | (refine Ev.aSplB ?_ ?_ <;> (intro hb; (try rw [hb]); (try simp only [Bool.not_eq_true', Bool.not_eq_false', Bool.not_eq_eq_eq_not, Bool.not_true, Bool.not_false, decide_eq_true_eq, decide_eq_false_iff_not, Bool.and_eq_true, Bool.and_eq_false_iff, Bool.or_eq_true, Bool.or_eq_false_iff] at hb); (try (exfalso; omega)))) | (apply EvR.aS0; (· exact evc)) | (apply EvR.aN0; (· exact evc)) | (apply endS trivial; rotate_left; (· exact eva); (· rfl); try refine ⟨?_, rfl⟩) | fail)
    refine EvR.opS (v := .pointer (some ⟨σ.length + rub.length, 0, none⟩)) (by rfl) ?_
    refine EvR.opS (v := .int .i64 dx) (by show (aLoad1 _ (.pointer (some ⟨σ.length + rub.length, 0, none⟩))).map _ = _; unfold aLoad1; dsimp only; rw [hget, get_end0]; rfl) ?_
    repeat' (first | apply Ev.sq | apply Ev.rg | refine Ev.aKp ?_ | apply thenQ.n | apply thenQ.e | apply thenQ.r | apply blkQ.n | apply blkQ.e | refine blkQ.x ?_ rfl | apply blkQ.r | refine Ev.aT ?_ | refine Ev.aF ?_ | apply Ev.skip | apply Ev.exit | apply Ev.ret | apply Ev.bk | refine EvR.mv ?_ | refine EvR.fa ?_ | refine EvR.l1 ?_ | refine EvR.aNotSF ?_ | refine EvR.aNotST ?_ | refine EvR.aMetT ?_ | refine EvR.aMetF ?_ | refine EvR.aUS ?_ | refine EvR.mvc ?_ | refine EvR.lv ?_ | refine EvR.lp ?_ | refine EvR.lNp ?_ | refine EvR.pkT ?_ | refine EvR.pkF ?_ | refine EvR.lN ?_ | refine EvR.ix ?_ | refine EvR.le ?_ | refine EvR.ixo ?_ | refine EvR.l1o ?_ | refine EvR.lei ?_ | refine EvR.leb ?_ | refine EvR.lnr ?_ | refine EvR.lns ?_ | refine EvR.nt ?_ | refine EvR.lt ?_ | refine EvR.le_ ?_ | refine EvR.gt ?_ | refine EvR.ge ?_ | refine EvR.eqi ?_ | refine EvR.nei ?_ | refine EvR.add ?_ | refine EvR.sub ?_ | refine EvR.mul ?_ | refine EvR.rem ?_ | refine EvR.quo ?_ | refine EvR.nc ?_ | refine EvR.ex ?_ | refine EvR.f1 ?_ | refine EvR.fadd ?_ | refine EvR.fsub ?_ | refine EvR.fmul ?_ | refine EvR.fquo ?_ | refine EvR.flt_ ?_ | refine EvR.fle_ ?_ | refine EvR.fgt_ ?_ | refine EvR.fge_ ?_ | refine EvR.feq_ ?_ | refine EvR.fne_ ?_ | refine EvR.cv ?_ | refine EvR.cvu ?_ | refine EvR.cvf ?_ | refine EvR.cvw ?_ | refine EvR.bx ?_ | refine EvR.aNotNT ?_ | refine EvR.aNotNF ?_ | refine EvR.aUN ?_ | refine EvR.nl ?_ | refine EvR.so ?_ | (apply Ev.regionQ drk; (· exact quie)) | (apply Ev.regionN0 drk; (· exact quie)) | (apply Ev.regionA drk (by assumption); (· exact quie)) | (apply Ev.regionNA drk (by assumption); (· exact quie)) | (apply Ev.regionS0 drk; (· exact quie)) | (refine EvR.aSplB ?_ ?_ <;> (intro hb; rw [hb]; (try simp only [Bool.not_eq_true', Bool.not_eq_false', Bool.not_eq_eq_eq_not, Bool.not_true, Bool.not_false, decide_eq_true_eq, decide_eq_false_iff_not, Bool.and_eq_true, Bool.and_eq_false_iff, Bool.or_eq_true, Bool.or_eq_false_iff] at hb); (try (exfalso; omega)))) | (refine Ev.aSplB ?_ ?_ <;> (intro hb; (try rw [hb]); (try simp only [Bool.not_eq_true', Bool.not_eq_false', Bool.not_eq_eq_eq_not, Bool.not_true, Bool.not_false, decide_eq_true_eq, decide_eq_false_iff_not, Bool.and_eq_true, Bool.and_eq_false_iff, Bool.or_eq_true, Bool.or_eq_false_iff] at hb); (try (exfalso; omega)))) | (apply EvR.aS0; (· exact evc)) | (apply EvR.aN0; (· exact evc)) | (apply endS trivial; rotate_left; (· exact eva); (· rfl); try refine ⟨?_, rfl⟩) | fail)
    refine EvR.opS (v := .pointer (some ⟨σ.length + rub.length, 1, none⟩)) (by rfl) ?_
    refine EvR.opS (v := .int .i64 dy) (by show (aLoad1 _ (.pointer (some ⟨σ.length + rub.length, 1, none⟩))).map _ = _; unfold aLoad1; dsimp only; rw [hget, get_end0]; rfl) ?_
    repeat' (first | apply Ev.sq | apply Ev.rg | refine Ev.aKp ?_ | apply thenQ.n | apply thenQ.e | apply thenQ.r | apply blkQ.n | apply blkQ.e | refine blkQ.x ?_ rfl | apply blkQ.r | refine Ev.aT ?_ | refine Ev.aF ?_ | apply Ev.skip | apply Ev.exit | apply Ev.ret | apply Ev.bk | refine EvR.mv ?_ | refine EvR.fa ?_ | refine EvR.l1 ?_ | refine EvR.aNotSF ?_ | refine EvR.aNotST ?_ | refine EvR.aMetT ?_ | refine EvR.aMetF ?_ | refine EvR.aUS ?_ | refine EvR.mvc ?_ | refine EvR.lv ?_ | refine EvR.lp ?_ | refine EvR.lNp ?_ | refine EvR.pkT ?_ | refine EvR.pkF ?_ | refine EvR.lN ?_ | refine EvR.ix ?_ | refine EvR.le ?_ | refine EvR.ixo ?_ | refine EvR.l1o ?_ | refine EvR.lei ?_ | refine EvR.leb ?_ | refine EvR.lnr ?_ | refine EvR.lns ?_ | refine EvR.nt ?_ | refine EvR.lt ?_ | refine EvR.le_ ?_ | refine EvR.gt ?_ | refine EvR.ge ?_ | refine EvR.eqi ?_ | refine EvR.nei ?_ | refine EvR.add ?_ | refine EvR.sub ?_ | refine EvR.mul ?_ | refine EvR.rem ?_ | refine EvR.quo ?_ | refine EvR.nc ?_ | refine EvR.ex ?_ | refine EvR.f1 ?_ | refine EvR.fadd ?_ | refine EvR.fsub ?_ | refine EvR.fmul ?_ | refine EvR.fquo ?_ | refine EvR.flt_ ?_ | refine EvR.fle_ ?_ | refine EvR.fgt_ ?_ | refine EvR.fge_ ?_ | refine EvR.feq_ ?_ | refine EvR.fne_ ?_ | refine EvR.cv ?_ | refine EvR.cvu ?_ | refine EvR.cvf ?_ | refine EvR.cvw ?_ | refine EvR.bx ?_ | refine EvR.aNotNT ?_ | refine EvR.aNotNF ?_ | refine EvR.aUN ?_ | refine EvR.nl ?_ | refine EvR.so ?_ | (apply EvR.aCall h1.at_; (· exact eva); (· apply h1.ok <;> exact sid); (rintro _ _ ⟨rfl, rfl⟩; refine EvR.nrm ?_)) | (apply EvR.aCall h2.at_; (· exact eva); (· apply h2.ok <;> exact sid); (rintro _ _ ⟨rfl, rfl⟩; refine EvR.nrm ?_)) | (apply Ev.regionQ drk; (· exact quie)) | (apply Ev.regionN0 drk; (· exact quie)) | (apply Ev.regionA drk (by assumption); (· exact quie)) | (apply Ev.regionNA drk (by assumption); (· exact quie)) | (apply Ev.regionS0 drk; (· exact quie)) | (refine EvR.aSplB ?_ ?_ <;> (intro hb; rw [hb]; (try simp only [Bool.not_eq_true', Bool.not_eq_false', Bool.not_eq_eq_eq_not, Bool.not_true, Bool.not_false, decide_eq_true_eq, decide_eq_false_iff_not, Bool.and_eq_true, Bool.and_eq_false_iff, Bool.or_eq_true, Bool.or_eq_false_iff] at hb); (try (exfalso; omega)))) | (refine Ev.aSplB ?_ ?_ <;> (intro hb; (try rw [hb]); (try simp only [Bool.not_eq_true', Bool.not_eq_false', Bool.not_eq_eq_eq_not, Bool.not_true, Bool.not_false, decide_eq_true_eq, decide_eq_false_iff_not, Bool.and_eq_true, Bool.and_eq_false_iff, Bool.or_eq_true, Bool.or_eq_false_iff] at hb); (try (exfalso; omega)))) | (apply EvR.aS0; (· exact evc)) | (apply EvR.aN0; (· exact evc)) | (apply endS trivial; rotate_left; (· exact eva); (· rfl); try refine ⟨?_, rfl⟩) | fail)
    all_goals subst_vars
    all_goals first
      | (rw [edgeI_t hlt (by rw [ec]; unfold diffS; clear hp; grind)]; done)
      | (refine ⟨(i + 1, rub ++ [⟨[.int .i64 dx, .int .i64 dy], 0, true⟩]), by dsimp only; omega, by (simp only [List.cons_append, List.nil_append, ↓fget_cons, push_cast, Nat.reduceEqDiff, reduceIte] <;> rfl), rfl, by dsimp only; omega, fun j hj => ?_⟩
         dsimp only at hj
         rcases Nat.lt_or_ge j i with hji | hji
         · exact hp j hji
         · obtain rfl : j = i := by omega
           rw [ec]; unfold diffS; clear hp; grind)
  · obtain rfl : i = 4 := by omega
    repeat' (first | apply Ev.sq | apply Ev.rg | refine Ev.aKp ?_ | apply thenQ.n | apply thenQ.e | apply thenQ.r | apply blkQ.n | apply blkQ.e | refine blkQ.x ?_ rfl | apply blkQ.r | refine Ev.aT ?_ | refine Ev.aF ?_ | apply Ev.skip | apply Ev.exit | apply Ev.ret | apply Ev.bk | refine EvR.mv ?_ | refine EvR.fa ?_ | refine EvR.l1 ?_ | refine EvR.aNotSF ?_ | refine EvR.aNotST ?_ | refine EvR.aMetT ?_ | refine EvR.aMetF ?_ | refine EvR.aUS ?_ | refine EvR.mvc ?_ | refine EvR.lv ?_ | refine EvR.lp ?_ | refine EvR.lNp ?_ | refine EvR.pkT ?_ | refine EvR.pkF ?_ | refine EvR.lN ?_ | refine EvR.ix ?_ | refine EvR.le ?_ | refine EvR.ixo ?_ | refine EvR.l1o ?_ | refine EvR.lei ?_ | refine EvR.leb ?_ | refine EvR.lnr ?_ | refine EvR.lns ?_ | refine EvR.nt ?_ | refine EvR.lt ?_ | refine EvR.le_ ?_ | refine EvR.gt ?_ | refine EvR.ge ?_ | refine EvR.eqi ?_ | refine EvR.nei ?_ | refine EvR.add ?_ | refine EvR.sub ?_ | refine EvR.mul ?_ | refine EvR.rem ?_ | refine EvR.quo ?_ | refine EvR.nc ?_ | refine EvR.ex ?_ | refine EvR.f1 ?_ | refine EvR.fadd ?_ | refine EvR.fsub ?_ | refine EvR.fmul ?_ | refine EvR.fquo ?_ | refine EvR.flt_ ?_ | refine EvR.fle_ ?_ | refine EvR.fgt_ ?_ | refine EvR.fge_ ?_ | refine EvR.feq_ ?_ | refine EvR.fne_ ?_ | refine EvR.cv ?_ | refine EvR.cvu ?_ | refine EvR.cvf ?_ | refine EvR.cvw ?_ | refine EvR.bx ?_ | refine EvR.aNotNT ?_ | refine EvR.aNotNF ?_ | refine EvR.aUN ?_ | refine EvR.nl ?_ | refine EvR.so ?_ | (apply Ev.regionQ drk; (· exact quie)) | (apply Ev.regionN0 drk; (· exact quie)) | (apply Ev.regionA drk (by assumption); (· exact quie)) | (apply Ev.regionNA drk (by assumption); (· exact quie)) | (apply Ev.regionS0 drk; (· exact quie)) | (refine EvR.aSplB ?_ ?_ <;> (intro hb; rw [hb]; (try simp only [Bool.not_eq_true', Bool.not_eq_false', Bool.not_eq_eq_eq_not, Bool.not_true, Bool.not_false, decide_eq_true_eq, decide_eq_false_iff_not, Bool.and_eq_true, Bool.and_eq_false_iff, Bool.or_eq_true, Bool.or_eq_false_iff] at hb); (try (exfalso; omega)))) | (refine Ev.aSplB ?_ ?_ <;> (intro hb; (try rw [hb]); (try simp only [Bool.not_eq_true', Bool.not_eq_false', Bool.not_eq_eq_eq_not, Bool.not_true, Bool.not_false, decide_eq_true_eq, decide_eq_false_iff_not, Bool.and_eq_true, Bool.and_eq_false_iff, Bool.or_eq_true, Bool.or_eq_false_iff] at hb); (try (exfalso; omega)))) | (apply EvR.aS0; (· exact evc)) | (apply EvR.aN0; (· exact evc)) | (apply endS trivial; rotate_left; (· exact eva); (· rfl); try refine ⟨?_, rfl⟩) | fail)
    rw [edgeI_f hp]

/-- Indices of cells and whether there are any, as results. -/
def ciRes (ok : Bool) (b : Nat) (xs : List Int) : Value := if ok = true then .tuple #[slV b xs.length, .bool true] else .tuple #[.slice none 0 0, .bool false]
def ciRows (ok : Bool) (xs : List Int) : Heap := if ok = true then [rowI xs] else []
theorem ciRes_f (b : Nat) (xs : List Int) : ciRes false b xs = .tuple #[.slice none 0 0, .bool false] := rfl
theorem ciRows_f (xs : List Int) : ciRows false xs = [] := rfl
theorem ciRes_t (b : Nat) (xs : List Int) : ciRes true b xs = .tuple #[slV b xs.length, .bool true] := rfl
theorem ciRows_t (xs : List Int) : ciRows true xs = [rowI xs] := rfl
def OutlineOf_ok (c : Contract) : Prop := ∀ (σ : Heap) (w h : Int) (wr : Bool) (sv lv : Value) (sp lo : List Nat), ShR σ sv lv sp lo → sp.length ≤ 1048576 → lo.length ≤ 1048576 →
    Ret c [shV w h wr sv lv] σ fun v σ' => v = ciRes (isSheet w h sp lo) σ.length (cellsN (edgeS (diffS sp) wr w.toNat h.toNat) sp.length) ∧ σ' = σ ++ ciRows (isSheet w h sp lo) (cellsN (edgeS (diffS sp) wr w.toNat h.toNat) sp.length)
abbrev impl_OutlineOf_ok := OutlineOf_ok
abbrev spec_OutlineOf_ok := OutlineOf_ok
theorem diffS_comm (sp : List Nat) (a b : Nat) : diffS sp a b = diffS sp b a := by unfold diffS; rw [feq_comm]
theorem impl_OutlineOf_law {C : Ctab} {i1 i2 i3 : FuncId} {c1 c2 c3 : Contract} (h1 : Has C i1 c1 impl_ValidSheet_ok) (h2 : impl_OutlineOfC1_ok c2) (h3 : Has C i3 c3 (impl_cellsBy_ok i2 c2)) : impl_OutlineOf_ok (gcC C (impl_OutlineOf i1 i2 i3) true) := by
  intro σ w h wr sv lv sp lo ⟨r1, r2⟩ hn1 hn2
  cases hs : isSheet w h sp lo
  · rw [ciRes_f, ciRows_f]
    refine ret_gc rfl rfl ?_
    repeat' (first | apply Ev.sq | apply Ev.rg | refine Ev.aKp ?_ | apply thenQ.n | apply thenQ.e | apply thenQ.r | apply blkQ.n | apply blkQ.e | refine blkQ.x ?_ rfl | apply blkQ.r | refine Ev.aT ?_ | refine Ev.aF ?_ | apply Ev.skip | apply Ev.exit | apply Ev.ret | apply Ev.bk | refine EvR.mv ?_ | refine EvR.fa ?_ | refine EvR.l1 ?_ | refine EvR.aNotSF ?_ | refine EvR.aNotST ?_ | refine EvR.aMetT ?_ | refine EvR.aMetF ?_ | refine EvR.aUS ?_ | refine EvR.mvc ?_ | refine EvR.lv ?_ | refine EvR.lp ?_ | refine EvR.lNp ?_ | refine EvR.pkT ?_ | refine EvR.pkF ?_ | refine EvR.lN ?_ | refine EvR.ix ?_ | refine EvR.le ?_ | refine EvR.ixo ?_ | refine EvR.l1o ?_ | refine EvR.lei ?_ | refine EvR.leb ?_ | refine EvR.lnr ?_ | refine EvR.lns ?_ | refine EvR.nt ?_ | refine EvR.lt ?_ | refine EvR.le_ ?_ | refine EvR.gt ?_ | refine EvR.ge ?_ | refine EvR.eqi ?_ | refine EvR.nei ?_ | refine EvR.add ?_ | refine EvR.sub ?_ | refine EvR.mul ?_ | refine EvR.rem ?_ | refine EvR.quo ?_ | refine EvR.nc ?_ | refine EvR.ex ?_ | refine EvR.f1 ?_ | refine EvR.fadd ?_ | refine EvR.fsub ?_ | refine EvR.fmul ?_ | refine EvR.fquo ?_ | refine EvR.flt_ ?_ | refine EvR.fle_ ?_ | refine EvR.fgt_ ?_ | refine EvR.fge_ ?_ | refine EvR.feq_ ?_ | refine EvR.fne_ ?_ | refine EvR.cv ?_ | refine EvR.cvu ?_ | refine EvR.cvf ?_ | refine EvR.cvw ?_ | refine EvR.bx ?_ | refine EvR.aNotNT ?_ | refine EvR.aNotNF ?_ | refine EvR.aUN ?_ | refine EvR.nl ?_ | refine EvR.so ?_ | (apply EvR.aCall h1.at_; (· exact eva); (· apply h1.ok <;> exact sid); (rintro _ _ ⟨rfl, rfl⟩; refine EvR.nrm ?_; try simp only [hs])) | (apply Ev.regionQ drk; (· exact quie)) | (apply Ev.regionN0 drk; (· exact quie)) | (apply Ev.regionA drk (by assumption); (· exact quie)) | (apply Ev.regionNA drk (by assumption); (· exact quie)) | (apply Ev.regionS0 drk; (· exact quie)) | (refine EvR.aSplB ?_ ?_ <;> (intro hb; rw [hb]; (try simp only [Bool.not_eq_true', Bool.not_eq_false', Bool.not_eq_eq_eq_not, Bool.not_true, Bool.not_false, decide_eq_true_eq, decide_eq_false_iff_not, Bool.and_eq_true, Bool.and_eq_false_iff, Bool.or_eq_true, Bool.or_eq_false_iff] at hb); (try (exfalso; omega)))) | (refine Ev.aSplB ?_ ?_ <;> (intro hb; (try rw [hb]); (try simp only [Bool.not_eq_true', Bool.not_eq_false', Bool.not_eq_eq_eq_not, Bool.not_true, Bool.not_false, decide_eq_true_eq, decide_eq_false_iff_not, Bool.and_eq_true, Bool.and_eq_false_iff, Bool.or_eq_true, Bool.or_eq_false_iff] at hb); (try (exfalso; omega)))) | (apply EvR.aS0; (· exact evc)) | (apply EvR.aN0; (· exact evc)) | (apply endS trivial; rotate_left; (· exact eva); (· rfl); try refine ⟨?_, rfl⟩) | fail)
    simp
  obtain ⟨a1, a2, a3, a4, q1, q2⟩ := isSheet_sides hs
  obtain ⟨W, rfl⟩ := Int.eq_ofNat_of_zero_le (show 0 ≤ w by omega)
  obtain ⟨H, rfl⟩ := Int.eq_ofNat_of_zero_le (show 0 ≤ h by omega)
  have hl : sp.length = W * H := by
    have : ((W * H : Nat) : Int) = (W : Int) * (H : Int) := Int.natCast_mul _ _
    omega
  have hcells : cellsN (onCell (fun x y => edgeI (diffS sp) wr W H x y) W) (W * H) = cellsN (edgeS (diffS sp) wr W H) (W * H) := by
    refine cellsN_congr fun i hi => ?_
    have hW : 0 < W := by omega
    have h1 : i % W < W := Nat.mod_lt _ hW
    have h2 : i / W < H := by rw [Nat.div_lt_iff_lt_mul hW, Nat.mul_comm]; exact hi
    have := edge_eq (diffS sp) (diffS_comm sp) wr (W := W) (H := H) (x := i % W) (y := i / W) (by omega) (by omega) h1 h2
    rw [Nat.div_add_mod] at this
    exact this
  rw [ciRes_t, ciRows_t, Int.toNat_natCast, Int.toNat_natCast, hl, ← hcells]
  refine ret_gc rfl rfl ?_
  repeat' (first | apply Ev.sq | apply Ev.rg | refine Ev.aKp ?_ | apply thenQ.n | apply thenQ.e | apply thenQ.r | apply blkQ.n | apply blkQ.e | refine blkQ.x ?_ rfl | apply blkQ.r | refine Ev.aT ?_ | refine Ev.aF ?_ | apply Ev.skip | apply Ev.exit | apply Ev.ret | apply Ev.bk | refine EvR.mv ?_ | refine EvR.fa ?_ | refine EvR.l1 ?_ | refine EvR.aNotSF ?_ | refine EvR.aNotST ?_ | refine EvR.aMetT ?_ | refine EvR.aMetF ?_ | refine EvR.aUS ?_ | refine EvR.mvc ?_ | refine EvR.lv ?_ | refine EvR.lp ?_ | refine EvR.lNp ?_ | refine EvR.pkT ?_ | refine EvR.pkF ?_ | refine EvR.lN ?_ | refine EvR.ix ?_ | refine EvR.le ?_ | refine EvR.ixo ?_ | refine EvR.l1o ?_ | refine EvR.lei ?_ | refine EvR.leb ?_ | refine EvR.lnr ?_ | refine EvR.lns ?_ | refine EvR.nt ?_ | refine EvR.lt ?_ | refine EvR.le_ ?_ | refine EvR.gt ?_ | refine EvR.ge ?_ | refine EvR.eqi ?_ | refine EvR.nei ?_ | refine EvR.add ?_ | refine EvR.sub ?_ | refine EvR.mul ?_ | refine EvR.rem ?_ | refine EvR.quo ?_ | refine EvR.nc ?_ | refine EvR.ex ?_ | refine EvR.f1 ?_ | refine EvR.fadd ?_ | refine EvR.fsub ?_ | refine EvR.fmul ?_ | refine EvR.fquo ?_ | refine EvR.flt_ ?_ | refine EvR.fle_ ?_ | refine EvR.fgt_ ?_ | refine EvR.fge_ ?_ | refine EvR.feq_ ?_ | refine EvR.fne_ ?_ | refine EvR.cv ?_ | refine EvR.cvu ?_ | refine EvR.cvf ?_ | refine EvR.cvw ?_ | refine EvR.bx ?_ | refine EvR.aNotNT ?_ | refine EvR.aNotNF ?_ | refine EvR.aUN ?_ | refine EvR.nl ?_ | refine EvR.so ?_ | (apply EvR.aCall h1.at_; (· exact eva); (· apply h1.ok <;> exact sid); (rintro _ _ ⟨rfl, rfl⟩; refine EvR.nrm ?_; try simp only [hs])) | (apply Ev.regionQ drk; (· exact quie)) | (apply Ev.regionN0 drk; (· exact quie)) | (apply Ev.regionA drk (by assumption); (· exact quie)) | (apply Ev.regionNA drk (by assumption); (· exact quie)) | (apply Ev.regionS0 drk; (· exact quie)) | (refine EvR.aSplB ?_ ?_ <;> (intro hb; rw [hb]; (try simp only [Bool.not_eq_true', Bool.not_eq_false', Bool.not_eq_eq_eq_not, Bool.not_true, Bool.not_false, decide_eq_true_eq, decide_eq_false_iff_not, Bool.and_eq_true, Bool.and_eq_false_iff, Bool.or_eq_true, Bool.or_eq_false_iff] at hb); (try (exfalso; omega)))) | (refine Ev.aSplB ?_ ?_ <;> (intro hb; (try rw [hb]); (try simp only [Bool.not_eq_true', Bool.not_eq_false', Bool.not_eq_eq_eq_not, Bool.not_true, Bool.not_false, decide_eq_true_eq, decide_eq_false_iff_not, Bool.and_eq_true, Bool.and_eq_false_iff, Bool.or_eq_true, Bool.or_eq_false_iff] at hb); (try (exfalso; omega)))) | (apply EvR.aS0; (· exact evc)) | (apply EvR.aN0; (· exact evc)) | (apply endS trivial; rotate_left; (· exact eva); (· rfl); try refine ⟨?_, rfl⟩) | fail)
  (apply EvR.aCall h3.at_; (· exact eva); (· exact  h3.ok _ W H wr sv lv _ (fun x y => edgeI (diffS sp) wr W H x y) r1.ok r2.ok (by omega) (by omega) (by omega) (by omega) (by intro x y hx hy τ; exact h2 _ (σ.length + 0) W H wr sv lv sp lo true x y (by rw [List.append_assoc, hget]; rfl) ⟨(r1.ext _).ext _, (r2.ext _).ext _⟩ (by omega) (by omega) (by omega) (by omega) hl hx hy)); (rintro _ _ ⟨rfl, rfl⟩; refine EvR.nrm ?_))
  repeat' (first | apply Ev.sq | apply Ev.rg | refine Ev.aKp ?_ | apply thenQ.n | apply thenQ.e | apply thenQ.r | apply blkQ.n | apply blkQ.e | refine blkQ.x ?_ rfl | apply blkQ.r | refine Ev.aT ?_ | refine Ev.aF ?_ | apply Ev.skip | apply Ev.exit | apply Ev.ret | apply Ev.bk | refine EvR.mv ?_ | refine EvR.fa ?_ | refine EvR.l1 ?_ | refine EvR.aNotSF ?_ | refine EvR.aNotST ?_ | refine EvR.aMetT ?_ | refine EvR.aMetF ?_ | refine EvR.aUS ?_ | refine EvR.mvc ?_ | refine EvR.lv ?_ | refine EvR.lp ?_ | refine EvR.lNp ?_ | refine EvR.pkT ?_ | refine EvR.pkF ?_ | refine EvR.lN ?_ | refine EvR.ix ?_ | refine EvR.le ?_ | refine EvR.ixo ?_ | refine EvR.l1o ?_ | refine EvR.lei ?_ | refine EvR.leb ?_ | refine EvR.lnr ?_ | refine EvR.lns ?_ | refine EvR.nt ?_ | refine EvR.lt ?_ | refine EvR.le_ ?_ | refine EvR.gt ?_ | refine EvR.ge ?_ | refine EvR.eqi ?_ | refine EvR.nei ?_ | refine EvR.add ?_ | refine EvR.sub ?_ | refine EvR.mul ?_ | refine EvR.rem ?_ | refine EvR.quo ?_ | refine EvR.nc ?_ | refine EvR.ex ?_ | refine EvR.f1 ?_ | refine EvR.fadd ?_ | refine EvR.fsub ?_ | refine EvR.fmul ?_ | refine EvR.fquo ?_ | refine EvR.flt_ ?_ | refine EvR.fle_ ?_ | refine EvR.fgt_ ?_ | refine EvR.fge_ ?_ | refine EvR.feq_ ?_ | refine EvR.fne_ ?_ | refine EvR.cv ?_ | refine EvR.cvu ?_ | refine EvR.cvf ?_ | refine EvR.cvw ?_ | refine EvR.bx ?_ | refine EvR.aNotNT ?_ | refine EvR.aNotNF ?_ | refine EvR.aUN ?_ | refine EvR.nl ?_ | refine EvR.so ?_ | (apply Ev.regionQ drk; (· exact quie)) | (apply Ev.regionN0 drk; (· exact quie)) | (apply Ev.regionA drk (by assumption); (· exact quie)) | (apply Ev.regionNA drk (by assumption); (· exact quie)) | (apply Ev.regionS0 drk; (· exact quie)) | (refine EvR.aSplB ?_ ?_ <;> (intro hb; rw [hb]; (try simp only [Bool.not_eq_true', Bool.not_eq_false', Bool.not_eq_eq_eq_not, Bool.not_true, Bool.not_false, decide_eq_true_eq, decide_eq_false_iff_not, Bool.and_eq_true, Bool.and_eq_false_iff, Bool.or_eq_true, Bool.or_eq_false_iff] at hb); (try (exfalso; omega)))) | (refine Ev.aSplB ?_ ?_ <;> (intro hb; (try rw [hb]); (try simp only [Bool.not_eq_true', Bool.not_eq_false', Bool.not_eq_eq_eq_not, Bool.not_true, Bool.not_false, decide_eq_true_eq, decide_eq_false_iff_not, Bool.and_eq_true, Bool.and_eq_false_iff, Bool.or_eq_true, Bool.or_eq_false_iff] at hb); (try (exfalso; omega)))) | (apply EvR.aS0; (· exact evc)) | (apply EvR.aN0; (· exact evc)) | (apply endS trivial; rotate_left; (· exact eva); (· rfl); try refine ⟨?_, rfl⟩) | fail)
  (apply endR [1] trivial ⟨rfl, rfl⟩; (· exact eva); (· simp [gcTop, gcVal, gcLeaf, gcLeaves, gcVals, constOk, gc_lt, gc_lt0]); (· rfl); (· decide); (· simp [allConst, f32s, i64s, b8s, bools, constOk]))

def spec_l00Max_ok (c : Contract) : Prop := ∀ (σ : Heap) (a b : Int), Ret c [.int .i64 a, .int .i64 b] σ fun v σ' => v = .int .i64 (max a b) ∧ σ' = σ
theorem spec_l00Max_law {C : Ctab} : spec_l00Max_ok (gcC C spec_l00Max true) := by
  intro σ a b
  refine ret_gc rfl rfl ?_
  repeat' (first | apply Ev.sq | apply Ev.rg | refine Ev.aKp ?_ | apply thenQ.n | apply thenQ.e | apply thenQ.r | apply blkQ.n | apply blkQ.e | refine blkQ.x ?_ rfl | apply blkQ.r | refine Ev.aT ?_ | refine Ev.aF ?_ | apply Ev.skip | apply Ev.exit | apply Ev.ret | apply Ev.bk | refine EvR.mv ?_ | refine EvR.fa ?_ | refine EvR.l1 ?_ | refine EvR.aNotSF ?_ | refine EvR.aNotST ?_ | refine EvR.aMetT ?_ | refine EvR.aMetF ?_ | refine EvR.aUS ?_ | refine EvR.mvc ?_ | refine EvR.lv ?_ | refine EvR.lp ?_ | refine EvR.lNp ?_ | refine EvR.pkT ?_ | refine EvR.pkF ?_ | refine EvR.lN ?_ | refine EvR.ix ?_ | refine EvR.le ?_ | refine EvR.ixo ?_ | refine EvR.l1o ?_ | refine EvR.lei ?_ | refine EvR.leb ?_ | refine EvR.lnr ?_ | refine EvR.lns ?_ | refine EvR.nt ?_ | refine EvR.lt ?_ | refine EvR.le_ ?_ | refine EvR.gt ?_ | refine EvR.ge ?_ | refine EvR.eqi ?_ | refine EvR.nei ?_ | refine EvR.add ?_ | refine EvR.sub ?_ | refine EvR.mul ?_ | refine EvR.rem ?_ | refine EvR.quo ?_ | refine EvR.nc ?_ | refine EvR.ex ?_ | refine EvR.f1 ?_ | refine EvR.fadd ?_ | refine EvR.fsub ?_ | refine EvR.fmul ?_ | refine EvR.fquo ?_ | refine EvR.flt_ ?_ | refine EvR.fle_ ?_ | refine EvR.fgt_ ?_ | refine EvR.fge_ ?_ | refine EvR.feq_ ?_ | refine EvR.fne_ ?_ | refine EvR.cv ?_ | refine EvR.cvu ?_ | refine EvR.cvf ?_ | refine EvR.cvw ?_ | refine EvR.bx ?_ | refine EvR.aNotNT ?_ | refine EvR.aNotNF ?_ | refine EvR.aUN ?_ | refine EvR.nl ?_ | refine EvR.so ?_ | (apply Ev.regionQ drk; (· exact quie)) | (apply Ev.regionN0 drk; (· exact quie)) | (apply Ev.regionA drk (by assumption); (· exact quie)) | (apply Ev.regionNA drk (by assumption); (· exact quie)) | (apply Ev.regionS0 drk; (· exact quie)) | (refine EvR.aSplB ?_ ?_ <;> (intro hb; rw [hb]; (try simp only [Bool.not_eq_true', Bool.not_eq_false', Bool.not_eq_eq_eq_not, Bool.not_true, Bool.not_false, decide_eq_true_eq, decide_eq_false_iff_not, Bool.and_eq_true, Bool.and_eq_false_iff, Bool.or_eq_true, Bool.or_eq_false_iff] at hb); (try (exfalso; omega)))) | (refine Ev.aSplB ?_ ?_ <;> (intro hb; (try rw [hb]); (try simp only [Bool.not_eq_true', Bool.not_eq_false', Bool.not_eq_eq_eq_not, Bool.not_true, Bool.not_false, decide_eq_true_eq, decide_eq_false_iff_not, Bool.and_eq_true, Bool.and_eq_false_iff, Bool.or_eq_true, Bool.or_eq_false_iff] at hb); (try (exfalso; omega)))) | (apply EvR.aS0; (· exact evc)) | (apply EvR.aN0; (· exact evc)) | (apply endS trivial; rotate_left; (· exact eva); (· rfl); try refine ⟨?_, rfl⟩) | fail)
  all_goals (congr 1; omega)
def spec_l00Min_ok (c : Contract) : Prop := ∀ (σ : Heap) (a b : Int), Ret c [.int .i64 a, .int .i64 b] σ fun v σ' => v = .int .i64 (min a b) ∧ σ' = σ
theorem spec_l00Min_law {C : Ctab} : spec_l00Min_ok (gcC C spec_l00Min true) := by
  intro σ a b
  refine ret_gc rfl rfl ?_
  repeat' (first | apply Ev.sq | apply Ev.rg | refine Ev.aKp ?_ | apply thenQ.n | apply thenQ.e | apply thenQ.r | apply blkQ.n | apply blkQ.e | refine blkQ.x ?_ rfl | apply blkQ.r | refine Ev.aT ?_ | refine Ev.aF ?_ | apply Ev.skip | apply Ev.exit | apply Ev.ret | apply Ev.bk | refine EvR.mv ?_ | refine EvR.fa ?_ | refine EvR.l1 ?_ | refine EvR.aNotSF ?_ | refine EvR.aNotST ?_ | refine EvR.aMetT ?_ | refine EvR.aMetF ?_ | refine EvR.aUS ?_ | refine EvR.mvc ?_ | refine EvR.lv ?_ | refine EvR.lp ?_ | refine EvR.lNp ?_ | refine EvR.pkT ?_ | refine EvR.pkF ?_ | refine EvR.lN ?_ | refine EvR.ix ?_ | refine EvR.le ?_ | refine EvR.ixo ?_ | refine EvR.l1o ?_ | refine EvR.lei ?_ | refine EvR.leb ?_ | refine EvR.lnr ?_ | refine EvR.lns ?_ | refine EvR.nt ?_ | refine EvR.lt ?_ | refine EvR.le_ ?_ | refine EvR.gt ?_ | refine EvR.ge ?_ | refine EvR.eqi ?_ | refine EvR.nei ?_ | refine EvR.add ?_ | refine EvR.sub ?_ | refine EvR.mul ?_ | refine EvR.rem ?_ | refine EvR.quo ?_ | refine EvR.nc ?_ | refine EvR.ex ?_ | refine EvR.f1 ?_ | refine EvR.fadd ?_ | refine EvR.fsub ?_ | refine EvR.fmul ?_ | refine EvR.fquo ?_ | refine EvR.flt_ ?_ | refine EvR.fle_ ?_ | refine EvR.fgt_ ?_ | refine EvR.fge_ ?_ | refine EvR.feq_ ?_ | refine EvR.fne_ ?_ | refine EvR.cv ?_ | refine EvR.cvu ?_ | refine EvR.cvf ?_ | refine EvR.cvw ?_ | refine EvR.bx ?_ | refine EvR.aNotNT ?_ | refine EvR.aNotNF ?_ | refine EvR.aUN ?_ | refine EvR.nl ?_ | refine EvR.so ?_ | (apply Ev.regionQ drk; (· exact quie)) | (apply Ev.regionN0 drk; (· exact quie)) | (apply Ev.regionA drk (by assumption); (· exact quie)) | (apply Ev.regionNA drk (by assumption); (· exact quie)) | (apply Ev.regionS0 drk; (· exact quie)) | (refine EvR.aSplB ?_ ?_ <;> (intro hb; rw [hb]; (try simp only [Bool.not_eq_true', Bool.not_eq_false', Bool.not_eq_eq_eq_not, Bool.not_true, Bool.not_false, decide_eq_true_eq, decide_eq_false_iff_not, Bool.and_eq_true, Bool.and_eq_false_iff, Bool.or_eq_true, Bool.or_eq_false_iff] at hb); (try (exfalso; omega)))) | (refine Ev.aSplB ?_ ?_ <;> (intro hb; (try rw [hb]); (try simp only [Bool.not_eq_true', Bool.not_eq_false', Bool.not_eq_eq_eq_not, Bool.not_true, Bool.not_false, decide_eq_true_eq, decide_eq_false_iff_not, Bool.and_eq_true, Bool.and_eq_false_iff, Bool.or_eq_true, Bool.or_eq_false_iff] at hb); (try (exfalso; omega)))) | (apply EvR.aS0; (· exact evc)) | (apply EvR.aN0; (· exact evc)) | (apply endS trivial; rotate_left; (· exact eva); (· rfl); try refine ⟨?_, rfl⟩) | fail)
  all_goals (congr 1; omega)
def spec_l03Way_ok (c : Contract) : Prop := ∀ (σ : Heap) (a b len : Int) (wr : Bool), 0 ≤ a → a ≤ 16 → 0 ≤ b → b ≤ 16 → 0 ≤ len → len ≤ 16 → Ret c [.int .i64 a, .int .i64 b, .int .i64 len, .bool wr] σ fun v σ' => v = .int .i64 (wayA wr len a b) ∧ σ' = σ
theorem spec_l03Way_law {C : Ctab} {i1 i2 : FuncId} {c1 c2 : Contract} (h1 : Has C i1 c1 spec_l00Max_ok) (h2 : Has C i2 c2 spec_l00Min_ok) : spec_l03Way_ok (gcC C (spec_l03Way i1 i2) true) := by
  intro σ a b len wr a1 a2 b1 b2 l1 l2
  unfold wayA
  cases wr
  · refine ret_gc rfl rfl ?_
    repeat' (first | apply Ev.sq | apply Ev.rg | refine Ev.aKp ?_ | apply thenQ.n | apply thenQ.e | apply thenQ.r | apply blkQ.n | apply blkQ.e | refine blkQ.x ?_ rfl | apply blkQ.r | refine Ev.aT ?_ | refine Ev.aF ?_ | apply Ev.skip | apply Ev.exit | apply Ev.ret | apply Ev.bk | refine EvR.mv ?_ | refine EvR.fa ?_ | refine EvR.l1 ?_ | refine EvR.aNotSF ?_ | refine EvR.aNotST ?_ | refine EvR.aMetT ?_ | refine EvR.aMetF ?_ | refine EvR.aUS ?_ | refine EvR.mvc ?_ | refine EvR.lv ?_ | refine EvR.lp ?_ | refine EvR.lNp ?_ | refine EvR.pkT ?_ | refine EvR.pkF ?_ | refine EvR.lN ?_ | refine EvR.ix ?_ | refine EvR.le ?_ | refine EvR.ixo ?_ | refine EvR.l1o ?_ | refine EvR.lei ?_ | refine EvR.leb ?_ | refine EvR.lnr ?_ | refine EvR.lns ?_ | refine EvR.nt ?_ | refine EvR.lt ?_ | refine EvR.le_ ?_ | refine EvR.gt ?_ | refine EvR.ge ?_ | refine EvR.eqi ?_ | refine EvR.nei ?_ | refine EvR.add ?_ | refine EvR.sub ?_ | refine EvR.mul ?_ | refine EvR.rem ?_ | refine EvR.quo ?_ | refine EvR.nc ?_ | refine EvR.ex ?_ | refine EvR.f1 ?_ | refine EvR.fadd ?_ | refine EvR.fsub ?_ | refine EvR.fmul ?_ | refine EvR.fquo ?_ | refine EvR.flt_ ?_ | refine EvR.fle_ ?_ | refine EvR.fgt_ ?_ | refine EvR.fge_ ?_ | refine EvR.feq_ ?_ | refine EvR.fne_ ?_ | refine EvR.cv ?_ | refine EvR.cvu ?_ | refine EvR.cvf ?_ | refine EvR.cvw ?_ | refine EvR.bx ?_ | refine EvR.aNotNT ?_ | refine EvR.aNotNF ?_ | refine EvR.aUN ?_ | refine EvR.nl ?_ | refine EvR.so ?_ | (apply EvR.aCall h1.at_; (· exact eva); (· apply h1.ok <;> exact sid); (rintro _ _ ⟨rfl, rfl⟩; refine EvR.nrm ?_)) | (apply EvR.aCall h2.at_; (· exact eva); (· apply h2.ok <;> exact sid); (rintro _ _ ⟨rfl, rfl⟩; refine EvR.nrm ?_)) | (apply Ev.regionQ drk; (· exact quie)) | (apply Ev.regionN0 drk; (· exact quie)) | (apply Ev.regionA drk (by assumption); (· exact quie)) | (apply Ev.regionNA drk (by assumption); (· exact quie)) | (apply Ev.regionS0 drk; (· exact quie)) | (refine EvR.aSplB ?_ ?_ <;> (intro hb; rw [hb]; (try simp only [Bool.not_eq_true', Bool.not_eq_false', Bool.not_eq_eq_eq_not, Bool.not_true, Bool.not_false, decide_eq_true_eq, decide_eq_false_iff_not, Bool.and_eq_true, Bool.and_eq_false_iff, Bool.or_eq_true, Bool.or_eq_false_iff] at hb); (try (exfalso; omega)))) | (refine Ev.aSplB ?_ ?_ <;> (intro hb; (try rw [hb]); (try simp only [Bool.not_eq_true', Bool.not_eq_false', Bool.not_eq_eq_eq_not, Bool.not_true, Bool.not_false, decide_eq_true_eq, decide_eq_false_iff_not, Bool.and_eq_true, Bool.and_eq_false_iff, Bool.or_eq_true, Bool.or_eq_false_iff] at hb); (try (exfalso; omega)))) | (apply EvR.aS0; (· exact evc)) | (apply EvR.aN0; (· exact evc)) | (apply endS trivial; rotate_left; (· exact eva); (· rfl); try refine ⟨?_, rfl⟩) | fail)
    all_goals simp
  · refine ret_gc rfl rfl ?_
    repeat' (first | apply Ev.sq | apply Ev.rg | refine Ev.aKp ?_ | apply thenQ.n | apply thenQ.e | apply thenQ.r | apply blkQ.n | apply blkQ.e | refine blkQ.x ?_ rfl | apply blkQ.r | refine Ev.aT ?_ | refine Ev.aF ?_ | apply Ev.skip | apply Ev.exit | apply Ev.ret | apply Ev.bk | refine EvR.mv ?_ | refine EvR.fa ?_ | refine EvR.l1 ?_ | refine EvR.aNotSF ?_ | refine EvR.aNotST ?_ | refine EvR.aMetT ?_ | refine EvR.aMetF ?_ | refine EvR.aUS ?_ | refine EvR.mvc ?_ | refine EvR.lv ?_ | refine EvR.lp ?_ | refine EvR.lNp ?_ | refine EvR.pkT ?_ | refine EvR.pkF ?_ | refine EvR.lN ?_ | refine EvR.ix ?_ | refine EvR.le ?_ | refine EvR.ixo ?_ | refine EvR.l1o ?_ | refine EvR.lei ?_ | refine EvR.leb ?_ | refine EvR.lnr ?_ | refine EvR.lns ?_ | refine EvR.nt ?_ | refine EvR.lt ?_ | refine EvR.le_ ?_ | refine EvR.gt ?_ | refine EvR.ge ?_ | refine EvR.eqi ?_ | refine EvR.nei ?_ | refine EvR.add ?_ | refine EvR.sub ?_ | refine EvR.mul ?_ | refine EvR.rem ?_ | refine EvR.quo ?_ | refine EvR.nc ?_ | refine EvR.ex ?_ | refine EvR.f1 ?_ | refine EvR.fadd ?_ | refine EvR.fsub ?_ | refine EvR.fmul ?_ | refine EvR.fquo ?_ | refine EvR.flt_ ?_ | refine EvR.fle_ ?_ | refine EvR.fgt_ ?_ | refine EvR.fge_ ?_ | refine EvR.feq_ ?_ | refine EvR.fne_ ?_ | refine EvR.cv ?_ | refine EvR.cvu ?_ | refine EvR.cvf ?_ | refine EvR.cvw ?_ | refine EvR.bx ?_ | refine EvR.aNotNT ?_ | refine EvR.aNotNF ?_ | refine EvR.aUN ?_ | refine EvR.nl ?_ | refine EvR.so ?_ | (apply EvR.aCall h1.at_; (· exact eva); (· apply h1.ok <;> exact sid); (rintro _ _ ⟨rfl, rfl⟩; refine EvR.nrm ?_)) | (apply EvR.aCall h2.at_; (· exact eva); (· apply h2.ok <;> exact sid); (rintro _ _ ⟨rfl, rfl⟩; refine EvR.nrm ?_)) | (apply Ev.regionQ drk; (· exact quie)) | (apply Ev.regionN0 drk; (· exact quie)) | (apply Ev.regionA drk (by assumption); (· exact quie)) | (apply Ev.regionNA drk (by assumption); (· exact quie)) | (apply Ev.regionS0 drk; (· exact quie)) | (refine EvR.aSplB ?_ ?_ <;> (intro hb; rw [hb]; (try simp only [Bool.not_eq_true', Bool.not_eq_false', Bool.not_eq_eq_eq_not, Bool.not_true, Bool.not_false, decide_eq_true_eq, decide_eq_false_iff_not, Bool.and_eq_true, Bool.and_eq_false_iff, Bool.or_eq_true, Bool.or_eq_false_iff] at hb); (try (exfalso; omega)))) | (refine Ev.aSplB ?_ ?_ <;> (intro hb; (try rw [hb]); (try simp only [Bool.not_eq_true', Bool.not_eq_false', Bool.not_eq_eq_eq_not, Bool.not_true, Bool.not_false, decide_eq_true_eq, decide_eq_false_iff_not, Bool.and_eq_true, Bool.and_eq_false_iff, Bool.or_eq_true, Bool.or_eq_false_iff] at hb); (try (exfalso; omega)))) | (apply EvR.aS0; (· exact evc)) | (apply EvR.aN0; (· exact evc)) | (apply endS trivial; rotate_left; (· exact eva); (· rfl); try refine ⟨?_, rfl⟩) | fail)
    all_goals simp
theorem wayA_le {wr : Bool} {len a b : Int} (h : len ≤ 16) (a0 : 0 ≤ a) (a1 : a < len) (b0 : 0 ≤ b) (b1 : b < len) : 0 ≤ wayA wr len a b ∧ wayA wr len a b ≤ 16 := by
  unfold wayA; split <;> omega
def spec_l09Ways_ok (c : Contract) : Prop := ∀ (σ : Heap) (b : Nat) (W H i k : Nat) (wr : Bool) (sv lv : Value) (r : Bool), σ[b]? = some ⟨[.int .i64 W, .int .i64 H, .bool wr, sv, lv], 0, r⟩ → 3 ≤ W → W ≤ 16 → H ≤ 16 → i < W * H → k < W * H →
    Ret c [.pointer (some ⟨b, 0, none⟩), .int .i64 i, .int .i64 k] σ fun v σ' => v = .int .i64 (wayA wr W ((i : Int) % W) ((k : Int) % W) + wayA wr H ((i : Int) / W) ((k : Int) / W)) ∧ σ' = σ
theorem spec_l09Ways_law {C : Ctab} {i1 : FuncId} {c1 : Contract} (h1 : Has C i1 c1 spec_l03Way_ok) : spec_l09Ways_ok (gcC C (spec_l09Ways i1) true) := by
  intro σ b W H i k wr sv lv r hb a1 a2 a4 hi hk
  have p1 := PtAt.whole hb
  have hi2 : i < 256 := Nat.lt_of_lt_of_le hi (Nat.mul_le_mul a2 a4)
  have hk2 : k < 256 := Nat.lt_of_lt_of_le hk (Nat.mul_le_mul a2 a4)
  obtain ⟨d1, d2, d3, d4⟩ := cell_bd2 hi a1
  obtain ⟨g1, g2, g3, g4⟩ := cell_bd2 hk a1
  have w1 := wayA_le (wr := wr) (len := W) (a := (i : Int) % W) (b := (k : Int) % W) (by omega) d1 d2 g1 g2
  have w2 := wayA_le (wr := wr) (len := H) (a := (i : Int) / W) (b := (k : Int) / W) (by omega) d3 d4 g3 g4
  refine ret_gc rfl rfl ?_
  repeat' (first | apply Ev.sq | apply Ev.rg | refine Ev.aKp ?_ | apply thenQ.n | apply thenQ.e | apply thenQ.r | apply blkQ.n | apply blkQ.e | refine blkQ.x ?_ rfl | apply blkQ.r | refine Ev.aT ?_ | refine Ev.aF ?_ | apply Ev.skip | apply Ev.exit | apply Ev.ret | apply Ev.bk | refine EvR.mv ?_ | refine EvR.fa ?_ | refine EvR.l1 ?_ | refine EvR.aNotSF ?_ | refine EvR.aNotST ?_ | refine EvR.aMetT ?_ | refine EvR.aMetF ?_ | refine EvR.aUS ?_ | refine EvR.mvc ?_ | refine EvR.lv ?_ | refine EvR.lp ?_ | refine EvR.lNp ?_ | refine EvR.pkT ?_ | refine EvR.pkF ?_ | refine EvR.lN ?_ | refine EvR.ix ?_ | refine EvR.le ?_ | refine EvR.ixo ?_ | refine EvR.l1o ?_ | refine EvR.lei ?_ | refine EvR.leb ?_ | refine EvR.lnr ?_ | refine EvR.lns ?_ | refine EvR.nt ?_ | refine EvR.lt ?_ | refine EvR.le_ ?_ | refine EvR.gt ?_ | refine EvR.ge ?_ | refine EvR.eqi ?_ | refine EvR.nei ?_ | refine EvR.add ?_ | refine EvR.sub ?_ | refine EvR.mul ?_ | refine EvR.rem ?_ | refine EvR.quo ?_ | refine EvR.nc ?_ | refine EvR.ex ?_ | refine EvR.f1 ?_ | refine EvR.fadd ?_ | refine EvR.fsub ?_ | refine EvR.fmul ?_ | refine EvR.fquo ?_ | refine EvR.flt_ ?_ | refine EvR.fle_ ?_ | refine EvR.fgt_ ?_ | refine EvR.fge_ ?_ | refine EvR.feq_ ?_ | refine EvR.fne_ ?_ | refine EvR.cv ?_ | refine EvR.cvu ?_ | refine EvR.cvf ?_ | refine EvR.cvw ?_ | refine EvR.bx ?_ | refine EvR.aNotNT ?_ | refine EvR.aNotNF ?_ | refine EvR.aUN ?_ | refine EvR.nl ?_ | refine EvR.so ?_ | (apply EvR.aCall h1.at_; (· exact eva); (· apply h1.ok <;> exact sid); (rintro _ _ ⟨rfl, rfl⟩; refine EvR.nrm ?_)) | (apply Ev.regionQ drk; (· exact quie)) | (apply Ev.regionN0 drk; (· exact quie)) | (apply Ev.regionA drk (by assumption); (· exact quie)) | (apply Ev.regionNA drk (by assumption); (· exact quie)) | (apply Ev.regionS0 drk; (· exact quie)) | (refine EvR.aSplB ?_ ?_ <;> (intro hb; rw [hb]; (try simp only [Bool.not_eq_true', Bool.not_eq_false', Bool.not_eq_eq_eq_not, Bool.not_true, Bool.not_false, decide_eq_true_eq, decide_eq_false_iff_not, Bool.and_eq_true, Bool.and_eq_false_iff, Bool.or_eq_true, Bool.or_eq_false_iff] at hb); (try (exfalso; omega)))) | (refine Ev.aSplB ?_ ?_ <;> (intro hb; (try rw [hb]); (try simp only [Bool.not_eq_true', Bool.not_eq_false', Bool.not_eq_eq_eq_not, Bool.not_true, Bool.not_false, decide_eq_true_eq, decide_eq_false_iff_not, Bool.and_eq_true, Bool.and_eq_false_iff, Bool.or_eq_true, Bool.or_eq_false_iff] at hb); (try (exfalso; omega)))) | (apply EvR.aS0; (· exact evc)) | (apply EvR.aN0; (· exact evc)) | (apply endS trivial; rotate_left; (· exact eva); (· rfl); try refine ⟨?_, rfl⟩) | fail)
  all_goals rfl

theorem any_succ (g : Nat → Bool) (k : Nat) : (List.range (k + 1)).any g = ((List.range k).any g || g k) := by
  rw [List.range_succ, List.any_append]; simp
theorem spec_OutlineOf_law {C : Ctab} {i1 i2 : FuncId} {c1 c2 : Contract} (h1 : Has C i1 c1 spec_l02Is_ok) (h2 : Has C i2 c2 spec_l09Ways_ok) : spec_OutlineOf_ok (gcC C (spec_OutlineOf i1 i2) true) := by
  intro σ w h wr sv lv sp lo ⟨r1, r2⟩ hn1 hn2
  cases hs : isSheet w h sp lo
  · rw [ciRes_f, ciRows_f]
    refine ret_gc rfl rfl ?_
    repeat' (first | apply Ev.sq | apply Ev.rg | refine Ev.aKp ?_ | apply thenQ.n | apply thenQ.e | apply thenQ.r | apply blkQ.n | apply blkQ.e | refine blkQ.x ?_ rfl | apply blkQ.r | refine Ev.aT ?_ | refine Ev.aF ?_ | apply Ev.skip | apply Ev.exit | apply Ev.ret | apply Ev.bk | refine EvR.mv ?_ | refine EvR.fa ?_ | refine EvR.l1 ?_ | refine EvR.aNotSF ?_ | refine EvR.aNotST ?_ | refine EvR.aMetT ?_ | refine EvR.aMetF ?_ | refine EvR.aUS ?_ | refine EvR.mvc ?_ | refine EvR.lv ?_ | refine EvR.lp ?_ | refine EvR.lNp ?_ | refine EvR.pkT ?_ | refine EvR.pkF ?_ | refine EvR.lN ?_ | refine EvR.ix ?_ | refine EvR.le ?_ | refine EvR.ixo ?_ | refine EvR.l1o ?_ | refine EvR.lei ?_ | refine EvR.leb ?_ | refine EvR.lnr ?_ | refine EvR.lns ?_ | refine EvR.nt ?_ | refine EvR.lt ?_ | refine EvR.le_ ?_ | refine EvR.gt ?_ | refine EvR.ge ?_ | refine EvR.eqi ?_ | refine EvR.nei ?_ | refine EvR.add ?_ | refine EvR.sub ?_ | refine EvR.mul ?_ | refine EvR.rem ?_ | refine EvR.quo ?_ | refine EvR.nc ?_ | refine EvR.ex ?_ | refine EvR.f1 ?_ | refine EvR.fadd ?_ | refine EvR.fsub ?_ | refine EvR.fmul ?_ | refine EvR.fquo ?_ | refine EvR.flt_ ?_ | refine EvR.fle_ ?_ | refine EvR.fgt_ ?_ | refine EvR.fge_ ?_ | refine EvR.feq_ ?_ | refine EvR.fne_ ?_ | refine EvR.cv ?_ | refine EvR.cvu ?_ | refine EvR.cvf ?_ | refine EvR.cvw ?_ | refine EvR.bx ?_ | refine EvR.aNotNT ?_ | refine EvR.aNotNF ?_ | refine EvR.aUN ?_ | refine EvR.nl ?_ | refine EvR.so ?_ | (apply EvR.aCall h1.at_; (· exact eva); (· apply h1.ok <;> exact sid); (rintro _ _ ⟨rfl, rfl⟩; refine EvR.nrm ?_; try simp only [hs])) | (apply Ev.regionQ drk; (· exact quie)) | (apply Ev.regionN0 drk; (· exact quie)) | (apply Ev.regionA drk (by assumption); (· exact quie)) | (apply Ev.regionNA drk (by assumption); (· exact quie)) | (apply Ev.regionS0 drk; (· exact quie)) | (refine EvR.aSplB ?_ ?_ <;> (intro hb; rw [hb]; (try simp only [Bool.not_eq_true', Bool.not_eq_false', Bool.not_eq_eq_eq_not, Bool.not_true, Bool.not_false, decide_eq_true_eq, decide_eq_false_iff_not, Bool.and_eq_true, Bool.and_eq_false_iff, Bool.or_eq_true, Bool.or_eq_false_iff] at hb); (try (exfalso; omega)))) | (refine Ev.aSplB ?_ ?_ <;> (intro hb; (try rw [hb]); (try simp only [Bool.not_eq_true', Bool.not_eq_false', Bool.not_eq_eq_eq_not, Bool.not_true, Bool.not_false, decide_eq_true_eq, decide_eq_false_iff_not, Bool.and_eq_true, Bool.and_eq_false_iff, Bool.or_eq_true, Bool.or_eq_false_iff] at hb); (try (exfalso; omega)))) | (apply EvR.aS0; (· exact evc)) | (apply EvR.aN0; (· exact evc)) | (apply endS trivial; rotate_left; (· exact eva); (· rfl); try refine ⟨?_, rfl⟩) | fail)
    simp
  obtain ⟨a1, a2, a3, a4, q1, q2⟩ := isSheet_sides hs
  obtain ⟨W, rfl⟩ := Int.eq_ofNat_of_zero_le (show 0 ≤ w by omega)
  obtain ⟨H, rfl⟩ := Int.eq_ofNat_of_zero_le (show 0 ≤ h by omega)
  have hl : sp.length = W * H := by
    have : ((W * H : Nat) : Int) = (W : Int) * (H : Int) := Int.natCast_mul _ _
    omega
  have hWH : W * H ≤ 256 := Nat.mul_le_mul (show W ≤ 16 by omega) (show H ≤ 16 by omega)
  rw [ciRes_t, ciRows_t, Int.toNat_natCast, Int.toNat_natCast]
  obtain ⟨Q, hQ⟩ : ∃ Q, Q = edgeS (diffS sp) wr W H := ⟨_, rfl⟩
  rw [← hQ]
  refine ret_gc rfl rfl ?_
  repeat' (first | apply Ev.sq | apply Ev.rg | refine Ev.aKp ?_ | apply thenQ.n | apply thenQ.e | apply thenQ.r | apply blkQ.n | apply blkQ.e | refine blkQ.x ?_ rfl | apply blkQ.r | refine Ev.aT ?_ | refine Ev.aF ?_ | apply Ev.skip | apply Ev.exit | apply Ev.ret | apply Ev.bk | refine EvR.mv ?_ | refine EvR.fa ?_ | refine EvR.l1 ?_ | refine EvR.aNotSF ?_ | refine EvR.aNotST ?_ | refine EvR.aMetT ?_ | refine EvR.aMetF ?_ | refine EvR.aUS ?_ | refine EvR.mvc ?_ | refine EvR.lv ?_ | refine EvR.lp ?_ | refine EvR.lNp ?_ | refine EvR.pkT ?_ | refine EvR.pkF ?_ | refine EvR.lN ?_ | refine EvR.ix ?_ | refine EvR.le ?_ | refine EvR.ixo ?_ | refine EvR.l1o ?_ | refine EvR.lei ?_ | refine EvR.leb ?_ | refine EvR.lnr ?_ | refine EvR.lns ?_ | refine EvR.nt ?_ | refine EvR.lt ?_ | refine EvR.le_ ?_ | refine EvR.gt ?_ | refine EvR.ge ?_ | refine EvR.eqi ?_ | refine EvR.nei ?_ | refine EvR.add ?_ | refine EvR.sub ?_ | refine EvR.mul ?_ | refine EvR.rem ?_ | refine EvR.quo ?_ | refine EvR.nc ?_ | refine EvR.ex ?_ | refine EvR.f1 ?_ | refine EvR.fadd ?_ | refine EvR.fsub ?_ | refine EvR.fmul ?_ | refine EvR.fquo ?_ | refine EvR.flt_ ?_ | refine EvR.fle_ ?_ | refine EvR.fgt_ ?_ | refine EvR.fge_ ?_ | refine EvR.feq_ ?_ | refine EvR.fne_ ?_ | refine EvR.cv ?_ | refine EvR.cvu ?_ | refine EvR.cvf ?_ | refine EvR.cvw ?_ | refine EvR.bx ?_ | refine EvR.aNotNT ?_ | refine EvR.aNotNF ?_ | refine EvR.aUN ?_ | refine EvR.nl ?_ | refine EvR.so ?_ | (apply EvR.aCall h1.at_; (· exact eva); (· apply h1.ok <;> exact sid); (rintro _ _ ⟨rfl, rfl⟩; refine EvR.nrm ?_; try simp only [hs])) | (apply Ev.regionQ drk; (· exact quie)) | (apply Ev.regionN0 drk; (· exact quie)) | (apply Ev.regionA drk (by assumption); (· exact quie)) | (apply Ev.regionNA drk (by assumption); (· exact quie)) | (apply Ev.regionS0 drk; (· exact quie)) | (refine EvR.aSplB ?_ ?_ <;> (intro hb; rw [hb]; (try simp only [Bool.not_eq_true', Bool.not_eq_false', Bool.not_eq_eq_eq_not, Bool.not_true, Bool.not_false, decide_eq_true_eq, decide_eq_false_iff_not, Bool.and_eq_true, Bool.and_eq_false_iff, Bool.or_eq_true, Bool.or_eq_false_iff] at hb); (try (exfalso; omega)))) | (refine Ev.aSplB ?_ ?_ <;> (intro hb; (try rw [hb]); (try simp only [Bool.not_eq_true', Bool.not_eq_false', Bool.not_eq_eq_eq_not, Bool.not_true, Bool.not_false, decide_eq_true_eq, decide_eq_false_iff_not, Bool.and_eq_true, Bool.and_eq_false_iff, Bool.or_eq_true, Bool.or_eq_false_iff] at hb); (try (exfalso; omega)))) | (apply EvR.aS0; (· exact evc)) | (apply EvR.aN0; (· exact evc)) | (apply endS trivial; rotate_left; (· exact eva); (· rfl); try refine ⟨?_, rfl⟩) | fail)
  refine Ev.whlH (S := Nat × Heap) (fun st => sp.length - st.1) (fun st => [(4, .slice (some ⟨σ.length + 1, 0, none⟩) (cellsN Q st.1).length (cellsN Q st.1).length), (14, .int .i64 st.1)])
    (fun st => σ ++ (⟨[.int .i64 W, .int .i64 H, .bool wr, sv, lv], 0, true⟩ :: rowI (cellsN Q st.1) :: st.2)) (fun st => st.1 ≤ sp.length) (0, []) (by (simp only [List.cons_append, List.nil_append, ↓fget_cons, push_cast, Nat.reduceEqDiff, reduceIte] <;> rfl)) rfl (Nat.zero_le _) ?_
  rintro ⟨i, rub⟩ F hF hi
  dsimp only at hi hF ⊢
  (simp only [List.cons_append, List.nil_append, ↓fget_cons, fkeep_cons, fkeep_nil, Nat.reduceEqDiff, reduceIte] at hF; subst hF)
  have hlen := cellsN_len Q i
  by_cases hlt : i < sp.length
  · obtain ⟨g, hg⟩ : ∃ g : Nat → Bool, g = fun k => diffS sp i k && decide (wayA wr W ((i % W : Nat) : Int) ((k % W : Nat) : Int) + wayA wr H ((i / W : Nat) : Int) ((k / W : Nat) : Int) = 1) := ⟨_, rfl⟩
    repeat' (first | apply Ev.sq | apply Ev.rg | refine Ev.aKp ?_ | apply thenQ.n | apply thenQ.e | apply thenQ.r | apply blkQ.n | apply blkQ.e | refine blkQ.x ?_ rfl | apply blkQ.r | refine Ev.aT ?_ | refine Ev.aF ?_ | apply Ev.skip | apply Ev.exit | apply Ev.ret | apply Ev.bk | refine EvR.mv ?_ | refine EvR.fa ?_ | refine EvR.l1 ?_ | refine EvR.aNotSF ?_ | refine EvR.aNotST ?_ | refine EvR.aMetT ?_ | refine EvR.aMetF ?_ | refine EvR.aUS ?_ | refine EvR.mvc ?_ | refine EvR.lv ?_ | refine EvR.lp ?_ | refine EvR.lNp ?_ | refine EvR.pkT ?_ | refine EvR.pkF ?_ | refine EvR.lN ?_ | refine EvR.ix ?_ | refine EvR.le ?_ | refine EvR.ixo ?_ | refine EvR.l1o ?_ | refine EvR.lei ?_ | refine EvR.leb ?_ | refine EvR.lnr ?_ | refine EvR.lns ?_ | refine EvR.nt ?_ | refine EvR.lt ?_ | refine EvR.le_ ?_ | refine EvR.gt ?_ | refine EvR.ge ?_ | refine EvR.eqi ?_ | refine EvR.nei ?_ | refine EvR.add ?_ | refine EvR.sub ?_ | refine EvR.mul ?_ | refine EvR.rem ?_ | refine EvR.quo ?_ | refine EvR.nc ?_ | refine EvR.ex ?_ | refine EvR.f1 ?_ | refine EvR.fadd ?_ | refine EvR.fsub ?_ | refine EvR.fmul ?_ | refine EvR.fquo ?_ | refine EvR.flt_ ?_ | refine EvR.fle_ ?_ | refine EvR.fgt_ ?_ | refine EvR.fge_ ?_ | refine EvR.feq_ ?_ | refine EvR.fne_ ?_ | refine EvR.cv ?_ | refine EvR.cvu ?_ | refine EvR.cvf ?_ | refine EvR.cvw ?_ | refine EvR.bx ?_ | refine EvR.aNotNT ?_ | refine EvR.aNotNF ?_ | refine EvR.aUN ?_ | refine EvR.nl ?_ | refine EvR.so ?_ | (apply Ev.regionQ drk; (· exact quie)) | (apply Ev.regionN0 drk; (· exact quie)) | (apply Ev.regionA drk (by assumption); (· exact quie)) | (apply Ev.regionNA drk (by assumption); (· exact quie)) | (apply Ev.regionS0 drk; (· exact quie)) | (refine EvR.aSplB ?_ ?_ <;> (intro hb; rw [hb]; (try simp only [Bool.not_eq_true', Bool.not_eq_false', Bool.not_eq_eq_eq_not, Bool.not_true, Bool.not_false, decide_eq_true_eq, decide_eq_false_iff_not, Bool.and_eq_true, Bool.and_eq_false_iff, Bool.or_eq_true, Bool.or_eq_false_iff] at hb); (try (exfalso; omega)))) | (refine Ev.aSplB ?_ ?_ <;> (intro hb; (try rw [hb]); (try simp only [Bool.not_eq_true', Bool.not_eq_false', Bool.not_eq_eq_eq_not, Bool.not_true, Bool.not_false, decide_eq_true_eq, decide_eq_false_iff_not, Bool.and_eq_true, Bool.and_eq_false_iff, Bool.or_eq_true, Bool.or_eq_false_iff] at hb); (try (exfalso; omega)))) | (apply EvR.aS0; (· exact evc)) | (apply EvR.aN0; (· exact evc)) | (apply endS trivial; rotate_left; (· exact eva); (· rfl); try refine ⟨?_, rfl⟩) | fail)
    refine Ev.whlC (S := Nat) (fun k => sp.length - k) (fun k => [(6, .bool ((List.range k).any g)), (20, .int .i64 k)]) (fun k => k ≤ sp.length) 0 (by (simp only [List.cons_append, List.nil_append, ↓fget_cons, push_cast, Nat.reduceEqDiff, reduceIte] <;> rfl)) (Nat.zero_le _) ?_
    rintro k F hF hk
    (simp only [List.cons_append, List.nil_append, ↓fget_cons, fkeep_cons, fkeep_nil, Nat.reduceEqDiff, reduceIte] at hF; subst hF)
    by_cases hlt2 : k < sp.length
    · have eS := any_succ g k
      have eg : g k = (!feq .f32 (sp.getD i 0) (sp.getD k 0) && decide (wayA wr W ((i : Int) % W) ((k : Int) % W) + wayA wr H ((i : Int) / W) ((k : Int) / W) = 1)) := by
        rw [hg]; simp only [diffS, Int.natCast_emod, Int.natCast_ediv]
      generalize (List.range k).any g = E at eS
      repeat' (first | apply Ev.sq | apply Ev.rg | refine Ev.aKp ?_ | apply thenQ.n | apply thenQ.e | apply thenQ.r | apply blkQ.n | apply blkQ.e | refine blkQ.x ?_ rfl | apply blkQ.r | refine Ev.aT ?_ | refine Ev.aF ?_ | apply Ev.skip | apply Ev.exit | apply Ev.ret | apply Ev.bk | refine EvR.mv ?_ | refine EvR.fa ?_ | refine EvR.l1 ?_ | refine EvR.aNotSF ?_ | refine EvR.aNotST ?_ | refine EvR.aMetT ?_ | refine EvR.aMetF ?_ | refine EvR.aUS ?_ | refine EvR.mvc ?_ | refine EvR.lv ?_ | refine EvR.lp ?_ | refine EvR.lNp ?_ | refine EvR.pkT ?_ | refine EvR.pkF ?_ | refine EvR.lN ?_ | refine EvR.ix ?_ | refine EvR.le ?_ | refine EvR.ixo ?_ | refine EvR.l1o ?_ | refine EvR.lei ?_ | refine EvR.leb ?_ | refine EvR.lnr ?_ | refine EvR.lns ?_ | refine EvR.nt ?_ | refine EvR.lt ?_ | refine EvR.le_ ?_ | refine EvR.gt ?_ | refine EvR.ge ?_ | refine EvR.eqi ?_ | refine EvR.nei ?_ | refine EvR.add ?_ | refine EvR.sub ?_ | refine EvR.mul ?_ | refine EvR.rem ?_ | refine EvR.quo ?_ | refine EvR.nc ?_ | refine EvR.ex ?_ | refine EvR.f1 ?_ | refine EvR.fadd ?_ | refine EvR.fsub ?_ | refine EvR.fmul ?_ | refine EvR.fquo ?_ | refine EvR.flt_ ?_ | refine EvR.fle_ ?_ | refine EvR.fgt_ ?_ | refine EvR.fge_ ?_ | refine EvR.feq_ ?_ | refine EvR.fne_ ?_ | refine EvR.cv ?_ | refine EvR.cvu ?_ | refine EvR.cvf ?_ | refine EvR.cvw ?_ | refine EvR.bx ?_ | refine EvR.aNotNT ?_ | refine EvR.aNotNF ?_ | refine EvR.aUN ?_ | refine EvR.nl ?_ | refine EvR.so ?_ | (apply Ev.regionQ drk; (· exact quie)) | (apply Ev.regionN0 drk; (· exact quie)) | (apply Ev.regionA drk (by assumption); (· exact quie)) | (apply Ev.regionNA drk (by assumption); (· exact quie)) | (apply Ev.regionS0 drk; (· exact quie)) | (refine EvR.aSplB ?_ ?_ <;> (intro hb; rw [hb]; (try simp only [Bool.not_eq_true', Bool.not_eq_false', Bool.not_eq_eq_eq_not, Bool.not_true, Bool.not_false, decide_eq_true_eq, decide_eq_false_iff_not, Bool.and_eq_true, Bool.and_eq_false_iff, Bool.or_eq_true, Bool.or_eq_false_iff] at hb); (try (exfalso; omega)))) | (refine Ev.aSplB ?_ ?_ <;> (intro hb; (try rw [hb]); (try simp only [Bool.not_eq_true', Bool.not_eq_false', Bool.not_eq_eq_eq_not, Bool.not_true, Bool.not_false, decide_eq_true_eq, decide_eq_false_iff_not, Bool.and_eq_true, Bool.and_eq_false_iff, Bool.or_eq_true, Bool.or_eq_false_iff] at hb); (try (exfalso; omega)))) | (apply EvR.aS0; (· exact evc)) | (apply EvR.aN0; (· exact evc)) | (apply endS trivial; rotate_left; (· exact eva); (· rfl); try refine ⟨?_, rfl⟩) | fail)
      any_goals
        (apply EvR.aCall h2.at_; (· exact eva); (· exact  h2.ok _ (σ.length + 0) W H i k wr sv lv true (by rw [hget]; rfl) (by omega) (by omega) (by omega) (by omega) (by omega)); (rintro _ _ ⟨rfl, rfl⟩; refine EvR.nrm ?_))
        repeat' (first | apply Ev.sq | apply Ev.rg | refine Ev.aKp ?_ | apply thenQ.n | apply thenQ.e | apply thenQ.r | apply blkQ.n | apply blkQ.e | refine blkQ.x ?_ rfl | apply blkQ.r | refine Ev.aT ?_ | refine Ev.aF ?_ | apply Ev.skip | apply Ev.exit | apply Ev.ret | apply Ev.bk | refine EvR.mv ?_ | refine EvR.fa ?_ | refine EvR.l1 ?_ | refine EvR.aNotSF ?_ | refine EvR.aNotST ?_ | refine EvR.aMetT ?_ | refine EvR.aMetF ?_ | refine EvR.aUS ?_ | refine EvR.mvc ?_ | refine EvR.lv ?_ | refine EvR.lp ?_ | refine EvR.lNp ?_ | refine EvR.pkT ?_ | refine EvR.pkF ?_ | refine EvR.lN ?_ | refine EvR.ix ?_ | refine EvR.le ?_ | refine EvR.ixo ?_ | refine EvR.l1o ?_ | refine EvR.lei ?_ | refine EvR.leb ?_ | refine EvR.lnr ?_ | refine EvR.lns ?_ | refine EvR.nt ?_ | refine EvR.lt ?_ | refine EvR.le_ ?_ | refine EvR.gt ?_ | refine EvR.ge ?_ | refine EvR.eqi ?_ | refine EvR.nei ?_ | refine EvR.add ?_ | refine EvR.sub ?_ | refine EvR.mul ?_ | refine EvR.rem ?_ | refine EvR.quo ?_ | refine EvR.nc ?_ | refine EvR.ex ?_ | refine EvR.f1 ?_ | refine EvR.fadd ?_ | refine EvR.fsub ?_ | refine EvR.fmul ?_ | refine EvR.fquo ?_ | refine EvR.flt_ ?_ | refine EvR.fle_ ?_ | refine EvR.fgt_ ?_ | refine EvR.fge_ ?_ | refine EvR.feq_ ?_ | refine EvR.fne_ ?_ | refine EvR.cv ?_ | refine EvR.cvu ?_ | refine EvR.cvf ?_ | refine EvR.cvw ?_ | refine EvR.bx ?_ | refine EvR.aNotNT ?_ | refine EvR.aNotNF ?_ | refine EvR.aUN ?_ | refine EvR.nl ?_ | refine EvR.so ?_ | (apply Ev.regionQ drk; (· exact quie)) | (apply Ev.regionN0 drk; (· exact quie)) | (apply Ev.regionA drk (by assumption); (· exact quie)) | (apply Ev.regionNA drk (by assumption); (· exact quie)) | (apply Ev.regionS0 drk; (· exact quie)) | (refine EvR.aSplB ?_ ?_ <;> (intro hb; rw [hb]; (try simp only [Bool.not_eq_true', Bool.not_eq_false', Bool.not_eq_eq_eq_not, Bool.not_true, Bool.not_false, decide_eq_true_eq, decide_eq_false_iff_not, Bool.and_eq_true, Bool.and_eq_false_iff, Bool.or_eq_true, Bool.or_eq_false_iff] at hb); (try (exfalso; omega)))) | (refine Ev.aSplB ?_ ?_ <;> (intro hb; (try rw [hb]); (try simp only [Bool.not_eq_true', Bool.not_eq_false', Bool.not_eq_eq_eq_not, Bool.not_true, Bool.not_false, decide_eq_true_eq, decide_eq_false_iff_not, Bool.and_eq_true, Bool.and_eq_false_iff, Bool.or_eq_true, Bool.or_eq_false_iff] at hb); (try (exfalso; omega)))) | (apply EvR.aS0; (· exact evc)) | (apply EvR.aN0; (· exact evc)) | (apply endS trivial; rotate_left; (· exact eva); (· rfl); try refine ⟨?_, rfl⟩) | fail)
      all_goals first
        | (have e3 : (List.range (k + 1)).any g = true := by rw [eS, eg]; grind
           exact ⟨k + 1, by omega, by rw [e3]; (simp only [List.cons_append, List.nil_append, ↓fget_cons, push_cast, Nat.reduceEqDiff, reduceIte] <;> rfl), rfl, by omega⟩)
        | (have e3 : (List.range (k + 1)).any g = false := by rw [eS, eg]; grind
           exact ⟨k + 1, by omega, by rw [e3]; (simp only [List.cons_append, List.nil_append, ↓fget_cons, push_cast, Nat.reduceEqDiff, reduceIte] <;> rfl), rfl, by omega⟩)
        | (have e3 : (List.range (k + 1)).any g = decide (wayA wr W ((i : Int) % W) ((k : Int) % W) + wayA wr H ((i : Int) / W) ((k : Int) / W) = 1) := by rw [eS, eg]; grind
           exact ⟨k + 1, by omega, by rw [e3]; (simp only [List.cons_append, List.nil_append, ↓fget_cons, push_cast, Nat.reduceEqDiff, reduceIte] <;> rfl), rfl, by omega⟩)
    · obtain rfl : k = sp.length := by omega
      have hq : (List.range sp.length).any g = Q i := by rw [hQ, hg, hl]; rfl
      rw [hq]
      cases hQi : Q i
      · have e := cellsN_f (Q := Q) (n := i) hQi
        repeat' (first | apply Ev.sq | apply Ev.rg | refine Ev.aKp ?_ | apply thenQ.n | apply thenQ.e | apply thenQ.r | apply blkQ.n | apply blkQ.e | refine blkQ.x ?_ rfl | apply blkQ.r | refine Ev.aT ?_ | refine Ev.aF ?_ | apply Ev.skip | apply Ev.exit | apply Ev.ret | apply Ev.bk | refine EvR.mv ?_ | refine EvR.fa ?_ | refine EvR.l1 ?_ | refine EvR.aNotSF ?_ | refine EvR.aNotST ?_ | refine EvR.aMetT ?_ | refine EvR.aMetF ?_ | refine EvR.aUS ?_ | refine EvR.mvc ?_ | refine EvR.lv ?_ | refine EvR.lp ?_ | refine EvR.lNp ?_ | refine EvR.pkT ?_ | refine EvR.pkF ?_ | refine EvR.lN ?_ | refine EvR.ix ?_ | refine EvR.le ?_ | refine EvR.ixo ?_ | refine EvR.l1o ?_ | refine EvR.lei ?_ | refine EvR.leb ?_ | refine EvR.lnr ?_ | refine EvR.lns ?_ | refine EvR.nt ?_ | refine EvR.lt ?_ | refine EvR.le_ ?_ | refine EvR.gt ?_ | refine EvR.ge ?_ | refine EvR.eqi ?_ | refine EvR.nei ?_ | refine EvR.add ?_ | refine EvR.sub ?_ | refine EvR.mul ?_ | refine EvR.rem ?_ | refine EvR.quo ?_ | refine EvR.nc ?_ | refine EvR.ex ?_ | refine EvR.f1 ?_ | refine EvR.fadd ?_ | refine EvR.fsub ?_ | refine EvR.fmul ?_ | refine EvR.fquo ?_ | refine EvR.flt_ ?_ | refine EvR.fle_ ?_ | refine EvR.fgt_ ?_ | refine EvR.fge_ ?_ | refine EvR.feq_ ?_ | refine EvR.fne_ ?_ | refine EvR.cv ?_ | refine EvR.cvu ?_ | refine EvR.cvf ?_ | refine EvR.cvw ?_ | refine EvR.bx ?_ | refine EvR.aNotNT ?_ | refine EvR.aNotNF ?_ | refine EvR.aUN ?_ | refine EvR.nl ?_ | refine EvR.so ?_ | (apply Ev.regionQ drk; (· exact quie)) | (apply Ev.regionN0 drk; (· exact quie)) | (apply Ev.regionA drk (by assumption); (· exact quie)) | (apply Ev.regionNA drk (by assumption); (· exact quie)) | (apply Ev.regionS0 drk; (· exact quie)) | (refine EvR.aSplB ?_ ?_ <;> (intro hb; rw [hb]; (try simp only [Bool.not_eq_true', Bool.not_eq_false', Bool.not_eq_eq_eq_not, Bool.not_true, Bool.not_false, decide_eq_true_eq, decide_eq_false_iff_not, Bool.and_eq_true, Bool.and_eq_false_iff, Bool.or_eq_true, Bool.or_eq_false_iff] at hb); (try (exfalso; omega)))) | (refine Ev.aSplB ?_ ?_ <;> (intro hb; (try rw [hb]); (try simp only [Bool.not_eq_true', Bool.not_eq_false', Bool.not_eq_eq_eq_not, Bool.not_true, Bool.not_false, decide_eq_true_eq, decide_eq_false_iff_not, Bool.and_eq_true, Bool.and_eq_false_iff, Bool.or_eq_true, Bool.or_eq_false_iff] at hb); (try (exfalso; omega)))) | (apply EvR.aS0; (· exact evc)) | (apply EvR.aN0; (· exact evc)) | (apply endS trivial; rotate_left; (· exact eva); (· rfl); try refine ⟨?_, rfl⟩) | fail)
        exact ⟨(i + 1, rub), by dsimp only; omega, by rw [e]; (simp only [List.cons_append, List.nil_append, ↓fget_cons, push_cast, Nat.reduceEqDiff, reduceIte] <;> rfl), by dsimp only; rw [e], by dsimp only; omega⟩
      · have e := cellsN_t (Q := Q) (n := i) hQi
        have e2 : (cellsN Q (i + 1)).length = (cellsN Q i).length + 1 := by rw [e]; simp
        repeat' (first | apply Ev.sq | apply Ev.rg | refine Ev.aKp ?_ | apply thenQ.n | apply thenQ.e | apply thenQ.r | apply blkQ.n | apply blkQ.e | refine blkQ.x ?_ rfl | apply blkQ.r | refine Ev.aT ?_ | refine Ev.aF ?_ | apply Ev.skip | apply Ev.exit | apply Ev.ret | apply Ev.bk | refine EvR.mv ?_ | refine EvR.fa ?_ | refine EvR.l1 ?_ | refine EvR.aNotSF ?_ | refine EvR.aNotST ?_ | refine EvR.aMetT ?_ | refine EvR.aMetF ?_ | refine EvR.aUS ?_ | refine EvR.mvc ?_ | refine EvR.lv ?_ | refine EvR.lp ?_ | refine EvR.lNp ?_ | refine EvR.pkT ?_ | refine EvR.pkF ?_ | refine EvR.lN ?_ | refine EvR.ix ?_ | refine EvR.le ?_ | refine EvR.ixo ?_ | refine EvR.l1o ?_ | refine EvR.lei ?_ | refine EvR.leb ?_ | refine EvR.lnr ?_ | refine EvR.lns ?_ | refine EvR.nt ?_ | refine EvR.lt ?_ | refine EvR.le_ ?_ | refine EvR.gt ?_ | refine EvR.ge ?_ | refine EvR.eqi ?_ | refine EvR.nei ?_ | refine EvR.add ?_ | refine EvR.sub ?_ | refine EvR.mul ?_ | refine EvR.rem ?_ | refine EvR.quo ?_ | refine EvR.nc ?_ | refine EvR.ex ?_ | refine EvR.f1 ?_ | refine EvR.fadd ?_ | refine EvR.fsub ?_ | refine EvR.fmul ?_ | refine EvR.fquo ?_ | refine EvR.flt_ ?_ | refine EvR.fle_ ?_ | refine EvR.fgt_ ?_ | refine EvR.fge_ ?_ | refine EvR.feq_ ?_ | refine EvR.fne_ ?_ | refine EvR.cv ?_ | refine EvR.cvu ?_ | refine EvR.cvf ?_ | refine EvR.cvw ?_ | refine EvR.bx ?_ | refine EvR.aNotNT ?_ | refine EvR.aNotNF ?_ | refine EvR.aUN ?_ | refine EvR.nl ?_ | refine EvR.so ?_ | (apply Ev.regionQ drk; (· exact quie)) | (apply Ev.regionN0 drk; (· exact quie)) | (apply Ev.regionA drk (by assumption); (· exact quie)) | (apply Ev.regionNA drk (by assumption); (· exact quie)) | (apply Ev.regionS0 drk; (· exact quie)) | (refine EvR.aSplB ?_ ?_ <;> (intro hb; rw [hb]; (try simp only [Bool.not_eq_true', Bool.not_eq_false', Bool.not_eq_eq_eq_not, Bool.not_true, Bool.not_false, decide_eq_true_eq, decide_eq_false_iff_not, Bool.and_eq_true, Bool.and_eq_false_iff, Bool.or_eq_true, Bool.or_eq_false_iff] at hb); (try (exfalso; omega)))) | (refine Ev.aSplB ?_ ?_ <;> (intro hb; (try rw [hb]); (try simp only [Bool.not_eq_true', Bool.not_eq_false', Bool.not_eq_eq_eq_not, Bool.not_true, Bool.not_false, decide_eq_true_eq, decide_eq_false_iff_not, Bool.and_eq_true, Bool.and_eq_false_iff, Bool.or_eq_true, Bool.or_eq_false_iff] at hb); (try (exfalso; omega)))) | (apply EvR.aS0; (· exact evc)) | (apply EvR.aN0; (· exact evc)) | (apply endS trivial; rotate_left; (· exact eva); (· rfl); try refine ⟨?_, rfl⟩) | fail)
        exact ⟨(i + 1, rub ++ [rowI [(i : Int)]]), by dsimp only; omega, by rw [e2]; (simp only [List.cons_append, List.nil_append, ↓fget_cons, push_cast, Nat.reduceEqDiff, reduceIte] <;> rfl), by dsimp only; rw [e]; rfl, by dsimp only; omega⟩
  · obtain rfl : i = sp.length := by omega
    repeat' (first | apply Ev.sq | apply Ev.rg | refine Ev.aKp ?_ | apply thenQ.n | apply thenQ.e | apply thenQ.r | apply blkQ.n | apply blkQ.e | refine blkQ.x ?_ rfl | apply blkQ.r | refine Ev.aT ?_ | refine Ev.aF ?_ | apply Ev.skip | apply Ev.exit | apply Ev.ret | apply Ev.bk | refine EvR.mv ?_ | refine EvR.fa ?_ | refine EvR.l1 ?_ | refine EvR.aNotSF ?_ | refine EvR.aNotST ?_ | refine EvR.aMetT ?_ | refine EvR.aMetF ?_ | refine EvR.aUS ?_ | refine EvR.mvc ?_ | refine EvR.lv ?_ | refine EvR.lp ?_ | refine EvR.lNp ?_ | refine EvR.pkT ?_ | refine EvR.pkF ?_ | refine EvR.lN ?_ | refine EvR.ix ?_ | refine EvR.le ?_ | refine EvR.ixo ?_ | refine EvR.l1o ?_ | refine EvR.lei ?_ | refine EvR.leb ?_ | refine EvR.lnr ?_ | refine EvR.lns ?_ | refine EvR.nt ?_ | refine EvR.lt ?_ | refine EvR.le_ ?_ | refine EvR.gt ?_ | refine EvR.ge ?_ | refine EvR.eqi ?_ | refine EvR.nei ?_ | refine EvR.add ?_ | refine EvR.sub ?_ | refine EvR.mul ?_ | refine EvR.rem ?_ | refine EvR.quo ?_ | refine EvR.nc ?_ | refine EvR.ex ?_ | refine EvR.f1 ?_ | refine EvR.fadd ?_ | refine EvR.fsub ?_ | refine EvR.fmul ?_ | refine EvR.fquo ?_ | refine EvR.flt_ ?_ | refine EvR.fle_ ?_ | refine EvR.fgt_ ?_ | refine EvR.fge_ ?_ | refine EvR.feq_ ?_ | refine EvR.fne_ ?_ | refine EvR.cv ?_ | refine EvR.cvu ?_ | refine EvR.cvf ?_ | refine EvR.cvw ?_ | refine EvR.bx ?_ | refine EvR.aNotNT ?_ | refine EvR.aNotNF ?_ | refine EvR.aUN ?_ | refine EvR.nl ?_ | refine EvR.so ?_ | (apply Ev.regionQ drk; (· exact quie)) | (apply Ev.regionN0 drk; (· exact quie)) | (apply Ev.regionA drk (by assumption); (· exact quie)) | (apply Ev.regionNA drk (by assumption); (· exact quie)) | (apply Ev.regionS0 drk; (· exact quie)) | (refine EvR.aSplB ?_ ?_ <;> (intro hb; rw [hb]; (try simp only [Bool.not_eq_true', Bool.not_eq_false', Bool.not_eq_eq_eq_not, Bool.not_true, Bool.not_false, decide_eq_true_eq, decide_eq_false_iff_not, Bool.and_eq_true, Bool.and_eq_false_iff, Bool.or_eq_true, Bool.or_eq_false_iff] at hb); (try (exfalso; omega)))) | (refine Ev.aSplB ?_ ?_ <;> (intro hb; (try rw [hb]); (try simp only [Bool.not_eq_true', Bool.not_eq_false', Bool.not_eq_eq_eq_not, Bool.not_true, Bool.not_false, decide_eq_true_eq, decide_eq_false_iff_not, Bool.and_eq_true, Bool.and_eq_false_iff, Bool.or_eq_true, Bool.or_eq_false_iff] at hb); (try (exfalso; omega)))) | (apply EvR.aS0; (· exact evc)) | (apply EvR.aN0; (· exact evc)) | (apply endS trivial; rotate_left; (· exact eva); (· rfl); try refine ⟨?_, rfl⟩) | fail)
    (apply endR [1] trivial ⟨rfl, rfl⟩; (· exact eva); (· simp [gcTop, gcVal, gcLeaf, gcLeaves, gcVals, constOk, gc_lt, gc_lt0]); (· rfl); (· decide); (· simp [allConst, f32s, i64s, b8s, bools, constOk]))
end Go.Abs

