/- Laws of functions: half planes are painted, by the program and by the reference. Conditions: the laws of what they call. -/
import Derived.Test.YtlfjplocffebmaaExactPaintLensL17
namespace Go.Abs

set_option linter.unusedSimpArgs false
set_option linter.unusedVariables false
set_option maxHeartbeats 8000000
/- loop.example/g01201/spec.l09Near -/
def spec_l09Near_r0 : List SOper := [
  ⟨(some 2), none, .mov (.const (.bool false)), 0⟩]
def spec_l09Near_r1 (i_spec_l00In : FuncId) : List SOper := [
  ⟨(some 3), none, .mov (.tmp 0), 0⟩,
  ⟨(some 4), none, .call (.func i_spec_l00In) [(.tmp 3), (.const (.int .i64 (-16))), (.const (.int .i64 32))], 1⟩,
  ⟨(some 2), none, .mov (.tmp 4), 3⟩]
def spec_l09Near (i_spec_l00In : FuncId) : SFunc := ⟨5, [.tmp 2], (.kp [0] (.seq (.region spec_l09Near_r0 false) (.kp [0] (.seq (.region (spec_l09Near_r1 i_spec_l00In) false) .ret))))⟩

/- loop.example/g01201/spec.l09Small -/
def spec_l09Small_r0 : List SOper := [
  ⟨(some 2), none, .mov (.const (.bool false)), 0⟩]
def spec_l09Small_r1 (i_spec_l00In : FuncId) : List SOper := [
  ⟨(some 3), none, .mov (.tmp 0), 0⟩,
  ⟨(some 4), none, .call (.func i_spec_l00In) [(.tmp 3), (.const (.int .i64 (-1000))), (.const (.int .i64 1000))], 1⟩,
  ⟨(some 2), none, .mov (.tmp 4), 3⟩]
def spec_l09Small (i_spec_l00In : FuncId) : SFunc := ⟨5, [.tmp 2], (.kp [0] (.seq (.region spec_l09Small_r0 false) (.kp [0] (.seq (.region (spec_l09Small_r1 i_spec_l00In) false) .ret))))⟩

/- loop.example/g01201/spec.l09Square -/
def spec_l09Square_r0 : List SOper := [
  ⟨(some 8), none, .mov (.const (.int .i64 0)), 0⟩]
def spec_l09Square_r1 : List SOper := [
  ⟨(some 11), none, .mov (.tmp 1), 0⟩,
  ⟨(some 12), none, .mov (.tmp 0), 0⟩,
  ⟨(some 13), none, .nilCheck (.tmp 12), 2⟩,
  ⟨(some 14), none, .fieldAddr 0 (.tmp 13), 6⟩,
  ⟨(some 15), none, .load1 (.tmp 14), 14⟩,
  ⟨(some 16), none, .bin .rem .other (.tmp 11) (.tmp 15), 31⟩,
  ⟨(some 17), none, .mov (.tmp 2), 0⟩,
  ⟨(some 18), none, .bin .sub .other (.tmp 16) (.tmp 17), 127⟩,
  ⟨(some 9), none, .mov (.tmp 18), 255⟩]
def spec_l09Square_r2 : List SOper := [
  ⟨(some 19), none, .mov (.tmp 1), 0⟩,
  ⟨(some 20), none, .mov (.tmp 0), 0⟩,
  ⟨(some 21), none, .nilCheck (.tmp 20), 2⟩,
  ⟨(some 22), none, .fieldAddr 0 (.tmp 21), 6⟩,
  ⟨(some 23), none, .load1 (.tmp 22), 14⟩,
  ⟨(some 24), none, .bin .quo .other (.tmp 19) (.tmp 23), 31⟩,
  ⟨(some 25), none, .mov (.tmp 3), 0⟩,
  ⟨(some 26), none, .bin .sub .other (.tmp 24) (.tmp 25), 127⟩,
  ⟨(some 10), none, .mov (.tmp 26), 255⟩]
def spec_l09Square_r3 : List SOper := [
  ⟨(some 27), none, .mov (.tmp 9), 0⟩,
  ⟨(some 28), none, .mov (.tmp 9), 0⟩,
  ⟨(some 29), none, .bin .mul .other (.tmp 27) (.tmp 28), 3⟩,
  ⟨(some 30), none, .mov (.tmp 10), 0⟩,
  ⟨(some 31), none, .mov (.tmp 10), 0⟩,
  ⟨(some 32), none, .bin .mul .other (.tmp 30) (.tmp 31), 24⟩,
  ⟨(some 33), none, .bin .add .other (.tmp 29) (.tmp 32), 63⟩,
  ⟨(some 8), none, .mov (.tmp 33), 127⟩]
def spec_l09Square : SFunc := ⟨34, [.tmp 8], (.kp [0, 1, 2, 3] (.seq (.region spec_l09Square_r0 false) (.kp [0, 1, 2, 3] (.seq (.region spec_l09Square_r1 false) (.kp [0, 1, 3, 9] (.seq (.region spec_l09Square_r2 false) (.kp [9, 10] (.seq (.region spec_l09Square_r3 false) .ret))))))))⟩

/- loop.example/g01201/spec.l09Cells -/
def spec_l09Cells_r0 : List SOper := [
  ⟨(some 6), none, .alloc [(.int .i64 0), (.int .i64 0), (.bool false), (.slice none 0 0), (.slice none 0 0)], 0⟩]
def spec_l09Cells_r1 (i_spec_l05Own : FuncId) : List SOper := [
  ⟨(some 9), none, .mov (.tmp 0), 0⟩,
  ⟨(some 10), none, .call (.func i_spec_l05Own) [(.tmp 9)], 1⟩,
  ⟨(some 7), none, .alloc [(.int .i64 0), (.int .i64 0), (.bool false), (.slice none 0 0), (.slice none 0 0)], 0⟩,
  ⟨none, none, .store 5 (.tmp 7) (.tmp 10), 7⟩]
def spec_l09Cells_r2 : List SOper := [
  ⟨(some 11), none, .mov (.tmp 1), 0⟩,
  ⟨(some 12), none, .len false (.tmp 11), 1⟩,
  ⟨(some 13), none, .mov (.const (.int .i64 0)), 0⟩]
def spec_l09Cells_r3 : List SOper := [
  ⟨(some 14), none, .bin .lss .other (.tmp 13) (.tmp 12), 0⟩]
def spec_l09Cells_r4 : List SOper := [
  ⟨(some 15), none, .mov (.tmp 13), 0⟩,
  ⟨(some 8), none, .mov (.tmp 15), 1⟩]
def spec_l09Cells_r5 : List SOper := [
  ⟨(some 16), none, .mov (.tmp 1), 0⟩,
  ⟨(some 17), none, .mov (.tmp 8), 0⟩,
  ⟨(some 18), none, .indexAddrS 1 (.tmp 16) (.tmp 17), 3⟩,
  ⟨(some 19), none, .load1 (.tmp 18), 7⟩]
def spec_l09Cells_r6 : List SOper := [
  ⟨(some 20), none, .fieldAddr 3 (.tmp 7), 0⟩,
  ⟨(some 21), none, .load1 (.tmp 20), 1⟩,
  ⟨(some 22), none, .mov (.tmp 8), 0⟩,
  ⟨(some 23), none, .mov (.tmp 2), 0⟩,
  ⟨(some 24), none, .nilCheck (.tmp 23), 8⟩,
  ⟨(some 25), none, .fieldAddr 0 (.tmp 24), 24⟩,
  ⟨(some 26), none, .load1 (.tmp 25), 56⟩,
  ⟨(some 27), none, .indexAddrS 1 (.tmp 21) (.tmp 22), 127⟩,
  ⟨none, none, .store 1 (.tmp 27) (.tmp 26), 255⟩]
def spec_l09Cells_r7 : List SOper := [
  ⟨(some 28), none, .fieldAddr 4 (.tmp 7), 0⟩,
  ⟨(some 29), none, .load1 (.tmp 28), 1⟩,
  ⟨(some 30), none, .mov (.tmp 8), 0⟩,
  ⟨(some 31), none, .mov (.tmp 2), 0⟩,
  ⟨(some 32), none, .nilCheck (.tmp 31), 8⟩,
  ⟨(some 33), none, .fieldAddr 1 (.tmp 32), 24⟩,
  ⟨(some 34), none, .load1 (.tmp 33), 56⟩,
  ⟨(some 35), none, .indexAddrS 1 (.tmp 29) (.tmp 30), 127⟩,
  ⟨none, none, .store 1 (.tmp 35) (.tmp 34), 255⟩]
def spec_l09Cells_r8 : List SOper := [
  ⟨(some 36), none, .bin .add .other (.tmp 13) (.const (.int .i64 1)), 0⟩,
  ⟨(some 13), none, .mov (.tmp 36), 1⟩]
def spec_l09Cells_l9 : SCode := (.kp [1, 2, 6, 7, 12, 13] (.seq (.region spec_l09Cells_r3 false) (.kp [1, 2, 6, 7, 12, 13, 14] (.seq (.cond (.tmp 14) .skip (.exit 0)) (.kp [1, 2, 6, 7, 12, 13] (.seq (.block 1 (.seq (.region spec_l09Cells_r4 false) (.kp [1, 2, 6, 7, 8, 12, 13] (.seq (.region spec_l09Cells_r5 false) (.kp [1, 2, 6, 7, 8, 12, 13, 19] (.cond (.tmp 19) (.seq (.region spec_l09Cells_r6 true) (.kp [1, 2, 6, 7, 8, 12, 13] (.region spec_l09Cells_r7 true))) .skip)))))) (.kp [1, 2, 6, 7, 12, 13] (.region spec_l09Cells_r8 false))))))))
def spec_l09Cells_r10 : List SOper := [
  ⟨(some 37), none, .loadN 5 (.tmp 7), 0⟩,
  ⟨none, none, .store 5 (.tmp 6) (.tmp 37), 1⟩]
def spec_l09Cells (i_spec_l05Own : FuncId) : SFunc := ⟨38, [.cellN 6 5], (.kp [0, 1, 2] (.seq (.region spec_l09Cells_r0 false) (.kp [0, 1, 2, 6] (.seq (.region (spec_l09Cells_r1 i_spec_l05Own) false) (.kp [1, 2, 6, 7] (.seq (.seq (.region spec_l09Cells_r2 false) (.kp [1, 2, 6, 7, 12, 13] (.block 0 (.loop spec_l09Cells_l9)))) (.kp [6, 7] (.seq (.region spec_l09Cells_r10 false) .ret))))))))⟩
theorem spec_l09Cells_r6_dr : drawOkW wStat spec_l09Cells_r6 = true := by kernel_rfl
attribute [push_cast] spec_l09Cells_r6_dr
theorem spec_l09Cells_r7_dr : drawOkW wStat spec_l09Cells_r7 = true := by kernel_rfl
attribute [push_cast] spec_l09Cells_r7_dr
end Go.Abs

