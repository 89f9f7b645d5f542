/- Laws of single functions: borders. Conditions: the laws of what they call. -/
import Derived.Test.YtdlicidmkakooaaOutlinedL10
namespace Go.Abs

set_option linter.unusedSimpArgs false
set_option linter.unusedVariables false
set_option maxHeartbeats 8000000
/- loop.example/g01201/spec.l02Border -/
def spec_l02Border_r0 : List SOper := [
 ⟨some 6, none, .mov (.const (.bool false)), 0⟩]
def spec_l02Border_r1 : List SOper := [
 ⟨some 7, none, .mov (.tmp 0), 0⟩,
 ⟨some 8, none, .nilCheck (.tmp 7), 1⟩,
 ⟨some 9, none, .fieldAddr 2 (.tmp 8), 3⟩,
 ⟨some 10, none, .load1 (.tmp 9), 7⟩,
 ⟨some 11, none, .un .not (.tmp 10), 15⟩,
 ⟨some 12, none, .mov (.tmp 11), 31⟩,
  ⟨(some 13), (some (12, true)), .mov (.tmp 1), 63⟩,
  ⟨(some 14), (some (12, true)), .bin .eql .other (.tmp 13) (.const (.int .i64 0)), 127⟩,
  ⟨(some 15), (some (12, true)), .mov (.tmp 14), 255⟩,
  ⟨(some 16), (some (15, false)), .mov (.tmp 1), 511⟩,
  ⟨(some 17), (some (15, false)), .mov (.tmp 0), 511⟩,
  ⟨(some 18), (some (15, false)), .nilCheck (.tmp 17), 1535⟩,
  ⟨(some 19), (some (15, false)), .fieldAddr 0 (.tmp 18), 3583⟩,
  ⟨(some 20), (some (15, false)), .load1 (.tmp 19), 7679⟩,
  ⟨(some 21), (some (15, false)), .bin .sub .other (.tmp 20) (.const (.int .i64 1)), 15871⟩,
  ⟨(some 22), (some (15, false)), .bin .eql .other (.tmp 16) (.tmp 21), 32767⟩,
  ⟨(some 23), (some (12, true)), .pick (.tmp 15) (.const (.bool true)) (.tmp 22), 65535⟩,
  ⟨(some 24), (some (12, true)), .mov (.tmp 23), 131071⟩,
  ⟨(some 25), (some (24, false)), .mov (.tmp 2), 262143⟩,
  ⟨(some 26), (some (24, false)), .bin .eql .other (.tmp 25) (.const (.int .i64 0)), 524287⟩,
  ⟨(some 27), (some (12, true)), .pick (.tmp 24) (.const (.bool true)) (.tmp 26), 1048575⟩,
  ⟨(some 28), (some (12, true)), .mov (.tmp 27), 2097151⟩,
  ⟨(some 29), (some (28, false)), .mov (.tmp 2), 4194303⟩,
  ⟨(some 30), (some (28, false)), .mov (.tmp 0), 4194303⟩,
  ⟨(some 31), (some (28, false)), .nilCheck (.tmp 30), 12582911⟩,
  ⟨(some 32), (some (28, false)), .fieldAddr 1 (.tmp 31), 29360127⟩,
  ⟨(some 33), (some (28, false)), .load1 (.tmp 32), 62914559⟩,
  ⟨(some 34), (some (28, false)), .bin .sub .other (.tmp 33) (.const (.int .i64 1)), 130023423⟩,
  ⟨(some 35), (some (28, false)), .bin .eql .other (.tmp 29) (.tmp 34), 268435455⟩,
  ⟨(some 36), (some (12, true)), .pick (.tmp 28) (.const (.bool true)) (.tmp 35), 536870911⟩,
 ⟨some 37, none, .pick (.tmp 12) (.tmp 36) (.const (.bool false)), 1073741823⟩,
 ⟨some 6, none, .mov (.tmp 37), 2147483647⟩]
def spec_l02Border : SFunc := ⟨38, [.tmp 6], (.kp [0,1,2] (.seq (.region spec_l02Border_r0 false) (.kp [0,1,2] (.seq (.region spec_l02Border_r1 false) .ret))))⟩

/- (loop.example/g01201/impl.Sheet).isBorder -/
def impl_Sheet_isBorder_r0 : List SOper := [
 ⟨some 3, none, .box (.tmp 0), 0⟩,
 ⟨some 6, none, .mov (.const (.bool false)), 0⟩]
def impl_Sheet_isBorder_r1 : List SOper := [
 ⟨some 7, none, .fieldAddr 2 (.tmp 3), 0⟩,
 ⟨some 8, none, .load1 (.tmp 7), 1⟩,
 ⟨some 9, none, .un .not (.tmp 8), 3⟩,
 ⟨some 10, none, .mov (.tmp 9), 7⟩,
  ⟨(some 11), (some (10, true)), .mov (.tmp 1), 15⟩,
  ⟨(some 12), (some (10, true)), .bin .eql .other (.tmp 11) (.const (.int .i64 0)), 31⟩,
  ⟨(some 13), (some (10, true)), .mov (.tmp 12), 63⟩,
  ⟨(some 14), (some (13, false)), .mov (.tmp 1), 127⟩,
  ⟨(some 15), (some (13, false)), .fieldAddr 0 (.tmp 3), 127⟩,
  ⟨(some 16), (some (13, false)), .load1 (.tmp 15), 383⟩,
  ⟨(some 17), (some (13, false)), .bin .sub .other (.tmp 16) (.const (.int .i64 1)), 895⟩,
  ⟨(some 18), (some (13, false)), .bin .eql .other (.tmp 14) (.tmp 17), 2047⟩,
  ⟨(some 19), (some (10, true)), .pick (.tmp 13) (.const (.bool true)) (.tmp 18), 4095⟩,
  ⟨(some 20), (some (10, true)), .mov (.tmp 19), 8191⟩,
  ⟨(some 21), (some (20, false)), .mov (.tmp 2), 16383⟩,
  ⟨(some 22), (some (20, false)), .bin .eql .other (.tmp 21) (.const (.int .i64 0)), 32767⟩,
  ⟨(some 23), (some (10, true)), .pick (.tmp 20) (.const (.bool true)) (.tmp 22), 65535⟩,
  ⟨(some 24), (some (10, true)), .mov (.tmp 23), 131071⟩,
  ⟨(some 25), (some (24, false)), .mov (.tmp 2), 262143⟩,
  ⟨(some 26), (some (24, false)), .fieldAddr 1 (.tmp 3), 262143⟩,
  ⟨(some 27), (some (24, false)), .load1 (.tmp 26), 786431⟩,
  ⟨(some 28), (some (24, false)), .bin .sub .other (.tmp 27) (.const (.int .i64 1)), 1835007⟩,
  ⟨(some 29), (some (24, false)), .bin .eql .other (.tmp 25) (.tmp 28), 4194303⟩,
  ⟨(some 30), (some (10, true)), .pick (.tmp 24) (.const (.bool true)) (.tmp 29), 8388607⟩,
 ⟨some 31, none, .pick (.tmp 10) (.tmp 30) (.const (.bool false)), 16777215⟩,
 ⟨some 6, none, .mov (.tmp 31), 33554431⟩]
def impl_Sheet_isBorder : SFunc := ⟨32, [.tmp 6], (.kp [0,1,2] (.seq (.region impl_Sheet_isBorder_r0 false) (.kp [1,2,3] (.seq (.region impl_Sheet_isBorder_r1 false) .ret))))⟩


def border (w h : Int) (wr : Bool) (x y : Int) : Bool := !wr && (decide (x = 0) || decide (x = w - 1) || decide (y = 0) || decide (y = h - 1))
def spec_l02Border_ok (c : Contract) : Prop := ∀ (σ : Heap) (b o : Nat) (w h : Int) (wr : Bool) (sv lv : Value) (x y : Int), PtAt σ b o [.int .i64 w, .int .i64 h, .bool wr, sv, lv] → 3 ≤ w → w ≤ 16 → 3 ≤ h → h ≤ 16 →
    Ret c [.pointer (some ⟨b, o, none⟩), .int .i64 x, .int .i64 y] σ fun v σ' => v = .bool (border w h wr x y) ∧ σ' = σ
theorem spec_l02Border_law {C : Ctab} : spec_l02Border_ok (gcC C spec_l02Border true) := by
  intro σ b o w h wr sv lv x y hb a1 a2 a3 a4
  unfold border
  cases wr
  all_goals
    refine ret_gc rfl rfl ?_
    repeat' (first | refine ff ?_ | ((first | refine sR ?_ ?_ | refine sC ?_ ?_) <;> (intro hb; (try rw [hb]); (try simp only [bb] at hb); (try (exfalso; first | omega | exact hb trivial)))) | (apply endS trivial; rotate_left; (· exact eva); (· rfl); try refine ⟨?_, rfl⟩) | fail)
    all_goals (simp_all)


def impl_Sheet_isBorder_ok (c : Contract) : Prop := ∀ (σ : Heap) (w h : Int) (wr : Bool) (sv lv : Value) (x y : Int), cellOk sv = true → cellOk lv = true → 3 ≤ w → w ≤ 16 → 3 ≤ h → h ≤ 16 →
    Ret c [shV w h wr sv lv, .int .i64 x, .int .i64 y] σ fun v σ' => v = .bool (border w h wr x y) ∧ σ' = σ
theorem impl_Sheet_isBorder_law {C : Ctab} : impl_Sheet_isBorder_ok (gcC C impl_Sheet_isBorder true) := by
  intro σ w h wr sv lv x y k1 k2 a1 a2 a3 a4
  unfold border
  cases wr
  all_goals
    refine ret_gc rfl rfl ?_
    repeat' (first | refine ff ?_ | ((first | refine sR ?_ ?_ | refine sC ?_ ?_) <;> (intro hb; (try rw [hb]); (try simp only [bb] at hb); (try (exfalso; first | omega | exact hb trivial)))) | (apply endS trivial; rotate_left; (· exact eva); (· rfl); try refine ⟨?_, rfl⟩) | fail)
    all_goals (simp_all)

end Go.Abs

