/- Laws of functions: films are recovered, by the reference. Conditions: the laws of what they call. -/
import Derived.Test.YtaacdckenhnocaaExactRecoverFilmL106
import Derived.Test.YtaacdckenhnocaaExactRecoverFilmL66
import Derived.Test.YtaacdckenhnocaaExactRecoverFilmL13
namespace Go.Abs

set_option linter.unusedSimpArgs false
set_option linter.unusedVariables false
set_option maxHeartbeats 8000000
set_option maxRecDepth 20000
/- loop.example/g01201/spec.l10Field -/
def spec_l10Field_r0 : List SOper := [
 ⟨some 2, none, .alloc [(.slice none 0 0), (.slice none 0 0), (.slice none 0 0)], 0⟩]
def spec_l10Field_r1 : List SOper := [
 ⟨some 5, none, .mov (.tmp 0), 0⟩,
 ⟨some 6, none, .len false (.tmp 5), 1⟩,
 ⟨some 7, none, .bin .quo .other (.tmp 6) (.const (.int .i64 3)), 3⟩,
 ⟨some 3, none, .mov (.tmp 7), 7⟩]
def spec_l10Field_r2 : List SOper := [
 ⟨some 8, none, .buildSlice 1 0 [] [], 0⟩,
 ⟨some 9, none, .mov (.tmp 0), 0⟩,
 ⟨some 10, none, .mov (.tmp 3), 0⟩,
 ⟨some 11, none, .sliceSl 1 (.tmp 9) none (some (.tmp 10)), 6⟩,
 ⟨some 12, none, .append 1 4 (.tmp 8) (.tmp 11), 15⟩,
 ⟨some 13, none, .build [(.slice none 0 0), (.slice none 0 0), (.slice none 0 0)] [(0, 1, (.tmp 12))], 31⟩,
 ⟨some 4, none, .alloc [(.slice none 0 0), (.slice none 0 0), (.slice none 0 0)], 0⟩,
 ⟨none, none, .store 3 (.tmp 4) (.tmp 13), 127⟩]
def spec_l10Field_r3 : List SOper := [
 ⟨some 14, none, .buildSlice 1 0 [] [], 0⟩,
 ⟨some 15, none, .mov (.tmp 0), 0⟩,
 ⟨some 16, none, .mov (.tmp 3), 0⟩,
 ⟨some 17, none, .mov (.tmp 3), 0⟩,
 ⟨some 18, none, .bin .mul .other (.const (.int .i64 2)) (.tmp 17), 8⟩,
 ⟨some 19, none, .sliceSl 1 (.tmp 15) (some (.tmp 16)) (some (.tmp 18)), 30⟩,
 ⟨some 20, none, .append 1 4 (.tmp 14) (.tmp 19), 63⟩,
 ⟨some 21, none, .fieldAddr 1 (.tmp 4), 127⟩,
 ⟨none, none, .store 1 (.tmp 21) (.tmp 20), 255⟩]
def spec_l10Field_r4 : List SOper := [
 ⟨some 22, none, .buildSlice 1 0 [] [], 0⟩,
 ⟨some 23, none, .mov (.tmp 0), 0⟩,
 ⟨some 24, none, .mov (.tmp 3), 0⟩,
 ⟨some 25, none, .bin .mul .other (.const (.int .i64 2)) (.tmp 24), 4⟩,
 ⟨some 26, none, .sliceSl 1 (.tmp 23) (some (.tmp 25)) none, 14⟩,
 ⟨some 27, none, .append 1 4 (.tmp 22) (.tmp 26), 31⟩,
 ⟨some 28, none, .fieldAddr 2 (.tmp 4), 63⟩,
 ⟨none, none, .store 1 (.tmp 28) (.tmp 27), 127⟩]
def spec_l10Field_r5 : List SOper := [
 ⟨some 29, none, .loadN 3 (.tmp 4), 0⟩,
 ⟨none, none, .store 3 (.tmp 2) (.tmp 29), 1⟩]
def spec_l10Field : SFunc := ⟨30, [.cellN 2 3], (.kp [0] (.seq (.region spec_l10Field_r0 false) (.kp [0,2] (.seq (.region spec_l10Field_r1 false) (.kp [0,2,3] (.seq (.region spec_l10Field_r2 false) (.kp [0,2,3,4] (.seq (.region spec_l10Field_r3 false) (.kp [0,2,3,4] (.seq (.region spec_l10Field_r4 false) (.kp [2,4] (.seq (.region spec_l10Field_r5 false) .ret))))))))))))⟩

/- loop.example/g01201/spec.l10Recover -/
def spec_l10Recover_r0 : List SOper := [
 ⟨some 2, none, .alloc [(.int .i64 0), (.int .i64 0), (.bool false), (.slice none 0 0), (.slice none 0 0), (.slice none 0 0)], 0⟩,
 ⟨some 3, none, .mov (.const (.int .i64 0)), 0⟩,
 ⟨some 4, none, .mov (.const (.bool false)), 2⟩]
def spec_l10Recover_r1 (i_spec_l10Begin : FuncId) : List SOper := [
 ⟨some 16, none, .mov (.tmp 0), 0⟩,
 ⟨some 17, none, .call (.func i_spec_l10Begin) [(.tmp 16)], 1⟩,
 ⟨some 15, none, .mov (.tmp 17), 3⟩,
 ⟨some 18, none, .extract (.tmp 15) 0, 7⟩,
 ⟨some 19, none, .extract (.tmp 15) 1, 7⟩,
 ⟨some 20, none, .extract (.tmp 15) 2, 7⟩,
 ⟨some 5, none, .alloc [(.int .i64 0), (.int .i64 0), (.bool false), (.slice none 0 0), (.slice none 0 0)], 0⟩,
 ⟨none, none, .store 5 (.tmp 5) (.tmp 18), 79⟩,
 ⟨some 6, none, .mov (.tmp 19), 223⟩,
 ⟨some 7, none, .mov (.tmp 20), 511⟩]
def spec_l10Recover_r2 : List SOper := [
 ⟨some 21, none, .loadN 5 (.tmp 5), 0⟩,
 ⟨some 22, none, .buildSlice 3 0 [] [], 0⟩,
 ⟨some 23, none, .build [(.int .i64 0), (.int .i64 0), (.bool false), (.slice none 0 0), (.slice none 0 0), (.slice none 0 0)] [(0, 5, (.tmp 21)), (5, 1, (.tmp 22))], 3⟩,
 ⟨some 8, none, .alloc [(.int .i64 0), (.int .i64 0), (.bool false), (.slice none 0 0), (.slice none 0 0), (.slice none 0 0)], 0⟩,
 ⟨none, none, .store 6 (.tmp 8) (.tmp 23), 15⟩]
def spec_l10Recover_r3 : List SOper := [
 ⟨some 24, none, .mov (.tmp 7), 0⟩,
 ⟨some 25, none, .un .not (.tmp 24), 1⟩,
 ⟨some 26, none, .mov (.tmp 25), 3⟩,
  ⟨(some 27), (some (26, false)), .mov (.tmp 0), 7⟩,
  ⟨(some 28), (some (26, false)), .len true (.tmp 27), 15⟩,
  ⟨(some 29), (some (26, false)), .bin .gtr .other (.tmp 28) (.const (.int .i64 65536)), 31⟩,
 ⟨some 30, none, .pick (.tmp 26) (.const (.bool true)) (.tmp 29), 63⟩]
def spec_l10Recover_r4 : List SOper := [
 ⟨some 31, none, .loadN 6 (.tmp 8), 0⟩,
 ⟨none, none, .store 6 (.tmp 2) (.tmp 31), 1⟩,
 ⟨some 3, none, .mov (.const (.int .i64 0)), 3⟩,
 ⟨some 4, none, .mov (.const (.bool false)), 7⟩]
def spec_l10Recover_r5 : List SOper := [
 ⟨some 32, none, .fieldAddr 0 (.tmp 5), 0⟩,
 ⟨some 33, none, .load1 (.tmp 32), 1⟩,
 ⟨some 34, none, .bin .mul .other (.const (.int .i64 3)) (.tmp 33), 3⟩,
 ⟨some 35, none, .fieldAddr 1 (.tmp 5), 0⟩,
 ⟨some 36, none, .load1 (.tmp 35), 8⟩,
 ⟨some 37, none, .bin .mul .other (.tmp 34) (.tmp 36), 31⟩,
 ⟨some 38, none, .makeSlice 1 4 [(.float .f32 0)] (.tmp 37) (.tmp 37), 63⟩,
 ⟨some 9, none, .mov (.tmp 38), 127⟩]
def spec_l10Recover_r6 : List SOper := [
 ⟨some 39, none, .fieldAddr 5 (.tmp 8), 0⟩,
 ⟨some 40, none, .load1 (.tmp 39), 1⟩,
 ⟨some 41, none, .len false (.tmp 40), 3⟩,
 ⟨some 42, none, .bin .lss .other (.tmp 41) (.const (.int .i64 16)), 7⟩,
 ⟨some 43, none, .mov (.tmp 42), 15⟩,
  ⟨(some 44), (some (43, true)), .mov (.tmp 6), 31⟩,
  ⟨(some 45), (some (43, true)), .bin .add .other (.tmp 44) (.const (.int .i64 2)), 63⟩,
  ⟨(some 46), (some (43, true)), .mov (.tmp 0), 31⟩,
  ⟨(some 47), (some (43, true)), .len true (.tmp 46), 159⟩,
  ⟨(some 48), (some (43, true)), .bin .leq .other (.tmp 45) (.tmp 47), 511⟩,
 ⟨some 49, none, .pick (.tmp 43) (.tmp 48) (.const (.bool false)), 1023⟩]
def spec_l10Recover_r7 (i_spec_l10Number : FuncId) : List SOper := [
 ⟨some 50, none, .mov (.tmp 0), 0⟩,
 ⟨some 51, none, .mov (.tmp 6), 0⟩,
 ⟨some 52, none, .call (.func i_spec_l10Number) [(.tmp 50), (.tmp 51), (.const (.int .i64 2))], 3⟩,
 ⟨some 10, none, .mov (.tmp 52), 7⟩]
def spec_l10Recover_r8 : List SOper := [
 ⟨some 53, none, .mov (.tmp 6), 0⟩,
 ⟨some 54, none, .bin .add .other (.tmp 53) (.const (.int .i64 2)), 1⟩,
 ⟨some 55, none, .mov (.tmp 10), 0⟩,
 ⟨some 56, none, .bin .add .other (.tmp 54) (.tmp 55), 7⟩,
 ⟨some 57, none, .bin .add .other (.tmp 56) (.const (.int .i64 2)), 15⟩,
 ⟨some 11, none, .mov (.tmp 57), 31⟩]
def spec_l10Recover_r9 : List SOper := [
 ⟨some 58, none, .mov (.tmp 11), 0⟩,
 ⟨some 59, none, .mov (.tmp 0), 0⟩,
 ⟨some 60, none, .len true (.tmp 59), 2⟩,
 ⟨some 61, none, .bin .gtr .other (.tmp 58) (.tmp 60), 7⟩]
def spec_l10Recover_r10 (i_spec_l10Apply : FuncId) : List SOper := [
 ⟨some 63, none, .mov (.tmp 9), 0⟩,
 ⟨some 64, none, .mov (.tmp 0), 0⟩,
 ⟨some 65, none, .mov (.tmp 6), 0⟩,
 ⟨some 66, none, .bin .add .other (.tmp 65) (.const (.int .i64 2)), 4⟩,
 ⟨some 67, none, .mov (.tmp 6), 0⟩,
 ⟨some 68, none, .bin .add .other (.tmp 67) (.const (.int .i64 2)), 16⟩,
 ⟨some 69, none, .mov (.tmp 10), 0⟩,
 ⟨some 70, none, .bin .add .other (.tmp 68) (.tmp 69), 112⟩,
 ⟨some 71, none, .sliceStr (.tmp 64) (some (.tmp 66)) (some (.tmp 70)), 254⟩,
 ⟨some 72, none, .call (.func i_spec_l10Apply) [(.tmp 63), (.tmp 71)], 511⟩,
 ⟨some 62, none, .mov (.tmp 72), 1023⟩,
 ⟨some 73, none, .extract (.tmp 62) 0, 2047⟩,
 ⟨some 74, none, .extract (.tmp 62) 1, 2047⟩,
 ⟨some 12, none, .mov (.tmp 73), 4095⟩,
 ⟨some 13, none, .mov (.tmp 74), 16383⟩]
def spec_l10Recover_r11 (i_spec_l10Frame : FuncId) : List SOper := [
 ⟨some 75, none, .mov (.tmp 13), 0⟩,
 ⟨some 76, none, .un .not (.tmp 75), 1⟩,
 ⟨some 77, none, .mov (.tmp 76), 3⟩,
  ⟨(some 78), (some (77, false)), .mov (.tmp 0), 7⟩,
  ⟨(some 79), (some (77, false)), .mov (.tmp 6), 7⟩,
  ⟨(some 80), (some (77, false)), .sliceStr (.tmp 78) none (some (.tmp 79)), 31⟩,
  ⟨(some 81), (some (77, false)), .mov (.tmp 9), 7⟩,
  ⟨(some 82), (some (77, false)), .mov (.tmp 12), 7⟩,
  ⟨(some 83), (some (77, false)), .call (.func i_spec_l10Frame) [(.tmp 80), (.tmp 81), (.tmp 82)], 255⟩,
  ⟨(some 84), (some (77, false)), .mov (.tmp 0), 7⟩,
  ⟨(some 85), (some (77, false)), .mov (.tmp 6), 7⟩,
  ⟨(some 86), (some (77, false)), .mov (.tmp 11), 7⟩,
  ⟨(some 87), (some (77, false)), .sliceStr (.tmp 84) (some (.tmp 85)) (some (.tmp 86)), 3591⟩,
  ⟨(some 88), (some (77, false)), .bin .neq .other (.tmp 83) (.tmp 87), 8191⟩,
 ⟨some 89, none, .pick (.tmp 77) (.const (.bool true)) (.tmp 88), 16383⟩]
def spec_l10Recover_r12 (i_spec_l10Field : FuncId) : List SOper := [
 ⟨some 90, none, .mov (.tmp 12), 0⟩,
 ⟨some 91, none, .call (.func i_spec_l10Field) [(.tmp 90)], 1⟩,
 ⟨some 14, none, .alloc [(.slice none 0 0), (.slice none 0 0), (.slice none 0 0)], 0⟩,
 ⟨none, none, .store 3 (.tmp 14) (.tmp 91), 7⟩]
def spec_l10Recover_r13 (i_spec_l02Fits : FuncId) : List SOper := [
 ⟨some 92, none, .call (.func i_spec_l02Fits) [(.tmp 5), (.tmp 14)], 0⟩,
 ⟨some 93, none, .un .not (.tmp 92), 1⟩]
def spec_l10Recover_r14 : List SOper := [
 ⟨some 94, none, .fieldAddr 5 (.tmp 8), 0⟩,
 ⟨some 95, none, .load1 (.tmp 94), 1⟩,
 ⟨some 96, none, .loadN 3 (.tmp 14), 0⟩,
 ⟨some 97, none, .buildSlice 3 1 [(.slice none 0 0), (.slice none 0 0), (.slice none 0 0)] [(0, 3, (.tmp 96))], 4⟩,
 ⟨some 98, none, .append 3 72 (.tmp 95) (.tmp 97), 15⟩,
 ⟨some 99, none, .fieldAddr 5 (.tmp 8), 31⟩,
 ⟨none, none, .store 1 (.tmp 99) (.tmp 98), 63⟩]
def spec_l10Recover_r15 : List SOper := [
 ⟨some 100, none, .mov (.tmp 12), 0⟩,
 ⟨some 9, none, .mov (.tmp 100), 1⟩]
def spec_l10Recover_r16 : List SOper := [
 ⟨some 101, none, .mov (.tmp 11), 0⟩,
 ⟨some 6, none, .mov (.tmp 101), 1⟩]
def spec_l10Recover_l17 (i_spec_l10Number i_spec_l10Apply i_spec_l10Frame i_spec_l10Field i_spec_l02Fits : FuncId) : SCode := (.kp [0,2,5,6,8,9] (.seq (.seq (.region spec_l10Recover_r6 false) (.kp [0,2,5,6,8,9,49] (.cond (.tmp 49) .skip (.exit 0)))) (.kp [0,2,5,6,8,9] (.block 1 (.seq (.region (spec_l10Recover_r7 i_spec_l10Number) false) (.kp [0,2,5,6,8,9,10] (.seq (.region spec_l10Recover_r8 false) (.kp [0,2,5,6,8,9,10,11] (.seq (.seq (.region spec_l10Recover_r9 false) (.kp [0,2,5,6,8,9,10,11,61] (.cond (.tmp 61) (.exit 0) .skip))) (.kp [0,2,5,6,8,9,10,11] (.seq (.region (spec_l10Recover_r10 i_spec_l10Apply) false) (.kp [0,2,5,6,8,9,11,12,13] (.seq (.seq (.region (spec_l10Recover_r11 i_spec_l10Frame) true) (.kp [0,2,5,6,8,11,12,89] (.cond (.tmp 89) (.exit 0) .skip))) (.kp [0,2,5,6,8,11,12] (.seq (.region (spec_l10Recover_r12 i_spec_l10Field) false) (.kp [0,2,5,6,8,11,12,14] (.seq (.seq (.region (spec_l10Recover_r13 i_spec_l02Fits) false) (.kp [0,2,5,6,8,11,12,14,93] (.cond (.tmp 93) (.exit 0) .skip))) (.kp [0,2,5,8,11,12,14] (.seq (.region spec_l10Recover_r14 false) (.kp [0,2,5,8,11,12] (.seq (.region spec_l10Recover_r15 false) (.kp [0,2,5,8,9,11] (.region spec_l10Recover_r16 false)))))))))))))))))))))))
def spec_l10Recover_r18 : List SOper := [
 ⟨some 102, none, .loadN 6 (.tmp 8), 0⟩,
 ⟨some 103, none, .mov (.tmp 6), 0⟩,
 ⟨none, none, .store 6 (.tmp 2) (.tmp 102), 1⟩,
 ⟨some 3, none, .mov (.tmp 103), 7⟩,
 ⟨some 4, none, .mov (.const (.bool true)), 15⟩]
def spec_l10Recover (i_spec_l10Begin i_spec_l10Number i_spec_l10Apply i_spec_l10Frame i_spec_l10Field i_spec_l02Fits : FuncId) : SFunc := ⟨104, [.cellN 2 6, .tmp 3, .tmp 4], (.kp [0] (.seq (.region spec_l10Recover_r0 false) (.kp [0,2] (.seq (.region (spec_l10Recover_r1 i_spec_l10Begin) false) (.kp [0,2,5,6,7] (.seq (.region spec_l10Recover_r2 false) (.kp [0,2,5,6,7,8] (.seq (.seq (.region spec_l10Recover_r3 false) (.kp [0,2,5,6,8,30] (.cond (.tmp 30) (.seq (.region spec_l10Recover_r4 false) .ret) .skip))) (.kp [0,2,5,6,8] (.seq (.region spec_l10Recover_r5 false) (.kp [0,2,5,6,8,9] (.seq (.block 0 (.loop (spec_l10Recover_l17 i_spec_l10Number i_spec_l10Apply i_spec_l10Frame i_spec_l10Field i_spec_l02Fits))) (.kp [2,6,8] (.seq (.region spec_l10Recover_r18 false) .ret))))))))))))))⟩
theorem spec_l10Recover_r11_dr {i_spec_l10Frame : FuncId} : drawOkW wStat (spec_l10Recover_r11 i_spec_l10Frame) = true := by kernel_rfl
attribute [push_cast] spec_l10Recover_r11_dr
theorem fa_eq {xs : List Nat} {N : Nat} : (xs.drop 0).take (N - 0) = (fldOf N xs).e := by rw [List.drop_zero, Nat.sub_zero]; rfl
theorem fb_eq {xs : List Nat} {N : Nat} : (xs.drop N).take (2 * N - N) = (fldOf N xs).x := by unfold fldOf; rw [List.drop_take]
theorem fc_eq {xs : List Nat} {N : Nat} (h : xs.length = 3 * N) : (xs.drop (2 * N)).take (3 * N - 2 * N) = (fldOf N xs).y := by unfold fldOf; exact List.take_of_length_le (by rw [List.length_drop]; omega)
def spec_l10Field_ok (c : Contract) : Prop := ∀ (σ : Heap) (v : Value) (xs : List Nat) (N : Nat), Row σ 1 v xs.length (f32s xs) → xs.length = 3 * N → N ≤ 1000 → 0 < N →
    Ret c [v] σ fun v' σ' => v' = fV (slV σ.length (fldOf N xs).e.length) (slV (σ.length + 1) (fldOf N xs).x.length) (slV (σ.length + 2) (fldOf N xs).y.length) ∧ σ' = σ ++ [rowO (fldOf N xs).e, rowO (fldOf N xs).x, rowO (fldOf N xs).y]
theorem spec_l10Field_law {C : Ctab} : spec_l10Field_ok (gcC C spec_l10Field true) := by
  intro σ v xs N hr hl hN h0
  have k1 := hr.ok
  have hd : (xs.length : Int) / 3 = (N : Int) := by omega
  obtain ⟨l1, l2, l3⟩ := fldOf_lens hl
  have f1 := fa_eq (xs := xs) (N := N)
  have f2 := fb_eq (xs := xs) (N := N)
  have f3 := fc_eq hl
  generalize (fldOf N xs).e = E at *
  generalize (fldOf N xs).x = X at *
  generalize (fldOf N xs).y = Y at *
  refine ret_gc rfl rfl ?_
  repeat' (first | refine ff ?_ | ((first | refine sR ?_ ?_ | refine sC ?_ ?_) <;> (intro hb; (try rw [hb]); (try simp only [bb] at hb); (try (exfalso; first | omega | exact hb trivial)))) | (apply endS trivial; rotate_left; (· exact eva); (· rfl); try refine ⟨?_, rfl⟩) | fail)
  refine EvR.slF (a := 0) (b := N) hr rfl rfl (by show some ((xs.length : Int) / 3) = _; rw [hd]) (by omega) (by omega) fun wa ra => ?_
  have ra' : Row σ 1 wa E.length (f32s E) := by rw [l1, ← f1]; exact ra
  clear ra
  repeat' (first | refine ff ?_ | ((first | refine sR ?_ ?_ | refine sC ?_ ?_) <;> (intro hb; (try rw [hb]); (try simp only [bb] at hb); (try (exfalso; first | omega | exact hb trivial)))) | (apply endS trivial; rotate_left; (· exact eva); (· rfl); try refine ⟨?_, rfl⟩) | fail)
  refine EvR.slF (a := N) (b := 2 * N) hr rfl (by show some ((xs.length : Int) / 3) = _; rw [hd]) (by show some (2 * ((xs.length : Int) / 3)) = _; rw [hd]; rfl) (by omega) (by omega) fun wb rb => ?_
  have rb' : Row σ 1 wb X.length (f32s X) := by rw [l2, ← f2]; rw [show 2 * N - N = N from by omega] at rb ⊢; exact rb
  clear rb
  repeat' (first | refine ff ?_ | ((first | refine sR ?_ ?_ | refine sC ?_ ?_) <;> (intro hb; (try rw [hb]); (try simp only [bb] at hb); (try (exfalso; first | omega | exact hb trivial)))) | (apply endS trivial; rotate_left; (· exact eva); (· rfl); try refine ⟨?_, rfl⟩) | fail)
  refine EvR.slF (a := 2 * N) (b := 3 * N) hr rfl (by show some (2 * ((xs.length : Int) / 3)) = _; rw [hd]; rfl) (by show some ((xs.length : Nat) : Int) = _; rw [hl]) (by omega) (by omega) fun wc rc => ?_
  have rc' : Row σ 1 wc Y.length (f32s Y) := by rw [l3, ← f3]; rw [show 3 * N - 2 * N = N from by omega] at rc ⊢; exact rc
  clear rc
  repeat' (first | refine ff ?_ | ((first | refine sR ?_ ?_ | refine sC ?_ ?_) <;> (intro hb; (try rw [hb]); (try simp only [bb] at hb); (try (exfalso; first | omega | exact hb trivial)))) | (apply endS trivial; rotate_left; (· exact eva); (· rfl); try refine ⟨?_, rfl⟩) | fail)
  (apply endR [1, 3, 4] trivial ⟨rfl, rfl⟩; (· exact eva); (· simp [gcTop, gcVal, gcLeaf, gcLeaves, gcVals, constOk, gc_lt, gc_lt0]); (· rfl); (· decide); (· simp [allConst, f32s, i64s, b8s, bools, constOk]))

theorem ap_some {a u : List Nat} {s : List UInt8} (hl : a.length ≤ 768) (h : acOk a s = some u) : (∀ b, apRes a s b (appl a s (s.length + 1) 0 []) = .tuple #[slV b u.length, .bool true]) ∧ apRows a (appl a s (s.length + 1) 0 []) = [rowO u] := by
  unfold acOk at h
  rw [if_pos hl] at h
  cases hR : appl a s (s.length + 1) 0 [] with
  | none => rw [hR] at h; cases h
  | some w =>
    rw [hR] at h
    simp only [acOf] at h
    split at h
    · rename_i hc
      simp only [Option.some.injEq] at h; subst h
      have hfu := full_eq hc.1
      exact ⟨fun b => by rw [apRes_s, hfu, decide_eq_true hc.2, hc.1], by rw [apRows_s, hfu]⟩
    · cases h
theorem ap_none {a : List Nat} {s : List UInt8} (hl : a.length ≤ 768) (h : acOk a s = none) : ∃ xs : List Nat, (∀ b, apRes a s b (appl a s (s.length + 1) 0 []) = .tuple #[slV b xs.length, .bool false]) ∧ apRows a (appl a s (s.length + 1) 0 []) = [rowO xs] := by
  unfold acOk at h
  rw [if_pos hl] at h
  cases hR : appl a s (s.length + 1) 0 [] with
  | none => exact ⟨[], fun _ => rfl, rfl⟩
  | some w =>
    rw [hR] at h
    simp only [acOf] at h
    split at h
    · cases h
    · rename_i hc
      have hw := appl_le _ _ _ _ (Nat.zero_le _) hR
      have : ¬ chg (xb a (full a w)) a.length (a.length + 1) 0 = s := fun hT => hc ⟨acOk_full hR hT, by rw [full_eq (acOk_full hR hT)] at hT; exact hT⟩
      refine ⟨full a w, fun b => ?_, rfl⟩
      rw [apRes_s, decide_eq_false this, full_length hw]

theorem filmO_nil {H : Heap} {lo s l b : Nat} {sp ls : List Nat} (hs : H[s]? = some (rowO sp)) (hl : H[l]? = some (rowO ls)) (hb : H[b]? = some ⟨[], 3, true⟩) (h1 : lo ≤ s) (h2 : s < l) (h3 : lo ≤ b) : FilmO H lo s l b [] sp ls [] := by
  refine ⟨hb, ⟨fun p hp => ?_, fun p hp => ?_, ?_⟩, rfl, h3, ?_⟩
  · simp only [List.mem_cons, List.not_mem_nil, or_false] at hp
    rcases hp with rfl | rfl
    · exact hs
    · exact hl
  · simp only [List.mem_cons, List.not_mem_nil, or_false] at hp
    rcases hp with rfl | rfl
    · exact h1
    · dsimp only; omega
  · simp only [List.map_cons, List.map_nil, List.nodup_cons, List.mem_cons, List.not_mem_nil, or_false, not_false_eq_true, List.nodup_nil, and_true]
    omega
  · simp only [List.map_nil, List.mem_cons, List.not_mem_nil, or_false, not_or]
    exact ⟨nes hb hs (.inl (by simp)), nes hb hl (.inl (by simp))⟩
theorem app_drop {s o F : List UInt8} {p e : Nat} (ho : o = s.take p) (hp : p ≤ s.length) (he : p ≤ e) : (o ++ F = s.take e) ↔ (F = (s.take e).drop p) := by
  subst ho
  have h1 : s.take e = s.take p ++ (s.take e).drop p := by
    have h := List.take_append_drop p (s.take e)
    rw [List.take_take, Nat.min_eq_left he] at h
    exact h.symm
  constructor
  · intro h
    rw [h1] at h
    exact List.append_cancel_left h
  · intro h
    rw [h, ← h1]
def spec_l10Recover_ok (c : Contract) : Prop := ∀ (σ : Heap) (s : List UInt8), s.length ≤ 1048576 → Ret c [.string (str s)] σ fun v σ' => FmRes3 false (rcOk s) σ σ' v (byAt s 4) (byAt s 5) (shWr s) (shSp s) (shLo s) (rcAll s).1 (rcAll s).2
theorem spec_l10Recover_law {C : Ctab} {i1 i2 i3 i4 i5 i6 : FuncId} {c1 c2 c3 c4 c5 c6 : Contract} (h1 : Has C i1 c1 spec_l10Begin_ok) (h2 : Has C i2 c2 spec_l10Number2_ok) (h3 : Has C i3 c3 spec_l10Apply_ok) (h4 : Has C i4 c4 spec_l10Frame_ok) (h5 : Has C i5 c5 spec_l10Field_ok) (h6 : Has C i6 c6 spec_l02Fits_ok) :
    spec_l10Recover_ok (bodyC C (spec_l10Recover i1 i2 i3 i4 i5 i6) true) := by
  intro σ s hs
  cases hok : ahOk s
  · have hrc : rcOk s = false := by unfold rcOk; rw [hok]; rfl
    refine ret_bd rfl rfl ?_
    repeat' (first | refine ff ?_ | ((first | refine sR ?_ ?_ | refine sC ?_ ?_) <;> (intro hb; (try rw [hb]); (try simp only [bb] at hb); (try (exfalso; first | omega | exact hb trivial)))) | (apply endS trivial; rotate_left; (· exact eva); (· rfl); try refine ⟨?_, rfl⟩) | fail)
    apply EvR.aCall h1.at_; (· exact eva); (· exact h1.ok _ s hs); intro v σ' hv
    simp only [bgRes, hok, cond_false] at hv
    obtain ⟨w, h, wr, sv, lv, n, τ, rfl, ⟨xs, ys, k1, k2⟩, ht, rfl⟩ := hv
    rcases ht with rfl | ⟨x, y, rfl⟩
    · refine EvR.nrm ?_
      repeat' (first | refine ff ?_ | ((first | refine sR ?_ ?_ | refine sC ?_ ?_) <;> (intro hb; (try rw [hb]); (try simp only [bb] at hb); (try (exfalso; first | omega | exact hb trivial)))) | (apply endS trivial; rotate_left; (· exact eva); (· rfl); try refine ⟨?_, rfl⟩) | fail)
      apply endB trivial
      · exact eva
      · exact FmRes3.no hrc rfl (fun h => by cases h) fun _ => ⟨_, _, _, _, _, _, xs, ys, _, rfl, k1, k2⟩
    · refine EvR.nrm ?_
      repeat' (first | refine ff ?_ | ((first | refine sR ?_ ?_ | refine sC ?_ ?_) <;> (intro hb; (try rw [hb]); (try simp only [bb] at hb); (try (exfalso; first | omega | exact hb trivial)))) | (apply endS trivial; rotate_left; (· exact eva); (· rfl); try refine ⟨?_, rfl⟩) | fail)
      apply endB trivial
      · exact eva
      · exact FmRes3.no hrc rfl (fun h => by cases h) fun _ => ⟨_, _, _, _, _, _, xs, ys, _, rfl, k1, k2⟩
  obtain ⟨hsh, hend⟩ := ah_sheet hok
  obtain ⟨a1, a2, a3, a4, z1, z2⟩ := isSheet_sides hsh
  have hN := shN_def s
  have hN2 : shN s ≤ 256 := Nat.mul_le_mul (show byAt s 4 ≤ 16 by omega) (show byAt s 5 ≤ 16 by omega)
  have hN3 : 9 ≤ shN s := Nat.mul_le_mul (show 3 ≤ byAt s 4 by omega) (show 3 ≤ byAt s 5 by omega)
  have n1 : (shSp s).length = shN s := numsAt_length _ _ _
  have n2 : (shLo s).length = shN s := numsAt_length _ _ _
  by_cases h64 : s.length ≤ 65536
  rotate_left
  · have hrc : rcOk s = false := by unfold rcOk; rw [hok, decide_eq_false h64]; rfl
    refine ret_bd rfl rfl ?_
    repeat' (first | refine ff ?_ | ((first | refine sR ?_ ?_ | refine sC ?_ ?_) <;> (intro hb; (try rw [hb]); (try simp only [bb] at hb); (try (exfalso; first | omega | exact hb trivial)))) | (apply endS trivial; rotate_left; (· exact eva); (· rfl); try refine ⟨?_, rfl⟩) | fail)
    apply EvR.aCall h1.at_; (· exact eva); (· exact h1.ok _ s hs); intro v σ' hv
    simp only [bgRes, hok, cond_true] at hv
    obtain ⟨rfl, rfl⟩ := hv
    refine EvR.nrm ?_
    repeat' (first | refine ff ?_ | ((first | refine sR ?_ ?_ | refine sC ?_ ?_) <;> (intro hb; (try rw [hb]); (try simp only [bb] at hb); (try (exfalso; first | omega | exact hb trivial)))) | (apply endS trivial; rotate_left; (· exact eva); (· rfl); try refine ⟨?_, rfl⟩) | fail)
    apply endB trivial
    · exact eva
    · have u1 : Row (σ ++ [rowO [], rowO (shSp s), rowO (shLo s)]) 1 (slV (σ.length + 1) (shN s)) (shSp s).length (f32s (shSp s)) := by rw [← n1]; exact row_at σ _ 1 _ rfl
      have u2 : Row (σ ++ [rowO [], rowO (shSp s), rowO (shLo s)]) 1 (slV (σ.length + 2) (shN s)) (shLo s).length (f32s (shLo s)) := by rw [← n2]; exact row_at σ _ 2 _ rfl
      exact FmRes3.no hrc rfl (fun h => by cases h) fun _ => ⟨_, _, _, _, _, _, _, _, _, rfl, u1, u2⟩
  have hrc : rcOk s = true := by unfold rcOk; rw [hok, decide_eq_true h64]; rfl
  obtain ⟨N, hNN⟩ : ∃ N, shN s = N := ⟨_, rfl⟩
  have hz : flat ⟨List.replicate N 0, List.replicate N 0, List.replicate N 0⟩ = List.replicate (3 * N) 0 := by
    unfold flat
    dsimp only
    rw [List.replicate_append_replicate, List.replicate_append_replicate]
    congr 1
    omega
  have hzl : (List.replicate (3 * N) 0 : List Nat).length = 3 * N := List.length_replicate
  have hzN : (List.replicate N 0 : List Nat).length = N := List.length_replicate
  have hall : rcAll s = recF (byAt s 4) (byAt s 5) (shWr s) (shSp s) (shLo s) N s 16 (List.replicate (3 * N) 0) (shEnd s) [] := by unfold rcAll; rw [hNN]
  rw [hNN] at hN hN2 hN3 n1 n2
  obtain ⟨G, hG⟩ : ∃ G, rcAll s = G := ⟨_, rfl⟩
  rw [hG] at hall ⊢
  refine ret_bd rfl rfl ?_
  repeat' (first | refine ff ?_ | ((first | refine sR ?_ ?_ | refine sC ?_ ?_) <;> (intro hb; (try rw [hb]); (try simp only [bb] at hb); (try (exfalso; first | omega | exact hb trivial)))) | (apply endS trivial; rotate_left; (· exact eva); (· rfl); try refine ⟨?_, rfl⟩) | fail)
  apply EvR.aCall h1.at_; (· exact eva); (· exact h1.ok _ s hs); intro v σ' hv
  simp only [bgRes, hok, cond_true, hNN] at hv
  obtain ⟨rfl, rfl⟩ := hv
  refine EvR.nrm ?_
  rw [show slV (σ.length + 1) N = slV (σ.length + 1) (shSp s).length from by rw [n1], show slV (σ.length + 2) N = slV (σ.length + 2) (shLo s).length from by rw [n2]]
  generalize shSp s = sp at *
  generalize shLo s = lo at *
  generalize shWr s = wr at *
  generalize shEnd s = E0 at *
  have hWN : byAt s 4 * byAt s 5 = N := hNN
  generalize byAt s 4 = W at *
  generalize byAt s 5 = H at *
  repeat' (first | refine ff ?_ | ((first | refine sR ?_ ?_ | refine sC ?_ ?_) <;> (intro hb; (try rw [hb]); (try simp only [bb] at hb); (try (exfalso; first | omega | exact hb trivial)))) | (apply endS trivial; rotate_left; (· exact eva); (· rfl); try refine ⟨?_, rfl⟩) | fail)
  rw [show IntKind.i64.wrap (3 * (W : Int) * (H : Int)) = ((3 * N : Nat) : Int) from by rw [Int.mul_assoc, hN, wrap64 (by omega) (by omega)]; omega]
  repeat' (first | refine ff ?_ | ((first | refine sR ?_ ?_ | refine sC ?_ ?_) <;> (intro hb; (try rw [hb]); (try simp only [bb] at hb); (try (exfalso; first | omega | exact hb trivial)))) | (apply endS trivial; rotate_left; (· exact eva); (· rfl); try refine ⟨?_, rfl⟩) | fail)
  try rw [show List.replicate (3 * N) (Value.float .f32 0) = f32s (List.replicate (3 * N) 0) from by simp [f32s]]
  refine Ev.base fun T hT => ?_
  have I0 : RcI σ W H wr sp lo (σ.length + 0) (σ.length + 3) (σ.length + 5) (σ.length + 1) (σ.length + 2) T (σ.length + 6) (List.replicate (3 * N) 0) (slV (σ.length + 4) 0) := by
    rw [hT, show (3 * (N : Int)).toNat = 3 * N from by omega, show List.replicate (3 * N) (Value.float .f32 0) = f32s (List.replicate (3 * N) 0) from by simp [f32s]]
    refine ⟨List.take_left, by simp, hget _ _ 0, hget _ _ 3, hget _ _ 5, hget _ _ 1, hget _ _ 2, ?_, by omega, by omega, by omega, by omega, by omega, by omega⟩
    exact hget _ _ 6
  have O0 : FilmO T σ.length (σ.length + 1) (σ.length + 2) (σ.length + 4) [] sp lo [] := filmO_nil I0.rs I0.rl (by rw [hT]; exact hget _ _ 4) (by omega) (by omega) (by omega)
  clear hT
  refine Ev.mono (Q := fun o F' σ' => o = .exit 0 ∧ ∃ (T : Heap) (q : Nat) (last : List Nat) (R : Rws), fkeep [2, 6, 8] F' = [(2, .pointer (some ⟨σ.length + 0, 0, none⟩)), (6, .int .i64 (G.2 : Nat)), (8, .pointer (some ⟨σ.length + 5, 0, none⟩))] ∧ σ' = T ++ [] ∧
    RcI σ W H wr sp lo (σ.length + 0) (σ.length + 3) (σ.length + 5) (σ.length + 1) (σ.length + 2) T q last (slV (σ.length + 4) G.1.length) ∧ FilmO T σ.length (σ.length + 1) (σ.length + 2) (σ.length + 4) R sp lo G.1) ?_ ?_
  · refine Ev.whlH (S := Nat × Heap × Nat × (Nat × List Nat) × List Fld × Rws) (fun st => st.1) (fun st => [(6, .int .i64 (st.2.2.1 : Nat)), (9, slV st.2.2.2.1.1 (3 * N))]) (fun st => st.2.1 ++ [])
      (fun st => st.1 + st.2.2.2.2.1.length = 16 ∧ recF W H wr sp lo N s st.1 st.2.2.2.1.2 st.2.2.1 st.2.2.2.2.1 = G ∧ st.2.2.2.1.2.length = 3 * N ∧ lows st.2.2.2.1.2 ∧ st.2.2.1 ≤ s.length ∧
        RcI σ W H wr sp lo (σ.length + 0) (σ.length + 3) (σ.length + 5) (σ.length + 1) (σ.length + 2) st.2.1 st.2.2.2.1.1 st.2.2.2.1.2 (slV (σ.length + 4) st.2.2.2.2.1.length) ∧ FilmO st.2.1 σ.length (σ.length + 1) (σ.length + 2) (σ.length + 4) st.2.2.2.2.2 sp lo st.2.2.2.2.1)
      (16, T, E0, (σ.length + 6, List.replicate (3 * N) 0), [], []) (by exact tF) rfl ⟨rfl, hall.symm, hzl, lows_zero _, hend, I0, O0⟩ ?_
    rintro ⟨k, T, p, ⟨q, last⟩, fs, R⟩ F hF ⟨hk, hrec, hll, hlw, hp, I, ho⟩
    dsimp only at hk hF hrec hll hlw hp I ho ⊢
    (simp only [List.cons_append, List.nil_append, ↓fget_cons, fkeep_cons, fkeep_nil, Nat.reduceEqDiff, reduceIte] at hF; subst hF)
    have pv5 := PtAt.whole I.v5
    have pv8 := PtAt.whole I.v8
    obtain ⟨r1, r2⟩ := I.sh
    have r3 : Row T 1 (slV q (3 * N)) last.length (f32s last) := by have h := I.lr; rw [← hll]; exact h
    cases k with
    | zero =>
      obtain rfl : G = (fs, p) := hrec.symm
      repeat' (first | refine ff ?_ | ((first | refine sR ?_ ?_ | refine sC ?_ ?_) <;> (intro hb; (try rw [hb]); (try simp only [bb] at hb); (try (exfalso; first | omega | exact hb trivial)))) | (apply endS trivial; rotate_left; (· exact eva); (· rfl); try refine ⟨?_, rfl⟩) | fail)
      exact ⟨rfl, T, q, last, R, by exact tF, rfl, I, ho⟩
    | succ k =>
      by_cases hp2 : p + 2 ≤ s.length
      rotate_left
      · obtain rfl : G = (fs, p) := by rw [← hrec]; exact recF_none (frAt_f1 (by omega))
        repeat' (first | refine ff ?_ | ((first | refine sR ?_ ?_ | refine sC ?_ ?_) <;> (intro hb; (try rw [hb]); (try simp only [bb] at hb); (try (exfalso; first | omega | exact hb trivial)))) | (apply endS trivial; rotate_left; (· exact eva); (· rfl); try refine ⟨?_, rfl⟩) | fail)
        exact ⟨rfl, T, q, last, R, by exact tF, rfl, I, ho⟩
      obtain ⟨z, hz⟩ : ∃ z, z = numB ((s.drop p).take 2) := ⟨_, rfl⟩
      have hE : frEnd s p = p + 2 + z := by rw [hz]; rfl
      have hzb := frEnd_le s p
      by_cases h5e : frEnd s p + 2 ≤ s.length
      rotate_left
      · obtain rfl : G = (fs, p) := by rw [← hrec]; exact recF_none (frAt_f1 (by omega))
        repeat' (first | refine ff ?_ | ((first | refine sR ?_ ?_ | refine sC ?_ ?_) <;> (intro hb; (try rw [hb]); (try simp only [bb] at hb); (try (exfalso; first | omega | exact hb trivial)))) | (apply endS trivial; rotate_left; (· exact eva); (· rfl); try refine ⟨?_, rfl⟩) | fail)
        (apply EvR.aCall h2.at_; (· exact eva); (· exact  h2.ok _ s p hp2 hs); (rintro _ _ ⟨rfl, rfl⟩; refine EvR.nrm ?_))
        rw [← hz]
        repeat' (first | refine ff ?_ | ((first | refine sR ?_ ?_ | refine sC ?_ ?_) <;> (intro hb; (try rw [hb]); (try simp only [bb] at hb); (try (exfalso; first | omega | exact hb trivial)))) | (apply endS trivial; rotate_left; (· exact eva); (· rfl); try refine ⟨?_, rfl⟩) | fail)
        exact ⟨rfl, T, q, last, R, by exact tF, rfl, I, ho⟩
      have hch : (s.take ((p : Int) + 2 + (z : Int)).toNat).drop ((p : Int) + 2).toNat = frCh s p := by
        unfold frCh
        rw [hE, show ((p : Int) + 2 + (z : Int)).toNat = p + 2 + z from by omega, show ((p : Int) + 2).toNat = p + 2 from by omega]
      have hcl : (frCh s p).length ≤ 1048576 := by
        unfold frCh; rw [List.length_drop, List.length_take]; omega
      repeat' (first | refine ff ?_ | ((first | refine sR ?_ ?_ | refine sC ?_ ?_) <;> (intro hb; (try rw [hb]); (try simp only [bb] at hb); (try (exfalso; first | omega | exact hb trivial)))) | (apply endS trivial; rotate_left; (· exact eva); (· rfl); try refine ⟨?_, rfl⟩) | fail)
      (apply EvR.aCall h2.at_; (· exact eva); (· exact  h2.ok _ s p hp2 hs); (rintro _ _ ⟨rfl, rfl⟩; refine EvR.nrm ?_))
      rw [← hz]
      repeat' (first | refine ff ?_ | ((first | refine sR ?_ ?_ | refine sC ?_ ?_) <;> (intro hb; (try rw [hb]); (try simp only [bb] at hb); (try (exfalso; first | omega | exact hb trivial)))) | (apply endS trivial; rotate_left; (· exact eva); (· rfl); try refine ⟨?_, rfl⟩) | fail)
      rw [hch]
      (apply EvR.aCall h3.at_; (· exact eva); (· exact  h3.ok _ _ last (frCh s p) (r3.ext _) hlw (by omega) hcl); (rintro _ _ ⟨rfl, rfl⟩; refine EvR.nrm ?_))
      cases hA : acOk last (frCh s p) with
      | none =>
        obtain rfl : G = (fs, p) := by rw [← hrec]; exact recF_none (frAt_f2 hA)
        obtain ⟨xs, e1, e2⟩ := ap_none (by omega) hA
        rw [e1, e2]
        refine EvR.nrm ?_
        repeat' (first | refine ff ?_ | ((first | refine sR ?_ ?_ | refine sC ?_ ?_) <;> (intro hb; (try rw [hb]); (try simp only [bb] at hb); (try (exfalso; first | omega | exact hb trivial)))) | (apply endS trivial; rotate_left; (· exact eva); (· rfl); try refine ⟨?_, rfl⟩) | fail)
        exact ⟨rfl, T ++ [rowO xs], q, last, R, by exact tF, (List.append_nil _).symm, I.ext _, ho.ext _⟩
      | some now =>
        have nl := acOk_len4 hA
        have nw := acOk_lows hlw hA
        have nlen : now.length = 3 * N := by omega
        obtain ⟨g1, g2, g3⟩ := fldOf_lens nlen
        obtain ⟨e1, e2⟩ := ap_some (by omega) hA
        rw [e1, e2]
        refine EvR.base fun S hS => ?_
        have hSl : S = T ++ [rowO now] := by rw [hS]
        have I1 := I.ext [rowO now]
        have ho1 := ho.ext [rowO now]
        rw [← hSl] at I1 ho1
        have I2 : RcI σ W H wr sp lo (σ.length + 0) (σ.length + 3) (σ.length + 5) (σ.length + 1) (σ.length + 2) S T.length now (slV (σ.length + 4) fs.length) := I1.next (by rw [hSl]; simp)
        have r4 : Row S 1 (slV q (3 * N)) last.length (f32s last) := by have h := I1.lr; rw [← hll]; exact h
        clear hS pv5 pv8
        have pv5 := PtAt.whole I2.v5
        have pv8 := PtAt.whole I2.v8
        have s3 := I2.lr
        have htk : (s.take p).length = p := by rw [List.length_take]; omega
        refine EvR.nrm ?_
        repeat' (first | refine ff ?_ | ((first | refine sR ?_ ?_ | refine sC ?_ ?_) <;> (intro hb; (try rw [hb]); (try simp only [bb] at hb); (try (exfalso; first | omega | exact hb trivial)))) | (apply endS trivial; rotate_left; (· exact eva); (· rfl); try refine ⟨?_, rfl⟩) | fail)
        (apply EvR.aCall h4.at_; (· exact eva); (· exact  h4.ok _ (s.take p) _ _ last now (r4.ext _) (s3.ext _) nl (by omega) hlw nw (by omega)); (rintro _ _ ⟨rfl, rfl⟩; refine EvR.nrm ?_))
        have hX : (s.take ((p : Int) + 2 + (z : Int) + 2).toNat).drop p = (s.take (frEnd s p + 2)).drop p := by rw [hE]; congr 2
        by_cases hq : frameB (s.take p) last now = (s.take (frEnd s p + 2)).drop p
        rotate_left
        · obtain rfl : G = (fs, p) := by rw [← hrec]; exact recF_none (frAt_f3 hA fun h => hq ((app_drop rfl hp (by omega)).1 h))
          generalize frameB (s.take p) last now = FB at *
          rw [← hX] at hq
          repeat' (first | refine ff ?_ | ((first | refine sR ?_ ?_ | refine sC ?_ ?_) <;> (intro hb; (try rw [hb]); (try simp only [bb] at hb); (try (exfalso; first | omega | exact hb trivial)))) | (apply endS trivial; rotate_left; (· exact eva); (· rfl); try refine ⟨?_, rfl⟩) | fail)
          · exact ⟨rfl, S, T.length, now, R, by exact tF, rfl, I2, ho1⟩
          · exact absurd hb hq
        · have hfr := frAt_t (last := last) (now := now) (by omega) h5e hA ((app_drop rfl hp (by omega)).2 hq)
          generalize frameB (s.take p) last now = FB at *
          rw [← hX] at hq
          have hfit : fits W H wr (fldOf N now).e (fldOf N now).x (fldOf N now).y = isField W H wr sp lo (fldOf N now).e (fldOf N now).x (fldOf N now).y := by
            unfold isField; rw [hsh]; simp
          cases hIF : isField W H wr sp lo (fldOf N now).e (fldOf N now).x (fldOf N now).y
          · obtain rfl : G = (fs, p) := by rw [← hrec]; exact recF_bad hfr hIF
            rw [hIF] at hfit
            repeat' (first | refine ff ?_ | ((first | refine sR ?_ ?_ | refine sC ?_ ?_) <;> (intro hb; (try rw [hb]); (try simp only [bb] at hb); (try (exfalso; first | omega | exact hb trivial)))) | (apply endS trivial; rotate_left; (· exact eva); (· rfl); try refine ⟨?_, rfl⟩) | fail)
            · exact absurd hq hb
            (apply EvR.aCall h5.at_; (· exact eva); (· exact  h5.ok _ _ now N (s3.ext _) nlen (by omega) (by omega)); (rintro _ _ ⟨rfl, rfl⟩; refine EvR.nrm ?_))
            repeat' (first | refine ff ?_ | ((first | refine sR ?_ ?_ | refine sC ?_ ?_) <;> (intro hb; (try rw [hb]); (try simp only [bb] at hb); (try (exfalso; first | omega | exact hb trivial)))) | (apply endS trivial; rotate_left; (· exact eva); (· rfl); try refine ⟨?_, rfl⟩) | fail)
            (apply EvR.aCall h6.at_; (· exact eva); (· exact  h6.ok _ (σ.length + 3) 0 (S.length + 3) 0 W H wr _ _ _ _ _ (fldOf N now).e (fldOf N now).x (fldOf N now).y (pv5.ext _) (PtAt.own rfl) ⟨Row.ownF rfl rfl, Row.ownF rfl rfl, Row.ownF rfl rfl⟩ (by omega) (by omega) (by omega) (by omega) (by omega) (by omega) (by omega) (by omega)); (rintro _ _ ⟨rfl, rfl⟩; refine EvR.nrm ?_))
            rw [hfit]
            repeat' (first | refine ff ?_ | ((first | refine sR ?_ ?_ | refine sC ?_ ?_) <;> (intro hb; (try rw [hb]); (try simp only [bb] at hb); (try (exfalso; first | omega | exact hb trivial)))) | (apply endS trivial; rotate_left; (· exact eva); (· rfl); try refine ⟨?_, rfl⟩) | fail)
            exact ⟨rfl, _, T.length, now, R, by exact tF, (List.append_nil _).symm, I2.ext _, ho1.ext _⟩
          · have hrec2 := hrec
            rw [recF_step hfr hIF] at hrec2
            rw [hIF] at hfit
            repeat' (first | refine ff ?_ | ((first | refine sR ?_ ?_ | refine sC ?_ ?_) <;> (intro hb; (try rw [hb]); (try simp only [bb] at hb); (try (exfalso; first | omega | exact hb trivial)))) | (apply endS trivial; rotate_left; (· exact eva); (· rfl); try refine ⟨?_, rfl⟩) | fail)
            · exact absurd hq hb
            (apply EvR.aCall h5.at_; (· exact eva); (· exact  h5.ok _ _ now N (s3.ext _) nlen (by omega) (by omega)); (rintro _ _ ⟨rfl, rfl⟩; refine EvR.nrm ?_))
            repeat' (first | refine ff ?_ | ((first | refine sR ?_ ?_ | refine sC ?_ ?_) <;> (intro hb; (try rw [hb]); (try simp only [bb] at hb); (try (exfalso; first | omega | exact hb trivial)))) | (apply endS trivial; rotate_left; (· exact eva); (· rfl); try refine ⟨?_, rfl⟩) | fail)
            (apply EvR.aCall h6.at_; (· exact eva); (· exact  h6.ok _ (σ.length + 3) 0 (S.length + 3) 0 W H wr _ _ _ _ _ (fldOf N now).e (fldOf N now).x (fldOf N now).y (pv5.ext _) (PtAt.own rfl) ⟨Row.ownF rfl rfl, Row.ownF rfl rfl, Row.ownF rfl rfl⟩ (by omega) (by omega) (by omega) (by omega) (by omega) (by omega) (by omega) (by omega)); (rintro _ _ ⟨rfl, rfl⟩; refine EvR.nrm ?_))
            rw [hfit]
            repeat' (first | refine ff ?_ | ((first | refine sR ?_ ?_ | refine sC ?_ ?_) <;> (intro hb; (try rw [hb]); (try simp only [bb] at hb); (try (exfalso; first | omega | exact hb trivial)))) | (apply endS trivial; rotate_left; (· exact eva); (· rfl); try refine ⟨?_, rfl⟩) | fail)
            have hRl := ho1.flds.len
            refine EvR.ap3o5 (τ := S) (b := σ.length + 4) (j := 4) (m := fs.length) ho1.row (by rw [List.length_map]; exact hRl) rfl rfl rfl (by omega) rfl rfl rfl ?_
            repeat' (first | refine ff ?_ | ((first | refine sR ?_ ?_ | refine sC ?_ ?_) <;> (intro hb; (try rw [hb]); (try simp only [bb] at hb); (try (exfalso; first | omega | exact hb trivial)))) | (apply endS trivial; rotate_left; (· exact eva); (· rfl); try refine ⟨?_, rfl⟩) | fail)
            have J1 := I2.setRow ho1.row ho1.bl ⟨R.map slOf ++ [slV S.length (fldOf N now).e.length, slV (S.length + 1) (fldOf N now).x.length, slV (S.length + 2) (fldOf N now).y.length], 3, true⟩
            refine EvR.stv5 (b := σ.length + 5) (off := 5) J1.v8 (by simp) rfl rfl rfl rfl rfl ?_
            refine EvR.base fun V hV => ?_
            have I3 := (J1.set8 (slV (σ.length + 4) (fs.length + 1))).ext [rowO (fldOf N now).e, rowO (fldOf N now).x, rowO (fldOf N now).y, ⟨[slV S.length (fldOf N now).e.length, slV (S.length + 1) (fldOf N now).x.length, slV (S.length + 2) (fldOf N now).y.length], 0, true⟩, ⟨[slV S.length (fldOf N now).e.length, slV (S.length + 1) (fldOf N now).x.length, slV (S.length + 2) (fldOf N now).y.length], 3, true⟩]
            have O2 := ho1.snoc I2.len (fldOf N now) [⟨[slV S.length (fldOf N now).e.length, slV (S.length + 1) (fldOf N now).x.length, slV (S.length + 2) (fldOf N now).y.length], 0, true⟩, ⟨[slV S.length (fldOf N now).e.length, slV (S.length + 1) (fldOf N now).x.length, slV (S.length + 2) (fldOf N now).y.length], 3, true⟩]
            have O3 := O2.set0 (t := σ.length + 5) (X := ⟨[.int .i64 W, .int .i64 H, .bool wr, slV (σ.length + 1) sp.length, slV (σ.length + 2) lo.length, slV (σ.length + 4) (fs.length + 1)], 0, true⟩) (J1.ext _).v8 rfl
            rw [List.set_append_left _ _ (List.getElem?_eq_some_iff.1 J1.v8).1] at O3
            have hV2 : V = (S.set (σ.length + 4) ⟨R.map slOf ++ [slV S.length (fldOf N now).e.length, slV (S.length + 1) (fldOf N now).x.length, slV (S.length + 2) (fldOf N now).y.length], 3, true⟩).set (σ.length + 5) ⟨[.int .i64 W, .int .i64 H, .bool wr, slV (σ.length + 1) sp.length, slV (σ.length + 2) lo.length, slV (σ.length + 4) (fs.length + 1)], 0, true⟩ ++ [rowO (fldOf N now).e, rowO (fldOf N now).x, rowO (fldOf N now).y, ⟨[slV S.length (fldOf N now).e.length, slV (S.length + 1) (fldOf N now).x.length, slV (S.length + 2) (fldOf N now).y.length], 0, true⟩, ⟨[slV S.length (fldOf N now).e.length, slV (S.length + 1) (fldOf N now).x.length, slV (S.length + 2) (fldOf N now).y.length], 3, true⟩] := by rw [hV]; rfl
            rw [← hV2] at I3 O3
            clear hV hV2 J1 O2 pv5 pv8
            refine EvR.nrm ?_
            repeat' (first | refine ff ?_ | ((first | refine sR ?_ ?_ | refine sC ?_ ?_) <;> (intro hb; (try rw [hb]); (try simp only [bb] at hb); (try (exfalso; first | omega | exact hb trivial)))) | (apply endS trivial; rotate_left; (· exact eva); (· rfl); try refine ⟨?_, rfl⟩) | fail)
            rw [nlen, show (p : Int) + 2 + (z : Int) + 2 = ((frEnd s p + 2 : Nat) : Int) from by rw [hE]; omega]
            exact ⟨(k, V, frEnd s p + 2, (T.length, now), fs ++ [fldOf N now], _), by dsimp only; omega, by exact tF, rfl, by dsimp only; simp; omega, hrec2, nlen, nw, h5e, (by rw [List.length_append]; exact I3), O3⟩
  · rintro o F' σ' ⟨rfl, T, q, last, R, hF, rfl, I, ho⟩
    apply blkQ.e
    apply thenQ.n
    refine Ev.kp hF ?_
    have pv8 := PtAt.whole I.v8
    repeat' (first | refine ff ?_ | ((first | refine sR ?_ ?_ | refine sC ?_ ?_) <;> (intro hb; (try rw [hb]); (try simp only [bb] at hb); (try (exfalso; first | omega | exact hb trivial)))) | (apply endS trivial; rotate_left; (· exact eva); (· rfl); try refine ⟨?_, rfl⟩) | fail)
    refine EvR.stV5 (b := σ.length + 0) (H := T ++ []) (by rw [List.append_nil]; exact I.v2) rfl rfl rfl (by simp) (by rfl) ?_
    refine EvR.base fun V hV => ?_
    have hV2 : V = T.set (σ.length + 0) ⟨[.int .i64 W, .int .i64 H, .bool wr, slV (σ.length + 1) sp.length, slV (σ.length + 2) lo.length, slV (σ.length + 4) G.1.length], 0, true⟩ := by rw [hV, List.append_nil]; rfl
    obtain ⟨X, hX⟩ : ∃ X, V = σ ++ X := by
      refine ⟨V.drop σ.length, ?_⟩
      have h1 : V.take σ.length = σ := by rw [hV2, List.take_set_of_le (by omega)]; exact I.top
      conv => lhs; rw [← List.take_append_drop σ.length V, h1]
    have pv2 : PtAt V (σ.length + 0) 0 [.int .i64 W, .int .i64 H, .bool wr, slV (σ.length + 1) sp.length, slV (σ.length + 2) lo.length, slV (σ.length + 4) G.1.length] := PtAt.whole (r := true) (by rw [hV2]; exact List.getElem?_set_self (List.getElem?_eq_some_iff.1 I.v2).1)
    have hfin : FilmO V σ.length (σ.length + 1) (σ.length + 2) (σ.length + 4) R sp lo G.1 := by rw [hV2]; exact ho.set0 I.v2 rfl
    clear hV hV2 pv8 I ho
    subst hX
    have hld := pv2.loadNR (l := []) (n := 6) rfl (by omega)
    rw [List.append_nil] at hld
    refine EvR.nrm ?_
    repeat' (first | refine ff ?_ | ((first | refine sR ?_ ?_ | refine sC ?_ ?_) <;> (intro hb; (try rw [hb]); (try simp only [bb] at hb); (try (exfalso; first | omega | exact hb trivial)))) | (apply endS trivial; rotate_left; (· exact eva); (· rfl); try refine ⟨?_, rfl⟩) | fail)
    rw [List.append_nil]
    apply endB trivial
    · show ((aLoadN (σ ++ X) 6 (.pointer (some ⟨σ.length + 0, 0, none⟩))).bind fun v => ((some (Value.int .i64 (G.2 : Nat))).bind fun a => ((some (Value.bool true)).bind fun b => (some []).map fun vs => b :: vs).map fun vs => a :: vs).map fun vs => v :: vs).map (fun vs => Value.tuple vs.toArray) = some _
      rw [hld]; rfl
    · rw [hrc]
      exact ⟨fun _ _ => ⟨X, _, _, σ.length + 4, R, rfl, rfl, hfin⟩, (fun _ h => by cases h), (fun h => by cases h)⟩
end Go.Abs

