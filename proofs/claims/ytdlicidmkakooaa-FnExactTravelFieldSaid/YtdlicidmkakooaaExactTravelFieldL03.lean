/- Laws of single functions: whether a sheet is one, comparisons. Conditions: the laws of what they call. -/
import Derived.Test.YtdlicidmkakooaaExactTravelFieldL02
namespace Go.Abs

set_option linter.unusedSimpArgs false
set_option linter.unusedVariables false
set_option maxHeartbeats 8000000
/- loop.example/g01201/spec.l02Is -/
def spec_l02Is_r0 : List SOper := [
 ⟨some 2, none, .mov (.const (.bool false)), 0⟩]
def spec_l02Is_r1 (i_spec_l02Sides : FuncId) : List SOper := [
 ⟨some 4, none, .mov (.tmp 0), 0⟩,
 ⟨some 5, none, .nilCheck (.tmp 4), 1⟩,
 ⟨some 6, none, .fieldAddr 0 (.tmp 5), 3⟩,
 ⟨some 7, none, .load1 (.tmp 6), 7⟩,
 ⟨some 8, none, .mov (.tmp 0), 0⟩,
 ⟨some 9, none, .nilCheck (.tmp 8), 16⟩,
 ⟨some 10, none, .fieldAddr 1 (.tmp 9), 48⟩,
 ⟨some 11, none, .load1 (.tmp 10), 112⟩,
 ⟨some 12, none, .call (.func i_spec_l02Sides) [(.tmp 7), (.tmp 11)], 255⟩,
 ⟨some 13, none, .un .not (.tmp 12), 511⟩,
 ⟨some 14, none, .mov (.tmp 13), 1023⟩,
  ⟨(some 15), (some (14, false)), .mov (.tmp 0), 2047⟩,
  ⟨(some 16), (some (14, false)), .nilCheck (.tmp 15), 4095⟩,
  ⟨(some 17), (some (14, false)), .fieldAddr 3 (.tmp 16), 8191⟩,
  ⟨(some 18), (some (14, false)), .load1 (.tmp 17), 16383⟩,
  ⟨(some 19), (some (14, false)), .len false (.tmp 18), 32767⟩,
  ⟨(some 20), (some (14, false)), .mov (.tmp 0), 2047⟩,
  ⟨(some 21), (some (14, false)), .nilCheck (.tmp 20), 67583⟩,
  ⟨(some 22), (some (14, false)), .fieldAddr 0 (.tmp 21), 198655⟩,
  ⟨(some 23), (some (14, false)), .load1 (.tmp 22), 460799⟩,
  ⟨(some 24), (some (14, false)), .mov (.tmp 0), 2047⟩,
  ⟨(some 25), (some (14, false)), .nilCheck (.tmp 24), 1050623⟩,
  ⟨(some 26), (some (14, false)), .fieldAddr 1 (.tmp 25), 3147775⟩,
  ⟨(some 27), (some (14, false)), .load1 (.tmp 26), 7342079⟩,
  ⟨(some 28), (some (14, false)), .bin .mul .other (.tmp 23) (.tmp 27), 16713727⟩,
  ⟨(some 29), (some (14, false)), .bin .neq .other (.tmp 19) (.tmp 28), 33554431⟩,
 ⟨some 30, none, .pick (.tmp 14) (.const (.bool true)) (.tmp 29), 67108863⟩,
 ⟨some 31, none, .mov (.tmp 30), 134217727⟩,
  ⟨(some 32), (some (31, false)), .mov (.tmp 0), 268435455⟩,
  ⟨(some 33), (some (31, false)), .nilCheck (.tmp 32), 536870911⟩,
  ⟨(some 34), (some (31, false)), .fieldAddr 4 (.tmp 33), 1073741823⟩,
  ⟨(some 35), (some (31, false)), .load1 (.tmp 34), 2147483647⟩,
  ⟨(some 36), (some (31, false)), .len false (.tmp 35), 4294967295⟩,
  ⟨(some 37), (some (31, false)), .mov (.tmp 0), 268435455⟩,
  ⟨(some 38), (some (31, false)), .nilCheck (.tmp 37), 8858370047⟩,
  ⟨(some 39), (some (31, false)), .fieldAddr 0 (.tmp 38), 26038239231⟩,
  ⟨(some 40), (some (31, false)), .load1 (.tmp 39), 60397977599⟩,
  ⟨(some 41), (some (31, false)), .mov (.tmp 0), 268435455⟩,
  ⟨(some 42), (some (31, false)), .nilCheck (.tmp 41), 137707388927⟩,
  ⟨(some 43), (some (31, false)), .fieldAddr 1 (.tmp 42), 412585295871⟩,
  ⟨(some 44), (some (31, false)), .load1 (.tmp 43), 962341109759⟩,
  ⟨(some 45), (some (31, false)), .bin .mul .other (.tmp 40) (.tmp 44), 2190701756415⟩,
  ⟨(some 46), (some (31, false)), .bin .neq .other (.tmp 36) (.tmp 45), 4398046511103⟩,
 ⟨some 47, none, .pick (.tmp 31) (.const (.bool true)) (.tmp 46), 8796093022207⟩]
def spec_l02Is_r2 : List SOper := [
 ⟨some 2, none, .mov (.const (.bool false)), 0⟩]
def spec_l02Is_r3 : List SOper := [
 ⟨some 3, none, .mov (.const (.int .i64 0)), 0⟩]
def spec_l02Is_r4 : List SOper := [
 ⟨some 48, none, .mov (.tmp 3), 0⟩,
 ⟨some 49, none, .mov (.tmp 0), 0⟩,
 ⟨some 50, none, .nilCheck (.tmp 49), 2⟩,
 ⟨some 51, none, .fieldAddr 3 (.tmp 50), 6⟩,
 ⟨some 52, none, .load1 (.tmp 51), 14⟩,
 ⟨some 53, none, .len false (.tmp 52), 30⟩,
 ⟨some 54, none, .bin .lss .other (.tmp 48) (.tmp 53), 63⟩]
def spec_l02Is_r5 : List SOper := [
 ⟨some 57, none, .mov (.tmp 0), 0⟩,
 ⟨some 58, none, .nilCheck (.tmp 57), 1⟩,
 ⟨some 59, none, .fieldAddr 3 (.tmp 58), 3⟩,
 ⟨some 60, none, .load1 (.tmp 59), 7⟩,
 ⟨some 61, none, .mov (.tmp 3), 0⟩,
 ⟨some 62, none, .indexAddrS 1 (.tmp 60) (.tmp 61), 31⟩,
 ⟨some 63, none, .load1 (.tmp 62), 63⟩,
 ⟨some 64, none, .bin .geq .other (.tmp 63) (.const (.float .f32 0)), 127⟩,
 ⟨some 65, none, .un .not (.tmp 64), 255⟩,
 ⟨some 66, none, .mov (.tmp 65), 511⟩,
  ⟨(some 67), (some (66, false)), .mov (.tmp 0), 1023⟩,
  ⟨(some 68), (some (66, false)), .nilCheck (.tmp 67), 2047⟩,
  ⟨(some 69), (some (66, false)), .fieldAddr 3 (.tmp 68), 4095⟩,
  ⟨(some 70), (some (66, false)), .load1 (.tmp 69), 8191⟩,
  ⟨(some 71), (some (66, false)), .mov (.tmp 3), 1023⟩,
  ⟨(some 72), (some (66, false)), .indexAddrS 1 (.tmp 70) (.tmp 71), 32767⟩,
  ⟨(some 73), (some (66, false)), .load1 (.tmp 72), 65535⟩,
  ⟨(some 74), (some (66, false)), .bin .gtr .other (.tmp 73) (.const (.float .f32 1056964608)), 131071⟩,
 ⟨some 75, none, .pick (.tmp 66) (.const (.bool true)) (.tmp 74), 262143⟩,
 ⟨some 76, none, .mov (.tmp 75), 524287⟩,
  ⟨(some 77), (some (76, false)), .mov (.tmp 0), 1048575⟩,
  ⟨(some 78), (some (76, false)), .nilCheck (.tmp 77), 2097151⟩,
  ⟨(some 79), (some (76, false)), .fieldAddr 4 (.tmp 78), 4194303⟩,
  ⟨(some 80), (some (76, false)), .load1 (.tmp 79), 8388607⟩,
  ⟨(some 81), (some (76, false)), .mov (.tmp 3), 1048575⟩,
  ⟨(some 82), (some (76, false)), .indexAddrS 1 (.tmp 80) (.tmp 81), 33554431⟩,
  ⟨(some 83), (some (76, false)), .load1 (.tmp 82), 67108863⟩,
  ⟨(some 84), (some (76, false)), .bin .geq .other (.tmp 83) (.const (.float .f32 0)), 134217727⟩,
  ⟨(some 85), (some (76, false)), .un .not (.tmp 84), 268435455⟩,
 ⟨some 86, none, .pick (.tmp 76) (.const (.bool true)) (.tmp 85), 536870911⟩,
 ⟨some 87, none, .mov (.tmp 86), 1073741823⟩,
  ⟨(some 88), (some (87, false)), .mov (.tmp 0), 2147483647⟩,
  ⟨(some 89), (some (87, false)), .nilCheck (.tmp 88), 4294967295⟩,
  ⟨(some 90), (some (87, false)), .fieldAddr 4 (.tmp 89), 8589934591⟩,
  ⟨(some 91), (some (87, false)), .load1 (.tmp 90), 17179869183⟩,
  ⟨(some 92), (some (87, false)), .mov (.tmp 3), 2147483647⟩,
  ⟨(some 93), (some (87, false)), .indexAddrS 1 (.tmp 91) (.tmp 92), 68719476735⟩,
  ⟨(some 94), (some (87, false)), .load1 (.tmp 93), 137438953471⟩,
  ⟨(some 95), (some (87, false)), .bin .gtr .other (.tmp 94) (.const (.float .f32 1065353216)), 274877906943⟩,
 ⟨some 96, none, .pick (.tmp 87) (.const (.bool true)) (.tmp 95), 549755813887⟩]
def spec_l02Is_r6 : List SOper := [
 ⟨some 2, none, .mov (.const (.bool false)), 0⟩]
def spec_l02Is_r7 : List SOper := [
 ⟨some 55, none, .mov (.tmp 3), 0⟩,
 ⟨some 56, none, .bin .add .other (.tmp 55) (.const (.int .i64 1)), 1⟩,
 ⟨some 3, none, .mov (.tmp 56), 3⟩]
def spec_l02Is_l8 : SCode := (.kp [0,3] (.seq (.seq (.region spec_l02Is_r4 false) (.kp [0,3,54] (.cond (.tmp 54) .skip (.exit 0)))) (.kp [0,3] (.seq (.block 1 (.seq (.region spec_l02Is_r5 false) (.kp [0,3,96] (.cond (.tmp 96) (.seq (.region spec_l02Is_r6 false) .ret) .skip)))) (.kp [0,3] (.region spec_l02Is_r7 false))))))
def spec_l02Is_r9 : List SOper := [
 ⟨some 2, none, .mov (.const (.bool true)), 0⟩]
def spec_l02Is (i_spec_l02Sides : FuncId) : SFunc := ⟨97, [.tmp 2], (.kp [0] (.seq (.region spec_l02Is_r0 false) (.kp [0] (.seq (.seq (.region (spec_l02Is_r1 i_spec_l02Sides) true) (.kp [0,47] (.cond (.tmp 47) (.seq (.region spec_l02Is_r2 false) .ret) .skip))) (.kp [0] (.seq (.seq (.region spec_l02Is_r3 false) (.kp [0,3] (.block 0 (.loop spec_l02Is_l8)))) (.kp [] (.seq (.region spec_l02Is_r9 false) .ret))))))))⟩
theorem spec_l02Is_r1_dr {i_spec_l02Sides : FuncId} : drawOkW wStat (spec_l02Is_r1 i_spec_l02Sides) = true := by kernel_rfl
attribute [push_cast] spec_l02Is_r1_dr
/- loop.example/g01201/impl.ValidSheet -/
def impl_ValidSheet_r0 : List SOper := [
 ⟨some 1, none, .box (.tmp 0), 0⟩,
 ⟨some 2, none, .mov (.const (.bool false)), 0⟩]
def impl_ValidSheet_r1 : List SOper := [
 ⟨some 4, none, .fieldAddr 0 (.tmp 1), 0⟩,
 ⟨some 5, none, .load1 (.tmp 4), 1⟩,
 ⟨some 6, none, .fieldAddr 1 (.tmp 1), 0⟩,
 ⟨some 7, none, .load1 (.tmp 6), 4⟩,
 ⟨some 8, none, .bin .mul .other (.tmp 5) (.tmp 7), 15⟩,
 ⟨some 3, none, .mov (.tmp 8), 31⟩]
def impl_ValidSheet_r2 (i_impl_within : FuncId) : List SOper := [
 ⟨some 9, none, .fieldAddr 0 (.tmp 1), 0⟩,
 ⟨some 10, none, .load1 (.tmp 9), 1⟩,
 ⟨some 11, none, .call (.func i_impl_within) [(.tmp 10), (.const (.int .i64 3)), (.const (.int .i64 16))], 3⟩,
 ⟨some 12, none, .un .not (.tmp 11), 7⟩,
 ⟨some 13, none, .mov (.tmp 12), 15⟩,
  ⟨(some 14), (some (13, false)), .fieldAddr 1 (.tmp 1), 31⟩,
  ⟨(some 15), (some (13, false)), .load1 (.tmp 14), 63⟩,
  ⟨(some 16), (some (13, false)), .call (.func i_impl_within) [(.tmp 15), (.const (.int .i64 3)), (.const (.int .i64 16))], 127⟩,
  ⟨(some 17), (some (13, false)), .un .not (.tmp 16), 255⟩,
 ⟨some 18, none, .pick (.tmp 13) (.const (.bool true)) (.tmp 17), 511⟩,
 ⟨some 19, none, .mov (.tmp 18), 1023⟩,
  ⟨(some 20), (some (19, false)), .mov (.tmp 3), 2047⟩,
  ⟨(some 21), (some (19, false)), .bin .gtr .other (.tmp 20) (.const (.int .i64 256)), 4095⟩,
 ⟨some 22, none, .pick (.tmp 19) (.const (.bool true)) (.tmp 21), 8191⟩]
def impl_ValidSheet_r3 : List SOper := [
 ⟨some 2, none, .mov (.const (.bool false)), 0⟩]
def impl_ValidSheet_r4 (i_impl_areBetween : FuncId) : List SOper := [
 ⟨some 23, none, .fieldAddr 3 (.tmp 1), 0⟩,
 ⟨some 24, none, .load1 (.tmp 23), 1⟩,
 ⟨some 25, none, .len false (.tmp 24), 3⟩,
 ⟨some 26, none, .mov (.tmp 3), 0⟩,
 ⟨some 27, none, .bin .eql .other (.tmp 25) (.tmp 26), 15⟩,
 ⟨some 28, none, .mov (.tmp 27), 31⟩,
  ⟨(some 29), (some (28, true)), .fieldAddr 4 (.tmp 1), 63⟩,
  ⟨(some 30), (some (28, true)), .load1 (.tmp 29), 127⟩,
  ⟨(some 31), (some (28, true)), .len false (.tmp 30), 255⟩,
  ⟨(some 32), (some (28, true)), .mov (.tmp 3), 63⟩,
  ⟨(some 33), (some (28, true)), .bin .eql .other (.tmp 31) (.tmp 32), 1023⟩,
 ⟨some 34, none, .pick (.tmp 28) (.tmp 33) (.const (.bool false)), 2047⟩,
 ⟨some 35, none, .mov (.tmp 34), 4095⟩,
  ⟨(some 36), (some (35, true)), .fieldAddr 3 (.tmp 1), 8191⟩,
  ⟨(some 37), (some (35, true)), .load1 (.tmp 36), 16383⟩,
  ⟨(some 38), (some (35, true)), .call (.func i_impl_areBetween) [(.tmp 37), (.const (.float .f32 1056964608))], 32767⟩,
 ⟨some 39, none, .pick (.tmp 35) (.tmp 38) (.const (.bool false)), 65535⟩,
 ⟨some 40, none, .mov (.tmp 39), 131071⟩,
  ⟨(some 41), (some (40, true)), .fieldAddr 4 (.tmp 1), 262143⟩,
  ⟨(some 42), (some (40, true)), .load1 (.tmp 41), 524287⟩,
  ⟨(some 43), (some (40, true)), .call (.func i_impl_areBetween) [(.tmp 42), (.const (.float .f32 1065353216))], 1048575⟩,
 ⟨some 44, none, .pick (.tmp 40) (.tmp 43) (.const (.bool false)), 2097151⟩,
 ⟨some 2, none, .mov (.tmp 44), 4194303⟩]
def impl_ValidSheet (i_impl_within i_impl_areBetween : FuncId) : SFunc := ⟨45, [.tmp 2], (.kp [0] (.seq (.region impl_ValidSheet_r0 false) (.kp [1] (.seq (.region impl_ValidSheet_r1 false) (.kp [1,3] (.seq (.seq (.region (impl_ValidSheet_r2 i_impl_within) false) (.kp [1,3,22] (.cond (.tmp 22) (.seq (.region impl_ValidSheet_r3 false) .ret) .skip))) (.kp [1,3] (.seq (.region (impl_ValidSheet_r4 i_impl_areBetween) false) .ret))))))))⟩


def impl_ValidSheet_ok (c : Contract) : Prop := ∀ (σ : Heap) (w h : Int) (wr : Bool) (sv lv : Value) (sp lo : List Nat), ShR σ sv lv sp lo → sp.length ≤ 1048576 → lo.length ≤ 1048576 →
    Ret c [shV w h wr sv lv] σ fun v σ' => v = .bool (isSheet w h sp lo) ∧ σ' = σ
theorem impl_ValidSheet_law {C : Ctab} {i j : FuncId} {c d : Contract} (h1 : Has C i c impl_within_ok) (h2 : Has C j d impl_areBetween_ok) : impl_ValidSheet_ok (gcC C (impl_ValidSheet i j) true) := by
  intro σ w h wr sv lv sp lo ⟨r1, r2⟩ hn1 hn2
  have k1 := r1.ok
  have k2 := r2.ok
  cases hw : inR w 3 16
  · rw [show isSheet w h sp lo = false from by simp [isSheet, sides, hw]]
    refine ret_gc rfl rfl ?_
    repeat' (first | refine ff ?_ | (apply EvR.aCall h1.at_; (· exact eva); (· apply h1.ok <;> exact sid); (rintro _ _ ⟨rfl, rfl⟩; refine EvR.nrm ?_; try simp only [hw])) | ((first | refine sR ?_ ?_ | refine sC ?_ ?_) <;> (intro hb; (try rw [hb]); (try simp only [bb] at hb); (try (exfalso; first | omega | exact hb trivial)))) | (apply endS trivial; rotate_left; (· exact eva); (· rfl); try refine ⟨?_, rfl⟩) | fail)
    all_goals (try rfl)
  cases hh : inR h 3 16
  · rw [show isSheet w h sp lo = false from by simp [isSheet, sides, hh]]
    refine ret_gc rfl rfl ?_
    repeat' (first | refine ff ?_ | (apply EvR.aCall h1.at_; (· exact eva); (· apply h1.ok <;> exact sid); (rintro _ _ ⟨rfl, rfl⟩; refine EvR.nrm ?_; try simp only [hw, hh])) | ((first | refine sR ?_ ?_ | refine sC ?_ ?_) <;> (intro hb; (try rw [hb]); (try simp only [bb] at hb); (try (exfalso; first | omega | exact hb trivial)))) | (apply endS trivial; rotate_left; (· exact eva); (· rfl); try refine ⟨?_, rfl⟩) | fail)
    all_goals (try rfl)
  obtain ⟨m1, m2⟩ := sides_mul hw hh
  cases e1 : decide ((sp.length : Int) = w * h)
  · rw [show isSheet w h sp lo = false from by simp [isSheet, e1]]
    have e1' := of_decide_eq_false e1
    refine ret_gc rfl rfl ?_
    repeat' (first | refine ff ?_ | (apply EvR.aCall h1.at_; (· exact eva); (· apply h1.ok <;> exact sid); (rintro _ _ ⟨rfl, rfl⟩; refine EvR.nrm ?_; try simp only [hw, hh])) | ((first | refine sR ?_ ?_ | refine sC ?_ ?_) <;> (intro hb; (try rw [hb]); (try simp only [bb] at hb); (try (exfalso; first | omega | exact hb trivial)))) | (apply endS trivial; rotate_left; (· exact eva); (· rfl); try refine ⟨?_, rfl⟩) | fail)
    all_goals (try rfl)
  have e1' := of_decide_eq_true e1
  cases e2 : decide ((lo.length : Int) = w * h)
  · rw [show isSheet w h sp lo = false from by simp [isSheet, e2]]
    have e2' := of_decide_eq_false e2
    refine ret_gc rfl rfl ?_
    repeat' (first | refine ff ?_ | (apply EvR.aCall h1.at_; (· exact eva); (· apply h1.ok <;> exact sid); (rintro _ _ ⟨rfl, rfl⟩; refine EvR.nrm ?_; try simp only [hw, hh])) | ((first | refine sR ?_ ?_ | refine sC ?_ ?_) <;> (intro hb; (try rw [hb]); (try simp only [bb] at hb); (try (exfalso; first | omega | exact hb trivial)))) | (apply endS trivial; rotate_left; (· exact eva); (· rfl); try refine ⟨?_, rfl⟩) | fail)
    all_goals (try rfl)
  have e2' := of_decide_eq_true e2
  rw [show isSheet w h sp lo = (sp.all (fun x => share x 0x3f000000) && lo.all (fun x => share x 0x3f800000)) from by simp [isSheet, sides, hw, hh, e1, e2]]
  cases e3 : sp.all (fun x => share x 0x3f000000)
  all_goals
    refine ret_gc rfl rfl ?_
    repeat' (first | refine ff ?_ | (apply EvR.aCall h1.at_; (· exact eva); (· apply h1.ok <;> exact sid); (rintro _ _ ⟨rfl, rfl⟩; refine EvR.nrm ?_; try simp only [hw, hh, e3])) | (apply EvR.aCall h2.at_; (· exact eva); (· apply h2.ok <;> exact sid); (rintro _ _ ⟨rfl, rfl⟩; refine EvR.nrm ?_; try simp only [hw, hh, e3])) | ((first | refine sR ?_ ?_ | refine sC ?_ ?_) <;> (intro hb; (try rw [hb]); (try simp only [bb] at hb); (try (exfalso; first | omega | exact hb trivial)))) | (apply endS trivial; rotate_left; (· exact eva); (· rfl); try refine ⟨?_, rfl⟩) | fail)
    all_goals (try rfl)


/-- A variable that holds a sheet. -/
def spec_l02Is_ok (c : Contract) : Prop := ∀ (σ : Heap) (b o : Nat) (w h : Int) (wr : Bool) (sv lv : Value) (sp lo : List Nat), PtAt σ b o [.int .i64 w, .int .i64 h, .bool wr, sv, lv] → ShR σ sv lv sp lo → sp.length ≤ 1048576 → lo.length ≤ 1048576 →
    Ret c [.pointer (some ⟨b, o, none⟩)] σ fun v σ' => v = .bool (isSheet w h sp lo) ∧ σ' = σ

theorem fge_ok {x c : Nat} (hc : isNaN .f32 c = false) (h : fge .f32 x 0 = true) : fgt .f32 x c = !fle .f32 x c := fgt_fle (fge_nan h).1 hc
theorem half_num : isNaN .f32 0x3f000000 = false := by decide +kernel
theorem one_num : isNaN .f32 0x3f800000 = false := by decide +kernel

theorem spec_l02Is_law {C : Ctab} {i : FuncId} {c : Contract} (h1 : Has C i c spec_l02Sides_ok) : spec_l02Is_ok (gcC C (spec_l02Is i) true) := by
  intro σ b o w h wr sv lv sp lo hb ⟨r1, r2⟩ hn1 hn2
  have k1 := r1.ok
  have k2 := r2.ok
  cases hs : sides w h
  · rw [show isSheet w h sp lo = false from by simp [isSheet, hs]]
    refine ret_gc rfl rfl ?_
    repeat' (first | refine ff ?_ | (apply EvR.aCall h1.at_; (· exact eva); (· apply h1.ok <;> exact sid); (rintro _ _ ⟨rfl, rfl⟩; refine EvR.nrm ?_; try simp only [hs])) | ((first | refine sR ?_ ?_ | refine sC ?_ ?_) <;> (intro hb; (try rw [hb]); (try simp only [bb] at hb); (try (exfalso; first | omega | exact hb trivial)))) | (apply endS trivial; rotate_left; (· exact eva); (· rfl); try refine ⟨?_, rfl⟩) | fail)
    all_goals (try rfl)
  have hs' := hs
  unfold sides at hs'
  rw [Bool.and_eq_true] at hs'
  obtain ⟨m1, m2⟩ := sides_mul hs'.1 hs'.2
  cases e1 : decide ((sp.length : Int) = w * h)
  · rw [show isSheet w h sp lo = false from by simp [isSheet, e1]]
    have e1' := of_decide_eq_false e1
    refine ret_gc rfl rfl ?_
    repeat' (first | refine ff ?_ | (apply EvR.aCall h1.at_; (· exact eva); (· apply h1.ok <;> exact sid); (rintro _ _ ⟨rfl, rfl⟩; refine EvR.nrm ?_; try simp only [hs])) | ((first | refine sR ?_ ?_ | refine sC ?_ ?_) <;> (intro hb; (try rw [hb]); (try simp only [bb] at hb); (try (exfalso; first | omega | exact hb trivial)))) | (apply endS trivial; rotate_left; (· exact eva); (· rfl); try refine ⟨?_, rfl⟩) | fail)
    all_goals (try rfl)
  have e1' := of_decide_eq_true e1
  cases e2 : decide ((lo.length : Int) = w * h)
  · rw [show isSheet w h sp lo = false from by simp [isSheet, e2]]
    have e2' := of_decide_eq_false e2
    refine ret_gc rfl rfl ?_
    repeat' (first | refine ff ?_ | (apply EvR.aCall h1.at_; (· exact eva); (· apply h1.ok <;> exact sid); (rintro _ _ ⟨rfl, rfl⟩; refine EvR.nrm ?_; try simp only [hs])) | ((first | refine sR ?_ ?_ | refine sC ?_ ?_) <;> (intro hb; (try rw [hb]); (try simp only [bb] at hb); (try (exfalso; first | omega | exact hb trivial)))) | (apply endS trivial; rotate_left; (· exact eva); (· rfl); try refine ⟨?_, rfl⟩) | fail)
    all_goals (try rfl)
  have e2' := of_decide_eq_true e2
  have hll : lo.length = sp.length := by omega
  refine ret_gc rfl rfl ?_
  repeat' (first | refine ff ?_ | (apply EvR.aCall h1.at_; (· exact eva); (· apply h1.ok <;> exact sid); (rintro _ _ ⟨rfl, rfl⟩; refine EvR.nrm ?_; try simp only [hs])) | ((first | refine sR ?_ ?_ | refine sC ?_ ?_) <;> (intro hb; (try rw [hb]); (try simp only [bb] at hb); (try (exfalso; first | omega | exact hb trivial)))) | (apply endS trivial; rotate_left; (· exact eva); (· rfl); try refine ⟨?_, rfl⟩) | fail)
  refine Ev.whlC (S := Nat) (fun i => sp.length - i) (fun i => [(3, .int .i64 i)]) (fun i => i ≤ sp.length ∧ ∀ j, j < i → share (sp.getD j 0) 0x3f000000 = true ∧ share (lo.getD j 0) 0x3f800000 = true) 0 (by exact tF) ⟨Nat.zero_le _, fun j hj => by omega⟩ ?_
  rintro i F hF ⟨hi, hp⟩
  (simp only [List.cons_append, List.nil_append, ↓fget_cons, fkeep_cons, fkeep_nil, Nat.reduceEqDiff, reduceIte] at hF; subst hF)
  by_cases hlt : i < sp.length
  · have bad1 : share (sp.getD i 0) 0x3f000000 = false → isSheet w h sp lo = false := fun h0 => by
      have := all_getD_false (p := fun x => share x 0x3f000000) hlt h0
      simp [isSheet, this]
    have bad2 : share (lo.getD i 0) 0x3f800000 = false → isSheet w h sp lo = false := fun h0 => by
      have := all_getD_false (p := fun x => share x 0x3f800000) (xs := lo) (i := i) (by omega) h0
      simp [isSheet, this]
    have u1 : share (sp.getD i 0) 0x3f000000 = (fge .f32 (sp.getD i 0) 0 && fle .f32 (sp.getD i 0) 0x3f000000) := rfl
    have u2 : share (lo.getD i 0) 0x3f800000 = (fge .f32 (lo.getD i 0) 0 && fle .f32 (lo.getD i 0) 0x3f800000) := rfl
    have g1 := fge_ok (x := sp.getD i 0) half_num
    have g2 := fge_ok (x := lo.getD i 0) one_num
    repeat' (first | refine ff ?_ | ((first | refine sR ?_ ?_ | refine sC ?_ ?_) <;> (intro hb; (try rw [hb]); (try simp only [bb] at hb); (try (exfalso; first | omega | exact hb trivial)))) | (apply endS trivial; rotate_left; (· exact eva); (· rfl); try refine ⟨?_, rfl⟩) | fail)
    all_goals first
      | (rw [bad1 (by rw [u1]; grind)]; done)
      | (rw [bad2 (by rw [u2]; grind)]; done)
      | (refine ⟨i + 1, by omega, by exact tF, rfl, by omega, fun j hj => ?_⟩
         rcases Nat.lt_or_ge j i with hji | hji
         · exact hp j hji
         · obtain rfl : j = i := by omega
           exact ⟨by rw [u1]; grind, by rw [u2]; grind⟩)
  · obtain rfl : i = sp.length := by omega
    have a1 := all_getD (p := fun x => share x 0x3f000000) (xs := sp) fun i hi => (hp i hi).1
    have a2 := all_getD (p := fun x => share x 0x3f800000) (xs := lo) fun i hi => (hp i (by omega)).2
    rw [show isSheet w h sp lo = true from by simp [isSheet, hs, e1, e2, a1, a2]]
    repeat' (first | refine ff ?_ | ((first | refine sR ?_ ?_ | refine sC ?_ ?_) <;> (intro hb; (try rw [hb]); (try simp only [bb] at hb); (try (exfalso; first | omega | exact hb trivial)))) | (apply endS trivial; rotate_left; (· exact eva); (· rfl); try refine ⟨?_, rfl⟩) | fail)
    all_goals (try rfl)


end Go.Abs

