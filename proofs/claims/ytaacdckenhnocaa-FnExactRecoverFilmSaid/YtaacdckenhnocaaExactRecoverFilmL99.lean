/- Laws of functions: the sheet that bytes begin with, by the reference; sheets that are loaded. Conditions: the laws of what they call. -/
import Derived.Test.YtaacdckenhnocaaExactRecoverFilmL98
namespace Go.Abs

set_option linter.unusedSimpArgs false
set_option linter.unusedVariables false
set_option maxHeartbeats 8000000
set_option maxRecDepth 20000
/- loop.example/g01201/spec.l10Begin -/
def spec_l10Begin_r0 : List SOper := [
 ⟨some 2, none, .alloc [(.int .i64 0), (.int .i64 0), (.bool false), (.slice none 0 0), (.slice none 0 0)], 0⟩,
 ⟨some 3, none, .mov (.const (.int .i64 0)), 0⟩,
 ⟨some 4, none, .mov (.const (.bool false)), 2⟩]
def spec_l10Begin_r1 : List SOper := [
 ⟨some 8, none, .build [(.int .i64 0), (.int .i64 0), (.bool false), (.slice none 0 0), (.slice none 0 0)] [], 0⟩,
 ⟨some 5, none, .alloc [(.int .i64 0), (.int .i64 0), (.bool false), (.slice none 0 0), (.slice none 0 0)], 0⟩,
 ⟨none, none, .store 5 (.tmp 5) (.tmp 8), 3⟩]
def spec_l10Begin_r2 : List SOper := [
 ⟨some 9, none, .mov (.tmp 0), 0⟩,
 ⟨some 10, none, .len true (.tmp 9), 1⟩,
 ⟨some 11, none, .bin .lss .other (.tmp 10) (.const (.int .i64 7)), 3⟩,
 ⟨some 12, none, .mov (.tmp 11), 7⟩,
  ⟨(some 13), (some (12, false)), .mov (.tmp 0), 15⟩,
  ⟨(some 14), (some (12, false)), .sliceStr (.tmp 13) none (some (.const (.int .i64 4))), 31⟩,
  ⟨(some 15), (some (12, false)), .bin .neq .other (.tmp 14) (.const (.string ⟨#[87, 65, 86, 49]⟩)), 63⟩,
 ⟨some 16, none, .pick (.tmp 12) (.const (.bool true)) (.tmp 15), 127⟩,
 ⟨some 17, none, .mov (.tmp 16), 255⟩,
  ⟨(some 18), (some (17, false)), .mov (.tmp 0), 511⟩,
  ⟨(some 19), (some (17, false)), .indexStr (.tmp 18) (.const (.int .i64 6)), 1023⟩,
  ⟨(some 20), (some (17, false)), .bin .gtr .other (.tmp 19) (.const (.int .u8 1)), 2047⟩,
 ⟨some 21, none, .pick (.tmp 17) (.const (.bool true)) (.tmp 20), 4095⟩]
def spec_l10Begin_r3 : List SOper := [
 ⟨some 22, none, .loadN 5 (.tmp 5), 0⟩,
 ⟨none, none, .store 5 (.tmp 2) (.tmp 22), 1⟩,
 ⟨some 3, none, .mov (.const (.int .i64 0)), 3⟩,
 ⟨some 4, none, .mov (.const (.bool false)), 7⟩]
def spec_l10Begin_r4 : List SOper := [
 ⟨some 23, none, .mov (.tmp 0), 0⟩,
 ⟨some 24, none, .indexStr (.tmp 23) (.const (.int .i64 4)), 1⟩,
 ⟨some 25, none, .conv (.toInt .i64) (.tmp 24), 3⟩,
 ⟨some 26, none, .fieldAddr 0 (.tmp 5), 7⟩,
 ⟨none, none, .store 1 (.tmp 26) (.tmp 25), 15⟩]
def spec_l10Begin_r5 : List SOper := [
 ⟨some 27, none, .mov (.tmp 0), 0⟩,
 ⟨some 28, none, .indexStr (.tmp 27) (.const (.int .i64 5)), 1⟩,
 ⟨some 29, none, .conv (.toInt .i64) (.tmp 28), 3⟩,
 ⟨some 30, none, .fieldAddr 1 (.tmp 5), 7⟩,
 ⟨none, none, .store 1 (.tmp 30) (.tmp 29), 15⟩]
def spec_l10Begin_r6 : List SOper := [
 ⟨some 31, none, .mov (.tmp 0), 0⟩,
 ⟨some 32, none, .indexStr (.tmp 31) (.const (.int .i64 6)), 1⟩,
 ⟨some 33, none, .bin .eql .other (.tmp 32) (.const (.int .u8 1)), 3⟩,
 ⟨some 34, none, .fieldAddr 2 (.tmp 5), 7⟩,
 ⟨none, none, .store 1 (.tmp 34) (.tmp 33), 15⟩]
def spec_l10Begin_r7 (i_spec_l02Sides : FuncId) : List SOper := [
 ⟨some 35, none, .fieldAddr 0 (.tmp 5), 0⟩,
 ⟨some 36, none, .load1 (.tmp 35), 1⟩,
 ⟨some 37, none, .fieldAddr 1 (.tmp 5), 0⟩,
 ⟨some 38, none, .load1 (.tmp 37), 4⟩,
 ⟨some 39, none, .call (.func i_spec_l02Sides) [(.tmp 36), (.tmp 38)], 15⟩,
 ⟨some 40, none, .un .not (.tmp 39), 31⟩]
def spec_l10Begin_r8 : List SOper := [
 ⟨some 41, none, .loadN 5 (.tmp 5), 0⟩,
 ⟨none, none, .store 5 (.tmp 2) (.tmp 41), 1⟩,
 ⟨some 3, none, .mov (.const (.int .i64 0)), 3⟩,
 ⟨some 4, none, .mov (.const (.bool false)), 7⟩]
def spec_l10Begin_r9 : List SOper := [
 ⟨some 42, none, .fieldAddr 0 (.tmp 5), 0⟩,
 ⟨some 43, none, .load1 (.tmp 42), 1⟩,
 ⟨some 44, none, .fieldAddr 1 (.tmp 5), 0⟩,
 ⟨some 45, none, .load1 (.tmp 44), 4⟩,
 ⟨some 46, none, .bin .mul .other (.tmp 43) (.tmp 45), 15⟩,
 ⟨some 6, none, .mov (.tmp 46), 31⟩]
def spec_l10Begin_r10 : List SOper := [
 ⟨some 47, none, .mov (.tmp 0), 0⟩,
 ⟨some 48, none, .len true (.tmp 47), 1⟩,
 ⟨some 49, none, .mov (.tmp 6), 0⟩,
 ⟨some 50, none, .bin .mul .other (.const (.int .i64 8)) (.tmp 49), 4⟩,
 ⟨some 51, none, .bin .add .other (.const (.int .i64 7)) (.tmp 50), 12⟩,
 ⟨some 52, none, .bin .lss .other (.tmp 48) (.tmp 51), 31⟩]
def spec_l10Begin_r11 : List SOper := [
 ⟨some 53, none, .loadN 5 (.tmp 5), 0⟩,
 ⟨none, none, .store 5 (.tmp 2) (.tmp 53), 1⟩,
 ⟨some 3, none, .mov (.const (.int .i64 0)), 3⟩,
 ⟨some 4, none, .mov (.const (.bool false)), 7⟩]
def spec_l10Begin_r12 : List SOper := [
 ⟨some 7, none, .mov (.const (.int .i64 0)), 0⟩]
def spec_l10Begin_r13 : List SOper := [
 ⟨some 54, none, .mov (.tmp 7), 0⟩,
 ⟨some 55, none, .mov (.tmp 6), 0⟩,
 ⟨some 56, none, .bin .lss .other (.tmp 54) (.tmp 55), 3⟩]
def spec_l10Begin_r14 (i_spec_l10Number i_spec_l01From : FuncId) : List SOper := [
 ⟨some 59, none, .fieldAddr 3 (.tmp 5), 0⟩,
 ⟨some 60, none, .load1 (.tmp 59), 1⟩,
 ⟨some 61, none, .mov (.tmp 0), 0⟩,
 ⟨some 62, none, .mov (.tmp 7), 0⟩,
 ⟨some 63, none, .bin .mul .other (.const (.int .i64 4)) (.tmp 62), 8⟩,
 ⟨some 64, none, .bin .add .other (.const (.int .i64 7)) (.tmp 63), 24⟩,
 ⟨some 65, none, .call (.func i_spec_l10Number) [(.tmp 61), (.tmp 64), (.const (.int .i64 4))], 60⟩,
 ⟨some 66, none, .call (.func i_spec_l01From) [(.tmp 65)], 124⟩,
 ⟨some 67, none, .buildSlice 1 1 [(.float .f32 0)] [(0, 1, (.tmp 66))], 252⟩,
 ⟨some 68, none, .append 1 4 (.tmp 60) (.tmp 67), 511⟩,
 ⟨some 69, none, .fieldAddr 3 (.tmp 5), 1023⟩,
 ⟨none, none, .store 1 (.tmp 69) (.tmp 68), 2047⟩]
def spec_l10Begin_r15 (i_spec_l10Number i_spec_l01From : FuncId) : List SOper := [
 ⟨some 70, none, .fieldAddr 4 (.tmp 5), 0⟩,
 ⟨some 71, none, .load1 (.tmp 70), 1⟩,
 ⟨some 72, none, .mov (.tmp 0), 0⟩,
 ⟨some 73, none, .mov (.tmp 6), 0⟩,
 ⟨some 74, none, .mov (.tmp 7), 0⟩,
 ⟨some 75, none, .bin .add .other (.tmp 73) (.tmp 74), 24⟩,
 ⟨some 76, none, .bin .mul .other (.const (.int .i64 4)) (.tmp 75), 56⟩,
 ⟨some 77, none, .bin .add .other (.const (.int .i64 7)) (.tmp 76), 120⟩,
 ⟨some 78, none, .call (.func i_spec_l10Number) [(.tmp 72), (.tmp 77), (.const (.int .i64 4))], 252⟩,
 ⟨some 79, none, .call (.func i_spec_l01From) [(.tmp 78)], 508⟩,
 ⟨some 80, none, .buildSlice 1 1 [(.float .f32 0)] [(0, 1, (.tmp 79))], 1020⟩,
 ⟨some 81, none, .append 1 4 (.tmp 71) (.tmp 80), 2047⟩,
 ⟨some 82, none, .fieldAddr 4 (.tmp 5), 4095⟩,
 ⟨none, none, .store 1 (.tmp 82) (.tmp 81), 8191⟩]
def spec_l10Begin_r16 : List SOper := [
 ⟨some 57, none, .mov (.tmp 7), 0⟩,
 ⟨some 58, none, .bin .add .other (.tmp 57) (.const (.int .i64 1)), 1⟩,
 ⟨some 7, none, .mov (.tmp 58), 3⟩]
def spec_l10Begin_l17 (i_spec_l10Number i_spec_l01From : FuncId) : SCode := (.kp [0,2,5,6,7] (.seq (.seq (.region spec_l10Begin_r13 false) (.kp [0,2,5,6,7,56] (.cond (.tmp 56) .skip (.exit 0)))) (.kp [0,2,5,6,7] (.seq (.block 1 (.seq (.region (spec_l10Begin_r14 i_spec_l10Number i_spec_l01From) true) (.kp [0,2,5,6,7] (.region (spec_l10Begin_r15 i_spec_l10Number i_spec_l01From) true)))) (.kp [0,2,5,6,7] (.region spec_l10Begin_r16 false))))))
def spec_l10Begin_r18 (i_spec_l02Is i_spec_l10Head : FuncId) : List SOper := [
 ⟨some 83, none, .loadN 5 (.tmp 5), 0⟩,
 ⟨some 84, none, .mov (.tmp 6), 0⟩,
 ⟨some 85, none, .bin .mul .other (.const (.int .i64 8)) (.tmp 84), 2⟩,
 ⟨some 86, none, .bin .add .other (.const (.int .i64 7)) (.tmp 85), 6⟩,
 ⟨some 87, none, .call (.func i_spec_l02Is) [(.tmp 5)], 0⟩,
 ⟨some 88, none, .mov (.tmp 87), 16⟩,
  ⟨(some 89), (some (88, true)), .call (.func i_spec_l10Head) [(.tmp 5)], 48⟩,
  ⟨(some 90), (some (88, true)), .mov (.tmp 0), 48⟩,
  ⟨(some 91), (some (88, true)), .mov (.tmp 6), 48⟩,
  ⟨(some 92), (some (88, true)), .bin .mul .other (.const (.int .i64 8)) (.tmp 91), 304⟩,
  ⟨(some 93), (some (88, true)), .bin .add .other (.const (.int .i64 7)) (.tmp 92), 816⟩,
  ⟨(some 94), (some (88, true)), .sliceStr (.tmp 90) none (some (.tmp 93)), 1968⟩,
  ⟨(some 95), (some (88, true)), .bin .eql .other (.tmp 89) (.tmp 94), 4080⟩,
 ⟨some 96, none, .pick (.tmp 88) (.tmp 95) (.const (.bool false)), 8176⟩,
 ⟨none, none, .store 5 (.tmp 2) (.tmp 83), 113⟩,
 ⟨some 3, none, .mov (.tmp 86), 16511⟩,
 ⟨some 4, none, .mov (.tmp 96), 65535⟩]
def spec_l10Begin (i_spec_l02Sides i_spec_l10Number i_spec_l01From i_spec_l02Is i_spec_l10Head : FuncId) : SFunc := ⟨97, [.cellN 2 5, .tmp 3, .tmp 4], (.kp [0] (.seq (.region spec_l10Begin_r0 false) (.kp [0,2] (.seq (.region spec_l10Begin_r1 false) (.kp [0,2,5] (.seq (.seq (.region spec_l10Begin_r2 false) (.kp [0,2,5,21] (.cond (.tmp 21) (.seq (.region spec_l10Begin_r3 false) .ret) .skip))) (.kp [0,2,5] (.seq (.region spec_l10Begin_r4 false) (.kp [0,2,5] (.seq (.region spec_l10Begin_r5 false) (.kp [0,2,5] (.seq (.region spec_l10Begin_r6 false) (.kp [0,2,5] (.seq (.seq (.region (spec_l10Begin_r7 i_spec_l02Sides) false) (.kp [0,2,5,40] (.cond (.tmp 40) (.seq (.region spec_l10Begin_r8 false) .ret) .skip))) (.kp [0,2,5] (.seq (.region spec_l10Begin_r9 false) (.kp [0,2,5,6] (.seq (.seq (.region spec_l10Begin_r10 false) (.kp [0,2,5,6,52] (.cond (.tmp 52) (.seq (.region spec_l10Begin_r11 false) .ret) .skip))) (.kp [0,2,5,6] (.seq (.seq (.region spec_l10Begin_r12 false) (.kp [0,2,5,6,7] (.block 0 (.loop (spec_l10Begin_l17 i_spec_l10Number i_spec_l01From))))) (.kp [0,2,5,6] (.seq (.region (spec_l10Begin_r18 i_spec_l02Is i_spec_l10Head) true) .ret))))))))))))))))))))))⟩
theorem spec_l10Begin_r14_dr {i_spec_l10Number i_spec_l01From : FuncId} : drawOkW wStat (spec_l10Begin_r14 i_spec_l10Number i_spec_l01From) = true := by kernel_rfl
attribute [push_cast] spec_l10Begin_r14_dr
theorem spec_l10Begin_r15_dr {i_spec_l10Number i_spec_l01From : FuncId} : drawOkW wStat (spec_l10Begin_r15 i_spec_l10Number i_spec_l01From) = true := by kernel_rfl
attribute [push_cast] spec_l10Begin_r15_dr
theorem spec_l10Begin_r18_dr {i_spec_l02Is i_spec_l10Head : FuncId} : drawOkW wStat (spec_l10Begin_r18 i_spec_l02Is i_spec_l10Head) = true := by kernel_rfl
attribute [push_cast] spec_l10Begin_r18_dr
theorem streq (a b : List UInt8) : ((str a).toList == (str b).toList) = decide (a = b) := by
  rw [str_toList, str_toList, Bool.eq_iff_iff]
  simp
attribute [push_cast] streq
theorem row_at (τ l : Heap) (i : Nat) (xs : List Nat) (h : l[i]? = some (rowO xs)) : Row (τ ++ l) 1 (slV (τ.length + i) xs.length) xs.length (f32s xs) := Row.whole (by rw [hget]; exact h) (by omega) (by rw [f32s_length]; omega)
def bgRes (s : List UInt8) (σ σ' : Heap) (v : Value) : Prop :=
  bif ahOk s then v = .tuple #[shV (byAt s 4) (byAt s 5) (shWr s) (slV σ.length (shN s)) (slV (σ.length + 1) (shN s)), .int .i64 (shEnd s : Nat), .bool true] ∧ σ' = σ ++ [rowO (shSp s), rowO (shLo s)]
  else ∃ w h wr sv lv n τ, v = .tuple #[shV w h wr sv lv, .int .i64 n, .bool false] ∧ (∃ xs ys : List Nat, ShR σ' sv lv xs ys) ∧ (τ = [] ∨ ∃ x y, τ = [x, y]) ∧ σ' = σ ++ τ
theorem bgRes_t {s : List UInt8} {σ σ' : Heap} {v : Value} (h : ahOk s = true) (h1 : v = .tuple #[shV (byAt s 4) (byAt s 5) (shWr s) (slV σ.length (shN s)) (slV (σ.length + 1) (shN s)), .int .i64 (shEnd s : Nat), .bool true]) (h2 : σ' = σ ++ [rowO (shSp s), rowO (shLo s)]) : bgRes s σ σ' v := by
  unfold bgRes; rw [h]; exact ⟨h1, h2⟩
theorem bgRes_f {s : List UInt8} {σ σ' : Heap} {v sv lv : Value} {w h_ n : Int} {wr : Bool} {τ : Heap} (h : ahOk s = false) (h1 : v = .tuple #[shV w h_ wr sv lv, .int .i64 n, .bool false]) (h2 : ∃ xs ys : List Nat, ShR σ' sv lv xs ys) (ht : τ = [] ∨ ∃ x y, τ = [x, y]) (h4 : σ' = σ ++ τ) : bgRes s σ σ' v := by
  unfold bgRes; rw [h]; exact ⟨w, h_, wr, sv, lv, n, τ, h1, h2, ht, h4⟩
def spec_l10Begin_ok (c : Contract) : Prop := ∀ (σ : Heap) (s : List UInt8), s.length ≤ 1048576 → Ret c [.string (str s)] σ fun v σ' => bgRes s σ σ' v
theorem spec_l10Begin_law {C : Ctab} {i1 i2 i3 i4 i5 : FuncId} {c1 c2 c3 c4 c5 : Contract} (h1 : Has C i1 c1 spec_l02Sides_ok) (h2 : Has C i2 c2 spec_l10Number_ok) (h3 : Has C i3 c3 spec_l01From_ok) (h4 : Has C i4 c4 spec_l02Is_ok) (h5 : Has C i5 c5 spec_l10Head_ok) :
    spec_l10Begin_ok (gcC C (spec_l10Begin i1 i2 i3 i4 i5) true) := by
  intro σ s hs
  by_cases hl : 7 ≤ s.length
  · cases hw : decide (s.take 4 = wavB)
    · have hok : ahOk s = false := by unfold ahOk; rw [hw]; simp
      have hw' : ¬ (s.take 4 = [87, 65, 86, 49]) := of_decide_eq_false hw
      refine ret_gc rfl rfl ?_
      repeat' (first | refine ff ?_ | ((first | refine sR ?_ ?_ | refine sC ?_ ?_) <;> (intro hb; (try rw [hb]); (try simp only [bb] at hb); (try (exfalso; first | omega | exact hb trivial)))) | (apply endS trivial; rotate_left; (· exact eva); (· rfl); try refine ⟨?_, rfl⟩) | fail)
      all_goals first | exact absurd ‹s.take 4 = [87, 65, 86, 49]› hw' | exact bgRes_f (τ := []) hok (Eq.refl _) ⟨[], [], Row.nilF, Row.nilF⟩ (.inl rfl) (List.append_nil _).symm
    · have hw' : s.take 4 = [87, 65, 86, 49] := of_decide_eq_true hw
      have b4 := byAt_lt s 4
      have b5 := byAt_lt s 5
      have b6 := byAt_lt s 6
      have e6 : (s.getD 6 0).toNat = byAt s 6 := rfl
      have hN2 := shN_le s
      have hok0 : ahOk s = (decide (byAt s 6 ≤ 1) && decide (shEnd s ≤ s.length) && isSheet (byAt s 4) (byAt s 5) (shSp s) (shLo s) && decide (shB (byAt s 4) (byAt s 5) (shWr s) (shSp s) (shLo s) = s.take (shEnd s))) := by
        unfold ahOk; rw [hw, decide_eq_true hl]; rfl
      have eN : shEnd s = 7 + 8 * shN s := rfl
      rcases Nat.lt_or_ge 1 (byAt s 6) with h6 | h6
      · have hok : ahOk s = false := by rw [hok0, decide_eq_false (show ¬ byAt s 6 ≤ 1 by omega)]; rfl
        refine ret_gc rfl rfl ?_
        repeat' (first | refine ff ?_ | ((first | refine sR ?_ ?_ | refine sC ?_ ?_) <;> (intro hb; (try rw [hb]); (try simp only [bb] at hb); (try (exfalso; first | omega | exact hb trivial)))) | (apply endS trivial; rotate_left; (· exact eva); (· rfl); try refine ⟨?_, rfl⟩) | fail)
        all_goals exact bgRes_f (τ := []) hok (Eq.refl _) ⟨[], [], Row.nilF, Row.nilF⟩ (.inl rfl) (List.append_nil _).symm
      rw [decide_eq_true h6, Bool.true_and] at hok0
      cases hsd : sides (byAt s 4) (byAt s 5)
      · have hok : ahOk s = false := by
          rw [hok0]; unfold isSheet; rw [hsd]; simp
        refine ret_gc rfl rfl ?_
        repeat' (first | refine ff ?_ | (apply EvR.aCall h1.at_; (· exact eva); (· apply h1.ok <;> exact sid); (rintro _ _ ⟨rfl, rfl⟩; refine EvR.nrm ?_; try simp only [hsd])) | ((first | refine sR ?_ ?_ | refine sC ?_ ?_) <;> (intro hb; (try rw [hb]); (try simp only [bb] at hb); (try (exfalso; first | omega | exact hb trivial)))) | (apply endS trivial; rotate_left; (· exact eva); (· rfl); try refine ⟨?_, rfl⟩) | fail)
        all_goals exact bgRes_f (τ := []) hok (Eq.refl _) ⟨[], [], Row.nilF, Row.nilF⟩ (.inl rfl) (List.append_nil _).symm
      have hsd2 : 3 ≤ byAt s 4 ∧ byAt s 4 ≤ 16 ∧ 3 ≤ byAt s 5 ∧ byAt s 5 ≤ 16 := by
        have := hsd
        simp [sides, inR] at this
        omega
      have hN3 : shN s ≤ 256 := Nat.mul_le_mul (show byAt s 4 ≤ 16 by omega) (show byAt s 5 ≤ 16 by omega)
      have hN4 : 9 ≤ shN s := Nat.mul_le_mul (show 3 ≤ byAt s 4 by omega) (show 3 ≤ byAt s 5 by omega)
      rcases Nat.lt_or_ge s.length (shEnd s) with hE | hE
      · have hok : ahOk s = false := by rw [hok0, decide_eq_false (show ¬ shEnd s ≤ s.length by omega)]; rfl
        refine ret_gc rfl rfl ?_
        repeat' (first | refine ff ?_ | (apply EvR.aCall h1.at_; (· exact eva); (· apply h1.ok <;> exact sid); (rintro _ _ ⟨rfl, rfl⟩; refine EvR.nrm ?_; try simp only [hsd])) | ((first | refine sR ?_ ?_ | refine sC ?_ ?_) <;> (intro hb; (try rw [hb]); (try simp only [bb] at hb); (try (exfalso; first | omega | exact hb trivial)))) | (apply endS trivial; rotate_left; (· exact eva); (· rfl); try refine ⟨?_, rfl⟩) | fail)
        all_goals exact bgRes_f (τ := []) hok (Eq.refl _) ⟨[], [], Row.nilF, Row.nilF⟩ (.inl rfl) (List.append_nil _).symm
      rw [decide_eq_true hE, Bool.true_and] at hok0
      refine ret_gc rfl rfl ?_
      repeat' (first | refine ff ?_ | (apply EvR.aCall h1.at_; (· exact eva); (· apply h1.ok <;> exact sid); (rintro _ _ ⟨rfl, rfl⟩; refine EvR.nrm ?_; try simp only [hsd])) | ((first | refine sR ?_ ?_ | refine sC ?_ ?_) <;> (intro hb; (try rw [hb]); (try simp only [bb] at hb); (try (exfalso; first | omega | exact hb trivial)))) | (apply endS trivial; rotate_left; (· exact eva); (· rfl); try refine ⟨?_, rfl⟩) | fail)
      · exact absurd hw' hb
      have eS : shSp s = numsAt s 7 (shN s) := rfl
      have eL : shLo s = numsAt s (7 + 4 * shN s) (shN s) := rfl
      have eW : ∀ inst : Decidable ((byAt s 6 : Int) = 1), @decide _ inst = shWr s := fun _ => by unfold shWr; congr
      rw [eW]
      rw [eS, eL] at hok0
      obtain ⟨N, hN⟩ : ∃ N, shN s = N := ⟨_, rfl⟩
      rw [hN] at hN2 hN3 hN4 eN eS eL hok0 ⊢
      refine Ev.whlH (S := Nat × Heap) (fun st => N - st.1) (fun st => [(7, .int .i64 st.1)])
        (fun st => σ ++ (⟨[.int .i64 0, .int .i64 0, .bool false, .slice none 0 0, .slice none 0 0], 0, true⟩ :: ⟨[.int .i64 (byAt s 4), .int .i64 (byAt s 5), .bool (shWr s), fvN (σ.length + 3) st.1, fvN (σ.length + 5) st.1], 0, true⟩ :: st.2))
        (fun st => st.1 ≤ N ∧ (st.1 = 0 → st.2 = []) ∧ (0 < st.1 → ∃ t1 t2 rub, st.2 = t1 :: rowO (numsAt s 7 st.1) :: t2 :: rowO (numsAt s (7 + 4 * N) st.1) :: rub))
        (0, []) (by exact tF) rfl ⟨Nat.zero_le _, fun _ => rfl, fun h => absurd h (Nat.lt_irrefl 0)⟩ ?_
      rintro ⟨i, R⟩ F hF ⟨hi, hz, hp⟩
      dsimp only at hi hF hz hp ⊢
      (simp only [List.cons_append, List.nil_append, ↓fget_cons, fkeep_cons, fkeep_nil, Nat.reduceEqDiff, reduceIte] at hF; subst hF)
      by_cases hlt : i < N
      · obtain ⟨v1, hv1⟩ : ∃ v, v = numAt s (7 + 4 * i) := ⟨_, rfl⟩
        have ev1 : numB ((s.drop (7 + 4 * i)).take 4) = v1 := hv1.symm
        have ev1' : v1 < 4294967296 := by rw [hv1]; exact numAt_lt s _
        obtain ⟨v2, hv2⟩ : ∃ v, v = numAt s (7 + 4 * N + 4 * i) := ⟨_, rfl⟩
        have ev2 : numB ((s.drop (7 + 4 * N + 4 * i)).take 4) = v2 := hv2.symm
        have ev2' : v2 < 4294967296 := by rw [hv2]; exact numAt_lt s _
        have hs1 := numsAt_succ s 7 i
        have hs2 := numsAt_succ s (7 + 4 * N) i
        rw [← hv1] at hs1
        rw [← hv2] at hs2
        obtain ⟨P1, hP1⟩ : ∃ P, P = 7 + 4 * i := ⟨_, rfl⟩
        obtain ⟨P2, hP2⟩ : ∃ P, P = 7 + 4 * N + 4 * i := ⟨_, rfl⟩
        rw [← hP1] at ev1
        rw [← hP2] at ev2
        have hp1 : 7 + 4 * (i : Int) = (P1 : Int) := by omega
        have hp2 : 7 + 4 * ((N : Int) + (i : Int)) = (P2 : Int) := by omega
        rcases Nat.eq_zero_or_pos i with h0 | hpos
        · obtain rfl : R = [] := hz h0
          rw [fvN_zero h0, fvN_zero h0]
          repeat' (first | refine ff ?_ | ((first | refine sR ?_ ?_ | refine sC ?_ ?_) <;> (intro hb; (try rw [hb]); (try simp only [bb] at hb); (try (exfalso; first | omega | exact hb trivial)))) | (apply endS trivial; rotate_left; (· exact eva); (· rfl); try refine ⟨?_, rfl⟩) | fail)
          rw [hp1]
          (apply EvR.aCall h2.at_; (· exact eva); (· exact  h2.ok _ s P1 (by omega) hs); (rintro _ _ ⟨rfl, rfl⟩; refine EvR.nrm ?_))
          rw [ev1]
          repeat' (first | refine ff ?_ | ((first | refine sR ?_ ?_ | refine sC ?_ ?_) <;> (intro hb; (try rw [hb]); (try simp only [bb] at hb); (try (exfalso; first | omega | exact hb trivial)))) | (apply endS trivial; rotate_left; (· exact eva); (· rfl); try refine ⟨?_, rfl⟩) | fail)
          (apply EvR.aCall h3.at_; (· exact eva); (· exact  h3.ok _ _ ev1'); (rintro _ _ ⟨rfl, rfl⟩; refine EvR.nrm ?_))
          repeat' (first | refine ff ?_ | ((first | refine sR ?_ ?_ | refine sC ?_ ?_) <;> (intro hb; (try rw [hb]); (try simp only [bb] at hb); (try (exfalso; first | omega | exact hb trivial)))) | (apply endS trivial; rotate_left; (· exact eva); (· rfl); try refine ⟨?_, rfl⟩) | fail)
          rw [hp2]
          (apply EvR.aCall h2.at_; (· exact eva); (· exact  h2.ok _ s P2 (by omega) hs); (rintro _ _ ⟨rfl, rfl⟩; refine EvR.nrm ?_))
          rw [ev2]
          repeat' (first | refine ff ?_ | ((first | refine sR ?_ ?_ | refine sC ?_ ?_) <;> (intro hb; (try rw [hb]); (try simp only [bb] at hb); (try (exfalso; first | omega | exact hb trivial)))) | (apply endS trivial; rotate_left; (· exact eva); (· rfl); try refine ⟨?_, rfl⟩) | fail)
          (apply EvR.aCall h3.at_; (· exact eva); (· exact  h3.ok _ _ ev2'); (rintro _ _ ⟨rfl, rfl⟩; refine EvR.nrm ?_))
          repeat' (first | refine ff ?_ | ((first | refine sR ?_ ?_ | refine sC ?_ ?_) <;> (intro hb; (try rw [hb]); (try simp only [bb] at hb); (try (exfalso; first | omega | exact hb trivial)))) | (apply endS trivial; rotate_left; (· exact eva); (· rfl); try refine ⟨?_, rfl⟩) | fail)
          exact ⟨(i + 1, [⟨[.float .f32 v1], 1, true⟩, ⟨[.float .f32 v1], 1, true⟩, ⟨[.float .f32 v2], 1, true⟩, ⟨[.float .f32 v2], 1, true⟩]), by dsimp only; omega, by exact tF, by dsimp only; rw [fvN_pos (by omega), fvN_pos (by omega), h0], by dsimp only; omega, fun h => absurd h (by dsimp only; omega), fun _ => by
            dsimp only
            rw [hs1, hs2, h0]
            exact ⟨_, _, _, rfl⟩⟩
        · obtain ⟨t1, t2, rub, rfl⟩ := hp hpos
          have hn1 := numsAt_length s 7 i
          have hn2 := numsAt_length s (7 + 4 * N) i
          rw [fvN_pos hpos, fvN_pos hpos]
          repeat' (first | refine ff ?_ | ((first | refine sR ?_ ?_ | refine sC ?_ ?_) <;> (intro hb; (try rw [hb]); (try simp only [bb] at hb); (try (exfalso; first | omega | exact hb trivial)))) | (apply endS trivial; rotate_left; (· exact eva); (· rfl); try refine ⟨?_, rfl⟩) | fail)
          rw [hp1]
          (apply EvR.aCall h2.at_; (· exact eva); (· exact  h2.ok _ s P1 (by omega) hs); (rintro _ _ ⟨rfl, rfl⟩; refine EvR.nrm ?_))
          rw [ev1]
          repeat' (first | refine ff ?_ | ((first | refine sR ?_ ?_ | refine sC ?_ ?_) <;> (intro hb; (try rw [hb]); (try simp only [bb] at hb); (try (exfalso; first | omega | exact hb trivial)))) | (apply endS trivial; rotate_left; (· exact eva); (· rfl); try refine ⟨?_, rfl⟩) | fail)
          (apply EvR.aCall h3.at_; (· exact eva); (· exact  h3.ok _ _ ev1'); (rintro _ _ ⟨rfl, rfl⟩; refine EvR.nrm ?_))
          repeat' (first | refine ff ?_ | ((first | refine sR ?_ ?_ | refine sC ?_ ?_) <;> (intro hb; (try rw [hb]); (try simp only [bb] at hb); (try (exfalso; first | omega | exact hb trivial)))) | (apply endS trivial; rotate_left; (· exact eva); (· rfl); try refine ⟨?_, rfl⟩) | fail)
          rw [hp2]
          (apply EvR.aCall h2.at_; (· exact eva); (· exact  h2.ok _ s P2 (by omega) hs); (rintro _ _ ⟨rfl, rfl⟩; refine EvR.nrm ?_))
          rw [ev2]
          repeat' (first | refine ff ?_ | ((first | refine sR ?_ ?_ | refine sC ?_ ?_) <;> (intro hb; (try rw [hb]); (try simp only [bb] at hb); (try (exfalso; first | omega | exact hb trivial)))) | (apply endS trivial; rotate_left; (· exact eva); (· rfl); try refine ⟨?_, rfl⟩) | fail)
          (apply EvR.aCall h3.at_; (· exact eva); (· exact  h3.ok _ _ ev2'); (rintro _ _ ⟨rfl, rfl⟩; refine EvR.nrm ?_))
          repeat' (first | refine ff ?_ | ((first | refine sR ?_ ?_ | refine sC ?_ ?_) <;> (intro hb; (try rw [hb]); (try simp only [bb] at hb); (try (exfalso; first | omega | exact hb trivial)))) | (apply endS trivial; rotate_left; (· exact eva); (· rfl); try refine ⟨?_, rfl⟩) | fail)
          exact ⟨(i + 1, t1 :: rowO (numsAt s 7 i ++ [v1]) :: t2 :: rowO (numsAt s (7 + 4 * N) i ++ [v2]) :: (rub ++ [⟨[.float .f32 v1], 1, true⟩, ⟨[.float .f32 v2], 1, true⟩])), by dsimp only; omega, by exact tF, by dsimp only; rw [fvN_pos (by omega), fvN_pos (by omega)], by dsimp only; omega, fun h => absurd h (by dsimp only; omega), fun _ => by
            dsimp only
            rw [hs1, hs2]
            exact ⟨_, _, _, rfl⟩⟩
      · obtain rfl : i = N := by omega
        have hpos : 0 < i := by omega
        obtain ⟨t1, t2, rub, rfl⟩ := hp hpos
        rw [fvN_pos hpos, fvN_pos hpos]
        clear hp hz
        have hn1 := numsAt_length s 7 i
        have hn2 := numsAt_length s (7 + 4 * i) i
        have l1 := numsAt_lt s 7 i
        have l2 := numsAt_lt s (7 + 4 * i) i
        have eE : (7 + 8 * (i : Int)).toNat = shEnd s := by omega
        rw [← eS] at hn1 l1 hok0 ⊢
        rw [← eL] at hn2 l2 hok0 ⊢
        have hres : ∀ (σ' : Heap) (v : Value) (k : Nat), k = i → ahOk s = true → v = .tuple #[shV (byAt s 4) (byAt s 5) (shWr s) (slV σ.length i) (slV (σ.length + 1) k), .int .i64 (7 + 8 * (i : Int)), .bool true] → σ' = σ ++ [rowO (shSp s), rowO (shLo s)] → bgRes s σ σ' v := by
          rintro σ' v k rfl h1 h2 h3
          refine bgRes_t h1 ?_ h3
          rw [h2, hN, show ((shEnd s : Nat) : Int) = 7 + 8 * (k : Int) from by omega]
        have hresF : ∀ (σ' : Heap) (v : Value) (k : Nat) (n : Int), k = i → ahOk s = false → v = .tuple #[shV (byAt s 4) (byAt s 5) (shWr s) (slV σ.length i) (slV (σ.length + 1) k), .int .i64 n, .bool false] → σ' = σ ++ [rowO (shSp s), rowO (shLo s)] → bgRes s σ σ' v := by
          rintro σ' v k n rfl h1 h2 h3
          refine bgRes_f h1 h2 ⟨shSp s, shLo s, ?_, ?_⟩ (.inr ⟨_, _, rfl⟩) h3
          · rw [h3, ← hn1]; exact row_at σ _ 0 _ rfl
          · rw [h3, ← hn2]; exact row_at σ _ 1 _ rfl
        generalize shSp s = sp at *
        generalize shLo s = lo at *
        clear eS eL
        obtain rfl : sp.length = i := hn1
        rw [show slV (σ.length + 5) sp.length = slV (σ.length + 5) lo.length from by rw [hn2]]
        have hcl : sp.length = lo.length := hn2.symm
        cases hS : isSheet (byAt s 4) (byAt s 5) sp lo
        · have hok : ahOk s = false := by rw [hok0, hS]; rfl
          repeat' (first | refine ff ?_ | ((first | refine sR ?_ ?_ | refine sC ?_ ?_) <;> (intro hb; (try rw [hb]); (try simp only [bb] at hb); (try (exfalso; first | omega | exact hb trivial)))) | (apply endS trivial; rotate_left; (· exact eva); (· rfl); try refine ⟨?_, rfl⟩) | fail)
          (apply EvR.aCall h4.at_; (· exact eva); (· exact  h4.ok _ (σ.length + 1) 0 _ _ _ _ _ sp lo (PtAt.own rfl) ⟨Row.whole (hget _ _ 3) (by omega) (by rw [f32s_length]; omega), Row.whole (hget _ _ 5) (by omega) (by rw [f32s_length]; omega)⟩ (by omega) (by omega)); (rintro _ _ ⟨rfl, rfl⟩; refine EvR.nrm ?_))
          rw [hS]
          repeat' (first | refine ff ?_ | ((first | refine sR ?_ ?_ | refine sC ?_ ?_) <;> (intro hb; (try rw [hb]); (try simp only [bb] at hb); (try (exfalso; first | omega | exact hb trivial)))) | (apply endS trivial; rotate_left; (· exact eva); (· rfl); try refine ⟨?_, rfl⟩) | fail)
          apply endR [3, 5] trivial (hresF _ _ _ (7 + 8 * (sp.length : Int)) hn2 hok rfl rfl); (· exact eva); (· simp [gcTop, gcVal, gcLeaf, gcLeaves, gcVals, constOk, gc_lt, gc_lt0]); (· rfl); (· decide); (· simp [allConst, f32s, i64s, b8s, bools, constOk])
        · rw [hS, Bool.true_and] at hok0
          repeat' (first | refine ff ?_ | ((first | refine sR ?_ ?_ | refine sC ?_ ?_) <;> (intro hb; (try rw [hb]); (try simp only [bb] at hb); (try (exfalso; first | omega | exact hb trivial)))) | (apply endS trivial; rotate_left; (· exact eva); (· rfl); try refine ⟨?_, rfl⟩) | fail)
          (apply EvR.aCall h4.at_; (· exact eva); (· exact  h4.ok _ (σ.length + 1) 0 _ _ _ _ _ sp lo (PtAt.own rfl) ⟨Row.whole (hget _ _ 3) (by omega) (by rw [f32s_length]; omega), Row.whole (hget _ _ 5) (by omega) (by rw [f32s_length]; omega)⟩ (by omega) (by omega)); (rintro _ _ ⟨rfl, rfl⟩; refine EvR.nrm ?_))
          rw [hS]
          repeat' (first | refine ff ?_ | ((first | refine sR ?_ ?_ | refine sC ?_ ?_) <;> (intro hb; (try rw [hb]); (try simp only [bb] at hb); (try (exfalso; first | omega | exact hb trivial)))) | (apply endS trivial; rotate_left; (· exact eva); (· rfl); try refine ⟨?_, rfl⟩) | fail)
          (apply EvR.aCall h5.at_; (· exact eva); (· exact  h5.ok _ (σ.length + 1) 0 (byAt s 4) (byAt s 5) _ _ _ sp lo (PtAt.own rfl) ⟨Row.whole (hget _ _ 3) (by omega) (by rw [f32s_length]; omega), Row.whole (hget _ _ 5) (by omega) (by rw [f32s_length]; omega)⟩ (by omega) (by omega) (by omega) l1 l2); (rintro _ _ ⟨rfl, rfl⟩; refine EvR.nrm ?_))
          cases hB : decide (shB (byAt s 4) (byAt s 5) (shWr s) sp lo = s.take (shEnd s))
          · have hok : ahOk s = false := by rw [hok0, hB]
            generalize shB (byAt s 4) (byAt s 5) (shWr s) sp lo = bs at *
            repeat' (first | refine ff ?_ | ((first | refine sR ?_ ?_ | refine sC ?_ ?_) <;> (intro hb; (try rw [hb]); (try simp only [bb] at hb); (try (exfalso; first | omega | exact hb trivial)))) | (apply endS trivial; rotate_left; (· exact eva); (· rfl); try refine ⟨?_, rfl⟩) | fail)
            rw [show decide (bs = List.take (7 + 8 * (sp.length : Int)).toNat s) = false from by rw [eE]; exact hB]
            apply endR [3, 5] trivial (hresF _ _ _ (7 + 8 * (sp.length : Int)) hn2 hok rfl rfl); (· exact eva); (· simp [gcTop, gcVal, gcLeaf, gcLeaves, gcVals, constOk, gc_lt, gc_lt0]); (· rfl); (· decide); (· simp [allConst, f32s, i64s, b8s, bools, constOk])
          · have hok : ahOk s = true := by rw [hok0, hB]
            generalize shB (byAt s 4) (byAt s 5) (shWr s) sp lo = bs at *
            repeat' (first | refine ff ?_ | ((first | refine sR ?_ ?_ | refine sC ?_ ?_) <;> (intro hb; (try rw [hb]); (try simp only [bb] at hb); (try (exfalso; first | omega | exact hb trivial)))) | (apply endS trivial; rotate_left; (· exact eva); (· rfl); try refine ⟨?_, rfl⟩) | fail)
            rw [show decide (bs = List.take (7 + 8 * (sp.length : Int)).toNat s) = true from by rw [eE]; exact hB]
            apply endR [3, 5] trivial (hres _ _ _ hn2 hok rfl rfl); (· exact eva); (· simp [gcTop, gcVal, gcLeaf, gcLeaves, gcVals, constOk, gc_lt, gc_lt0]); (· rfl); (· decide); (· simp [allConst, f32s, i64s, b8s, bools, constOk])
  · have hok : ahOk s = false := by unfold ahOk; rw [decide_eq_false hl]; rfl
    refine ret_gc rfl rfl ?_
    repeat' (first | refine ff ?_ | ((first | refine sR ?_ ?_ | refine sC ?_ ?_) <;> (intro hb; (try rw [hb]); (try simp only [bb] at hb); (try (exfalso; first | omega | exact hb trivial)))) | (apply endS trivial; rotate_left; (· exact eva); (· rfl); try refine ⟨?_, rfl⟩) | fail)
    all_goals exact bgRes_f (τ := []) hok (Eq.refl _) ⟨[], [], Row.nilF, Row.nilF⟩ (.inl rfl) (List.append_nil _).symm

end Go.Abs

