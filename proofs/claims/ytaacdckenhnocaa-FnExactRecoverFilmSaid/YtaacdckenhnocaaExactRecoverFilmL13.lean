/- Laws of single functions: whether a field is one of a sheet, by the reference. Conditions: the laws of what they call. -/
import Derived.Test.YtaacdckenhnocaaExactRecoverFilmL12
namespace Go.Abs

set_option linter.unusedSimpArgs false
set_option linter.unusedVariables false
set_option maxHeartbeats 8000000
/- loop.example/g01201/spec.l02Fits -/
def spec_l02Fits_r0 : List SOper := [
 ⟨some 4, none, .mov (.const (.bool false)), 0⟩]
def spec_l02Fits_r1 : List SOper := [
 ⟨some 9, none, .mov (.tmp 0), 0⟩,
 ⟨some 10, none, .nilCheck (.tmp 9), 1⟩,
 ⟨some 11, none, .fieldAddr 0 (.tmp 10), 3⟩,
 ⟨some 12, none, .load1 (.tmp 11), 7⟩,
 ⟨some 13, none, .mov (.tmp 0), 0⟩,
 ⟨some 14, none, .nilCheck (.tmp 13), 16⟩,
 ⟨some 15, none, .fieldAddr 1 (.tmp 14), 48⟩,
 ⟨some 16, none, .load1 (.tmp 15), 112⟩,
 ⟨some 17, none, .bin .mul .other (.tmp 12) (.tmp 16), 255⟩,
 ⟨some 5, none, .mov (.tmp 17), 511⟩]
def spec_l02Fits_r2 : List SOper := [
 ⟨some 18, none, .mov (.tmp 1), 0⟩,
 ⟨some 19, none, .nilCheck (.tmp 18), 1⟩,
 ⟨some 20, none, .fieldAddr 0 (.tmp 19), 3⟩,
 ⟨some 21, none, .load1 (.tmp 20), 7⟩,
 ⟨some 22, none, .len false (.tmp 21), 15⟩,
 ⟨some 23, none, .mov (.tmp 5), 0⟩,
 ⟨some 24, none, .bin .neq .other (.tmp 22) (.tmp 23), 63⟩,
 ⟨some 25, none, .mov (.tmp 24), 127⟩,
  ⟨(some 26), (some (25, false)), .mov (.tmp 1), 255⟩,
  ⟨(some 27), (some (25, false)), .nilCheck (.tmp 26), 511⟩,
  ⟨(some 28), (some (25, false)), .fieldAddr 1 (.tmp 27), 1023⟩,
  ⟨(some 29), (some (25, false)), .load1 (.tmp 28), 2047⟩,
  ⟨(some 30), (some (25, false)), .len false (.tmp 29), 4095⟩,
  ⟨(some 31), (some (25, false)), .mov (.tmp 5), 255⟩,
  ⟨(some 32), (some (25, false)), .bin .neq .other (.tmp 30) (.tmp 31), 16383⟩,
 ⟨some 33, none, .pick (.tmp 25) (.const (.bool true)) (.tmp 32), 32767⟩,
 ⟨some 34, none, .mov (.tmp 33), 65535⟩,
  ⟨(some 35), (some (34, false)), .mov (.tmp 1), 131071⟩,
  ⟨(some 36), (some (34, false)), .nilCheck (.tmp 35), 262143⟩,
  ⟨(some 37), (some (34, false)), .fieldAddr 2 (.tmp 36), 524287⟩,
  ⟨(some 38), (some (34, false)), .load1 (.tmp 37), 1048575⟩,
  ⟨(some 39), (some (34, false)), .len false (.tmp 38), 2097151⟩,
  ⟨(some 40), (some (34, false)), .mov (.tmp 5), 131071⟩,
  ⟨(some 41), (some (34, false)), .bin .neq .other (.tmp 39) (.tmp 40), 8388607⟩,
 ⟨some 42, none, .pick (.tmp 34) (.const (.bool true)) (.tmp 41), 16777215⟩]
def spec_l02Fits_r3 : List SOper := [
 ⟨some 4, none, .mov (.const (.bool false)), 0⟩]
def spec_l02Fits_r4 : List SOper := [
 ⟨some 6, none, .mov (.const (.int .i64 0)), 0⟩]
def spec_l02Fits_r5 : List SOper := [
 ⟨some 43, none, .mov (.tmp 6), 0⟩,
 ⟨some 44, none, .mov (.tmp 0), 0⟩,
 ⟨some 45, none, .nilCheck (.tmp 44), 2⟩,
 ⟨some 46, none, .fieldAddr 1 (.tmp 45), 6⟩,
 ⟨some 47, none, .load1 (.tmp 46), 14⟩,
 ⟨some 48, none, .bin .lss .other (.tmp 43) (.tmp 47), 31⟩,
 ⟨some 49, none, .mov (.tmp 48), 63⟩,
  ⟨(some 50), (some (49, true)), .mov (.tmp 0), 127⟩,
  ⟨(some 51), (some (49, true)), .nilCheck (.tmp 50), 255⟩,
  ⟨(some 52), (some (49, true)), .fieldAddr 2 (.tmp 51), 511⟩,
  ⟨(some 53), (some (49, true)), .load1 (.tmp 52), 1023⟩,
  ⟨(some 54), (some (49, true)), .un .not (.tmp 53), 2047⟩,
 ⟨some 55, none, .pick (.tmp 49) (.tmp 54) (.const (.bool false)), 4095⟩]
def spec_l02Fits_r6 : List SOper := [
 ⟨some 7, none, .mov (.const (.int .i64 0)), 0⟩]
def spec_l02Fits_r7 : List SOper := [
 ⟨some 58, none, .mov (.tmp 7), 0⟩,
 ⟨some 59, none, .mov (.tmp 0), 0⟩,
 ⟨some 60, none, .nilCheck (.tmp 59), 2⟩,
 ⟨some 61, none, .fieldAddr 0 (.tmp 60), 6⟩,
 ⟨some 62, none, .load1 (.tmp 61), 14⟩,
 ⟨some 63, none, .bin .lss .other (.tmp 58) (.tmp 62), 31⟩]
def spec_l02Fits_r8 : List SOper := [
 ⟨some 66, none, .mov (.tmp 7), 0⟩,
 ⟨some 67, none, .mov (.tmp 0), 0⟩,
 ⟨some 68, none, .nilCheck (.tmp 67), 2⟩,
 ⟨some 69, none, .fieldAddr 0 (.tmp 68), 6⟩,
 ⟨some 70, none, .load1 (.tmp 69), 14⟩,
 ⟨some 71, none, .mov (.tmp 6), 0⟩,
 ⟨some 72, none, .bin .mul .other (.tmp 70) (.tmp 71), 62⟩,
 ⟨some 73, none, .bin .add .other (.tmp 66) (.tmp 72), 127⟩,
 ⟨some 8, none, .mov (.tmp 73), 255⟩]
def spec_l02Fits_r9 (i_spec_l02Border : FuncId) : List SOper := [
 ⟨some 74, none, .mov (.tmp 0), 0⟩,
 ⟨some 75, none, .mov (.tmp 7), 0⟩,
 ⟨some 76, none, .mov (.tmp 6), 0⟩,
 ⟨some 77, none, .call (.func i_spec_l02Border) [(.tmp 74), (.tmp 75), (.tmp 76)], 7⟩,
 ⟨some 78, none, .mov (.tmp 77), 15⟩,
  ⟨(some 79), (some (78, true)), .mov (.tmp 1), 31⟩,
  ⟨(some 80), (some (78, true)), .nilCheck (.tmp 79), 63⟩,
  ⟨(some 81), (some (78, true)), .fieldAddr 0 (.tmp 80), 127⟩,
  ⟨(some 82), (some (78, true)), .load1 (.tmp 81), 255⟩,
  ⟨(some 83), (some (78, true)), .mov (.tmp 8), 31⟩,
  ⟨(some 84), (some (78, true)), .indexAddrS 1 (.tmp 82) (.tmp 83), 1023⟩,
  ⟨(some 85), (some (78, true)), .load1 (.tmp 84), 2047⟩,
  ⟨(some 86), (some (78, true)), .bin .neq .other (.tmp 85) (.const (.float .f32 0)), 4095⟩,
 ⟨some 87, none, .pick (.tmp 78) (.tmp 86) (.const (.bool false)), 8191⟩,
 ⟨some 88, none, .mov (.tmp 87), 16383⟩,
  ⟨(some 89), (some (88, false)), .mov (.tmp 6), 32767⟩,
  ⟨(some 90), (some (88, false)), .mov (.tmp 0), 32767⟩,
  ⟨(some 91), (some (88, false)), .nilCheck (.tmp 90), 98303⟩,
  ⟨(some 92), (some (88, false)), .fieldAddr 1 (.tmp 91), 229375⟩,
  ⟨(some 93), (some (88, false)), .load1 (.tmp 92), 491519⟩,
  ⟨(some 94), (some (88, false)), .bin .sub .other (.tmp 93) (.const (.int .i64 1)), 1015807⟩,
  ⟨(some 95), (some (88, false)), .bin .eql .other (.tmp 89) (.tmp 94), 2097151⟩,
  ⟨(some 96), (some (88, false)), .mov (.tmp 95), 4194303⟩,
  ⟨(some 97), (some (96, true)), .mov (.tmp 1), 8388607⟩,
  ⟨(some 98), (some (96, true)), .nilCheck (.tmp 97), 16777215⟩,
  ⟨(some 99), (some (96, true)), .fieldAddr 1 (.tmp 98), 33554431⟩,
  ⟨(some 100), (some (96, true)), .load1 (.tmp 99), 67108863⟩,
  ⟨(some 101), (some (96, true)), .mov (.tmp 8), 8388607⟩,
  ⟨(some 102), (some (96, true)), .indexAddrS 1 (.tmp 100) (.tmp 101), 268435455⟩,
  ⟨(some 103), (some (96, true)), .load1 (.tmp 102), 536870911⟩,
  ⟨(some 104), (some (96, true)), .bin .neq .other (.tmp 103) (.const (.float .f32 0)), 1073741823⟩,
  ⟨(some 105), (some (88, false)), .pick (.tmp 96) (.tmp 104) (.const (.bool false)), 2147483647⟩,
 ⟨some 106, none, .pick (.tmp 88) (.const (.bool true)) (.tmp 105), 4294967295⟩,
 ⟨some 107, none, .mov (.tmp 106), 8589934591⟩,
  ⟨(some 108), (some (107, false)), .mov (.tmp 7), 17179869183⟩,
  ⟨(some 109), (some (107, false)), .mov (.tmp 0), 17179869183⟩,
  ⟨(some 110), (some (107, false)), .nilCheck (.tmp 109), 51539607551⟩,
  ⟨(some 111), (some (107, false)), .fieldAddr 0 (.tmp 110), 120259084287⟩,
  ⟨(some 112), (some (107, false)), .load1 (.tmp 111), 257698037759⟩,
  ⟨(some 113), (some (107, false)), .bin .sub .other (.tmp 112) (.const (.int .i64 1)), 532575944703⟩,
  ⟨(some 114), (some (107, false)), .bin .eql .other (.tmp 108) (.tmp 113), 1099511627775⟩,
  ⟨(some 115), (some (107, false)), .mov (.tmp 114), 2199023255551⟩,
  ⟨(some 116), (some (115, true)), .mov (.tmp 1), 4398046511103⟩,
  ⟨(some 117), (some (115, true)), .nilCheck (.tmp 116), 8796093022207⟩,
  ⟨(some 118), (some (115, true)), .fieldAddr 2 (.tmp 117), 17592186044415⟩,
  ⟨(some 119), (some (115, true)), .load1 (.tmp 118), 35184372088831⟩,
  ⟨(some 120), (some (115, true)), .mov (.tmp 8), 4398046511103⟩,
  ⟨(some 121), (some (115, true)), .indexAddrS 1 (.tmp 119) (.tmp 120), 140737488355327⟩,
  ⟨(some 122), (some (115, true)), .load1 (.tmp 121), 281474976710655⟩,
  ⟨(some 123), (some (115, true)), .bin .neq .other (.tmp 122) (.const (.float .f32 0)), 562949953421311⟩,
  ⟨(some 124), (some (107, false)), .pick (.tmp 115) (.tmp 123) (.const (.bool false)), 1125899906842623⟩,
 ⟨some 125, none, .pick (.tmp 107) (.const (.bool true)) (.tmp 124), 2251799813685247⟩]
def spec_l02Fits_r10 : List SOper := [
 ⟨some 4, none, .mov (.const (.bool false)), 0⟩]
def spec_l02Fits_r11 : List SOper := [
 ⟨some 64, none, .mov (.tmp 7), 0⟩,
 ⟨some 65, none, .bin .add .other (.tmp 64) (.const (.int .i64 1)), 1⟩,
 ⟨some 7, none, .mov (.tmp 65), 3⟩]
def spec_l02Fits_l12 (i_spec_l02Border : FuncId) : SCode := (.kp [0,1,6,7] (.seq (.seq (.region spec_l02Fits_r7 false) (.kp [0,1,6,7,63] (.cond (.tmp 63) .skip (.exit 2)))) (.kp [0,1,6,7] (.seq (.block 3 (.seq (.region spec_l02Fits_r8 false) (.kp [0,1,6,7,8] (.seq (.region (spec_l02Fits_r9 i_spec_l02Border) false) (.kp [0,1,6,7,125] (.cond (.tmp 125) (.seq (.region spec_l02Fits_r10 false) .ret) .skip)))))) (.kp [0,1,6,7] (.region spec_l02Fits_r11 false))))))
def spec_l02Fits_r13 : List SOper := [
 ⟨some 56, none, .mov (.tmp 6), 0⟩,
 ⟨some 57, none, .bin .add .other (.tmp 56) (.const (.int .i64 1)), 1⟩,
 ⟨some 6, none, .mov (.tmp 57), 3⟩]
def spec_l02Fits_l14 (i_spec_l02Border : FuncId) : SCode := (.kp [0,1,6] (.seq (.seq (.region spec_l02Fits_r5 false) (.kp [0,1,6,55] (.cond (.tmp 55) .skip (.exit 0)))) (.kp [0,1,6] (.seq (.block 1 (.seq (.region spec_l02Fits_r6 false) (.kp [0,1,6,7] (.block 2 (.loop (spec_l02Fits_l12 i_spec_l02Border)))))) (.kp [0,1,6] (.region spec_l02Fits_r13 false))))))
def spec_l02Fits_r15 : List SOper := [
 ⟨some 4, none, .mov (.const (.bool true)), 0⟩]
def spec_l02Fits (i_spec_l02Border : FuncId) : SFunc := ⟨126, [.tmp 4], (.kp [0,1] (.seq (.region spec_l02Fits_r0 false) (.kp [0,1] (.seq (.region spec_l02Fits_r1 true) (.kp [0,1,5] (.seq (.seq (.region spec_l02Fits_r2 false) (.kp [0,1,42] (.cond (.tmp 42) (.seq (.region spec_l02Fits_r3 false) .ret) .skip))) (.kp [0,1] (.seq (.seq (.region spec_l02Fits_r4 false) (.kp [0,1,6] (.block 0 (.loop (spec_l02Fits_l14 i_spec_l02Border))))) (.kp [] (.seq (.region spec_l02Fits_r15 false) .ret))))))))))⟩
theorem spec_l02Fits_r1_dr : drawOkW wStat spec_l02Fits_r1 = true := by kernel_rfl
attribute [push_cast] spec_l02Fits_r1_dr
theorem mod_at {W y x : Nat} (hx : x < W) : (W * y + x) % W = x := by rw [Nat.mul_add_mod, Nat.mod_eq_of_lt hx]
theorem div_at {W y x : Nat} (hx : x < W) : (W * y + x) / W = y := by
  rw [Nat.mul_add_div (by omega), Nat.div_eq_of_lt hx, Nat.add_zero]
theorem badC_at {W H y x : Nat} {wr : Bool} {e fx fy : List Nat} (hx : x < W) : badC W H wr e fx fy (((W * y + x : Nat) : Int) % (W : Int)) (((W * y + x : Nat) : Int) / (W : Int)) (W * y + x) = badC W H wr e fx fy x y (W * y + x) := by
  rw [← Int.natCast_emod, ← Int.natCast_ediv, mod_at hx, div_at hx]
theorem cell_lt {W H x y : Nat} (hx : x < W) (hy : y < H) : W * y + x < W * H := by
  calc W * y + x < W * y + W := by omega
    _ = W * (y + 1) := (Nat.mul_succ W y).symm
    _ ≤ W * H := Nat.mul_le_mul_left W hy
/-- What is to be known of a cell's index. -/
theorem cell_ix {W H x y : Nat} (hx : x < W) (hy : y < H) : (x : Int) + (W : Int) * (y : Int) < (W : Int) * (H : Int) ∧ 0 ≤ (W : Int) * (y : Int) ∧ ((x : Int) + (W : Int) * (y : Int)).toNat = W * y + x ∧ (W : Int) * (y : Int) ≤ (W : Int) * (H : Int) := by
  have h := cell_lt hx hy
  have e1 : ((W * y : Nat) : Int) = (W : Int) * (y : Int) := Int.natCast_mul _ _
  have e2 : ((W * H : Nat) : Int) = (W : Int) * (H : Int) := Int.natCast_mul _ _
  have h2 : W * y ≤ W * H := Nat.mul_le_mul_left W (Nat.le_of_lt hy)
  omega

def spec_l02Fits_ok (c : Contract) : Prop := ∀ (σ : Heap) (b o p q : Nat) (W H : Nat) (wr : Bool) (sv lv ev xv yv : Value) (e x y : List Nat), PtAt σ b o [.int .i64 W, .int .i64 H, .bool wr, sv, lv] → PtAt σ p q [ev, xv, yv] → FlR σ ev xv yv e x y →
    e.length ≤ 1048576 → x.length ≤ 1048576 → y.length ≤ 1048576 → 3 ≤ W → W ≤ 16 → 3 ≤ H → H ≤ 16 → (W : Int) * (H : Int) ≤ 256 →
    Ret c [.pointer (some ⟨b, o, none⟩), .pointer (some ⟨p, q, none⟩)] σ fun v σ' => v = .bool (fits W H wr e x y) ∧ σ' = σ
theorem spec_l02Fits_law {C : Ctab} {i : FuncId} {c : Contract} (h1 : Has C i c spec_l02Border_ok) : spec_l02Fits_ok (gcC C (spec_l02Fits i) true) := by
  intro σ b o p q W H wr sv lv ev xv yv e fx fy hp1 hp2 hf hm1 hm2 hm3 a1 a2 a3 a4 a5
  obtain ⟨r3, r4, r5⟩ := hf
  have hWH : ((W * H : Nat) : Int) = (W : Int) * (H : Int) := Int.natCast_mul _ _
  refine ret_gc rfl rfl ?_
  repeat' (first | refine ff ?_ | ((first | refine sR ?_ ?_ | refine sC ?_ ?_) <;> (intro hb; (try rw [hb]); (try simp only [bb] at hb); (try (exfalso; first | omega | exact hb trivial)))) | (apply endS trivial; rotate_left; (· exact eva); (· rfl); try refine ⟨?_, rfl⟩) | fail)
  all_goals try (rw [fits_len (by omega)]; done)
  refine Ev.whlC (S := Nat) (fun i => H - i) (fun i => [(6, .int .i64 i)]) (fun y => y ≤ H ∧ (wr = false → ∀ j, j < W * y → badC W H false e fx fy ((j : Int) % W) ((j : Int) / W) j = false)) 0 (by exact tF) ⟨Nat.zero_le _, fun _ j hj => by omega⟩ ?_
  rintro y F hF ⟨hi, hp⟩
  (simp only [List.cons_append, List.nil_append, ↓fget_cons, fkeep_cons, fkeep_nil, Nat.reduceEqDiff, reduceIte] at hF; subst hF)
  by_cases hlt : y < H
  · cases wr
    · repeat' (first | refine ff ?_ | ((first | refine sR ?_ ?_ | refine sC ?_ ?_) <;> (intro hb; (try rw [hb]); (try simp only [bb] at hb); (try (exfalso; first | omega | exact hb trivial)))) | (apply endS trivial; rotate_left; (· exact eva); (· rfl); try refine ⟨?_, rfl⟩) | fail)
      refine Ev.whlC (S := Nat) (fun x => W - x) (fun x => [(7, .int .i64 x)]) (fun x => x ≤ W ∧ ∀ j, j < W * y + x → badC W H false e fx fy ((j : Int) % W) ((j : Int) / W) j = false) 0 (by exact tF) ⟨Nat.zero_le _, fun j hj => hp rfl j (by omega)⟩ ?_
      rintro x F hF ⟨hi2, hp2⟩
      (simp only [List.cons_append, List.nil_append, ↓fget_cons, fkeep_cons, fkeep_nil, Nat.reduceEqDiff, reduceIte] at hF; subst hF)
      by_cases hlt2 : x < W
      · obtain ⟨c1, c2, c3, c4⟩ := cell_ix hlt2 hlt
        have c5 := cell_lt hlt2 hlt
        repeat' (first | refine ff ?_ | (apply EvR.aCall h1.at_; (· exact eva); (· apply h1.ok <;> exact sid); (rintro _ _ ⟨rfl, rfl⟩; refine EvR.nrm ?_)) | ((first | refine sR ?_ ?_ | refine sC ?_ ?_) <;> (intro hb; (try rw [hb]); (try simp only [bb] at hb); (try (exfalso; first | omega | exact hb trivial)))) | (apply endS trivial; rotate_left; (· exact eva); (· rfl); try refine ⟨?_, rfl⟩) | fail)
        all_goals first
          | (rw [fits_bad c5 (by rw [badC_at hlt2]; unfold badC; grind)]; done)
          | (refine ⟨x + 1, by omega, by exact tF, rfl, by omega, fun j hj => ?_⟩
             rcases Nat.lt_or_ge j (W * y + x) with hji | hji
             · exact hp2 j hji
             · obtain rfl : j = W * y + x := by omega
               rw [badC_at hlt2]; unfold badC; grind)
      · repeat' (first | refine ff ?_ | ((first | refine sR ?_ ?_ | refine sC ?_ ?_) <;> (intro hb; (try rw [hb]); (try simp only [bb] at hb); (try (exfalso; first | omega | exact hb trivial)))) | (apply endS trivial; rotate_left; (· exact eva); (· rfl); try refine ⟨?_, rfl⟩) | fail)
        exact ⟨y + 1, by omega, by exact tF, rfl, by omega, fun _ j hj => hp2 j (by rw [Nat.mul_succ] at hj; omega)⟩
    · repeat' (first | refine ff ?_ | ((first | refine sR ?_ ?_ | refine sC ?_ ?_) <;> (intro hb; (try rw [hb]); (try simp only [bb] at hb); (try (exfalso; first | omega | exact hb trivial)))) | (apply endS trivial; rotate_left; (· exact eva); (· rfl); try refine ⟨?_, rfl⟩) | fail)
      simp only [fits, Bool.true_or, Bool.and_true]
      simp; omega
  · repeat' (first | refine ff ?_ | ((first | refine sR ?_ ?_ | refine sC ?_ ?_) <;> (intro hb; (try rw [hb]); (try simp only [bb] at hb); (try (exfalso; first | omega | exact hb trivial)))) | (apply endS trivial; rotate_left; (· exact eva); (· rfl); try refine ⟨?_, rfl⟩) | fail)
    cases wr
    · obtain rfl : y = H := by omega
      rw [fits_ok (by omega) (by omega) (by omega) (hp rfl)]
    · simp only [fits, Bool.true_or, Bool.and_true]
      simp; omega

end Go.Abs

