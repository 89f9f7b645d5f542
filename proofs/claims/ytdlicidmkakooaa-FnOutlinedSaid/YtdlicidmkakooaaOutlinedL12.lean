/- Laws of single functions: whether a field is one of a sheet. Conditions: the laws of what they call. -/
import Derived.Test.YtdlicidmkakooaaOutlinedL11
import Derived.Test.YtdlicidmkakooaaOutlinedWvH3
namespace Go.Abs
set_option linter.unusedSimpArgs false
set_option linter.unusedVariables false
set_option maxHeartbeats 8000000
/- loop.example/g01201/impl.IsField -/
def impl_IsField_r0 : List SOper := [
 ⟨some 2, none, .box (.tmp 0), 0⟩,
 ⟨some 3, none, .box (.tmp 1), 0⟩,
 ⟨some 4, none, .mov (.const (.bool false)), 0⟩]
def impl_IsField_r1 : List SOper := [
 ⟨some 9, none, .fieldAddr 0 (.tmp 2), 0⟩,
 ⟨some 10, none, .load1 (.tmp 9), 1⟩,
 ⟨some 11, none, .fieldAddr 1 (.tmp 2), 0⟩,
 ⟨some 12, none, .load1 (.tmp 11), 4⟩,
 ⟨some 13, none, .bin .mul .other (.tmp 10) (.tmp 12), 15⟩,
 ⟨some 5, none, .mov (.tmp 13), 31⟩]
def impl_IsField_r2 (i_impl_ValidSheet : FuncId) : List SOper := [
 ⟨some 14, none, .loadN 5 (.tmp 2), 0⟩,
 ⟨some 15, none, .call (.func i_impl_ValidSheet) [(.tmp 14)], 1⟩,
 ⟨some 16, none, .un .not (.tmp 15), 3⟩,
 ⟨some 17, none, .mov (.tmp 16), 7⟩,
  ⟨(some 18), (some (17, false)), .fieldAddr 0 (.tmp 3), 15⟩,
  ⟨(some 19), (some (17, false)), .load1 (.tmp 18), 31⟩,
  ⟨(some 20), (some (17, false)), .len false (.tmp 19), 63⟩,
  ⟨(some 21), (some (17, false)), .mov (.tmp 5), 15⟩,
  ⟨(some 22), (some (17, false)), .bin .neq .other (.tmp 20) (.tmp 21), 255⟩,
 ⟨some 23, none, .pick (.tmp 17) (.const (.bool true)) (.tmp 22), 511⟩,
 ⟨some 24, none, .mov (.tmp 23), 1023⟩,
  ⟨(some 25), (some (24, false)), .fieldAddr 1 (.tmp 3), 2047⟩,
  ⟨(some 26), (some (24, false)), .load1 (.tmp 25), 4095⟩,
  ⟨(some 27), (some (24, false)), .len false (.tmp 26), 8191⟩,
  ⟨(some 28), (some (24, false)), .mov (.tmp 5), 2047⟩,
  ⟨(some 29), (some (24, false)), .bin .neq .other (.tmp 27) (.tmp 28), 32767⟩,
 ⟨some 30, none, .pick (.tmp 24) (.const (.bool true)) (.tmp 29), 65535⟩,
 ⟨some 31, none, .mov (.tmp 30), 131071⟩,
  ⟨(some 32), (some (31, false)), .fieldAddr 2 (.tmp 3), 262143⟩,
  ⟨(some 33), (some (31, false)), .load1 (.tmp 32), 524287⟩,
  ⟨(some 34), (some (31, false)), .len false (.tmp 33), 1048575⟩,
  ⟨(some 35), (some (31, false)), .mov (.tmp 5), 262143⟩,
  ⟨(some 36), (some (31, false)), .bin .neq .other (.tmp 34) (.tmp 35), 4194303⟩,
 ⟨some 37, none, .pick (.tmp 31) (.const (.bool true)) (.tmp 36), 8388607⟩]
def impl_IsField_r3 : List SOper := [
 ⟨some 4, none, .mov (.const (.bool false)), 0⟩]
def impl_IsField_r4 : List SOper := [
 ⟨some 38, none, .fieldAddr 2 (.tmp 2), 0⟩,
 ⟨some 39, none, .load1 (.tmp 38), 1⟩]
def impl_IsField_r5 : List SOper := [
 ⟨some 4, none, .mov (.const (.bool true)), 0⟩]
def impl_IsField_r6 : List SOper := [
 ⟨some 40, none, .mov (.tmp 5), 0⟩,
 ⟨some 41, none, .mov (.const (.int .i64 0)), 0⟩]
def impl_IsField_r7 : List SOper := [
 ⟨some 42, none, .bin .lss .other (.tmp 41) (.tmp 40), 0⟩]
def impl_IsField_r8 : List SOper := [
 ⟨some 43, none, .mov (.tmp 41), 0⟩,
 ⟨some 6, none, .mov (.tmp 43), 1⟩]
def impl_IsField_r9 : List SOper := [
 ⟨some 44, none, .mov (.tmp 6), 0⟩,
 ⟨some 45, none, .fieldAddr 0 (.tmp 2), 0⟩,
 ⟨some 46, none, .load1 (.tmp 45), 2⟩,
 ⟨some 47, none, .bin .rem .other (.tmp 44) (.tmp 46), 7⟩,
 ⟨some 48, none, .mov (.tmp 6), 0⟩,
 ⟨some 49, none, .fieldAddr 0 (.tmp 2), 0⟩,
 ⟨some 50, none, .load1 (.tmp 49), 32⟩,
 ⟨some 51, none, .bin .quo .other (.tmp 48) (.tmp 50), 112⟩,
 ⟨some 7, none, .mov (.tmp 47), 15⟩,
 ⟨some 8, none, .mov (.tmp 51), 511⟩]
def impl_IsField_r10 (i_impl_Sheet_isBorder : FuncId) : List SOper := [
 ⟨some 52, none, .loadN 5 (.tmp 2), 0⟩,
 ⟨some 53, none, .mov (.tmp 7), 0⟩,
 ⟨some 54, none, .mov (.tmp 8), 0⟩,
 ⟨some 55, none, .call (.func i_impl_Sheet_isBorder) [(.tmp 52), (.tmp 53), (.tmp 54)], 7⟩,
 ⟨some 56, none, .mov (.tmp 55), 15⟩,
  ⟨(some 57), (some (56, true)), .fieldAddr 0 (.tmp 3), 31⟩,
  ⟨(some 58), (some (56, true)), .load1 (.tmp 57), 63⟩,
  ⟨(some 59), (some (56, true)), .mov (.tmp 6), 31⟩,
  ⟨(some 60), (some (56, true)), .indexAddrS 1 (.tmp 58) (.tmp 59), 255⟩,
  ⟨(some 61), (some (56, true)), .load1 (.tmp 60), 511⟩,
  ⟨(some 62), (some (56, true)), .bin .neq .other (.tmp 61) (.const (.float .f32 0)), 1023⟩,
 ⟨some 63, none, .pick (.tmp 56) (.tmp 62) (.const (.bool false)), 2047⟩,
 ⟨some 64, none, .mov (.tmp 63), 4095⟩,
  ⟨(some 65), (some (64, false)), .mov (.tmp 8), 8191⟩,
  ⟨(some 66), (some (64, false)), .fieldAddr 1 (.tmp 2), 8191⟩,
  ⟨(some 67), (some (64, false)), .load1 (.tmp 66), 24575⟩,
  ⟨(some 68), (some (64, false)), .bin .sub .other (.tmp 67) (.const (.int .i64 1)), 57343⟩,
  ⟨(some 69), (some (64, false)), .bin .eql .other (.tmp 65) (.tmp 68), 131071⟩,
  ⟨(some 70), (some (64, false)), .mov (.tmp 69), 262143⟩,
  ⟨(some 71), (some (70, true)), .fieldAddr 1 (.tmp 3), 524287⟩,
  ⟨(some 72), (some (70, true)), .load1 (.tmp 71), 1048575⟩,
  ⟨(some 73), (some (70, true)), .mov (.tmp 6), 524287⟩,
  ⟨(some 74), (some (70, true)), .indexAddrS 1 (.tmp 72) (.tmp 73), 4194303⟩,
  ⟨(some 75), (some (70, true)), .load1 (.tmp 74), 8388607⟩,
  ⟨(some 76), (some (70, true)), .bin .neq .other (.tmp 75) (.const (.float .f32 0)), 16777215⟩,
  ⟨(some 77), (some (64, false)), .pick (.tmp 70) (.tmp 76) (.const (.bool false)), 33554431⟩,
 ⟨some 78, none, .pick (.tmp 64) (.const (.bool true)) (.tmp 77), 67108863⟩,
 ⟨some 79, none, .mov (.tmp 78), 134217727⟩,
  ⟨(some 80), (some (79, false)), .mov (.tmp 7), 268435455⟩,
  ⟨(some 81), (some (79, false)), .fieldAddr 0 (.tmp 2), 268435455⟩,
  ⟨(some 82), (some (79, false)), .load1 (.tmp 81), 805306367⟩,
  ⟨(some 83), (some (79, false)), .bin .sub .other (.tmp 82) (.const (.int .i64 1)), 1879048191⟩,
  ⟨(some 84), (some (79, false)), .bin .eql .other (.tmp 80) (.tmp 83), 4294967295⟩,
  ⟨(some 85), (some (79, false)), .mov (.tmp 84), 8589934591⟩,
  ⟨(some 86), (some (85, true)), .fieldAddr 2 (.tmp 3), 17179869183⟩,
  ⟨(some 87), (some (85, true)), .load1 (.tmp 86), 34359738367⟩,
  ⟨(some 88), (some (85, true)), .mov (.tmp 6), 17179869183⟩,
  ⟨(some 89), (some (85, true)), .indexAddrS 1 (.tmp 87) (.tmp 88), 137438953471⟩,
  ⟨(some 90), (some (85, true)), .load1 (.tmp 89), 274877906943⟩,
  ⟨(some 91), (some (85, true)), .bin .neq .other (.tmp 90) (.const (.float .f32 0)), 549755813887⟩,
  ⟨(some 92), (some (79, false)), .pick (.tmp 85) (.tmp 91) (.const (.bool false)), 1099511627775⟩,
 ⟨some 93, none, .pick (.tmp 79) (.const (.bool true)) (.tmp 92), 2199023255551⟩]
def impl_IsField_r11 : List SOper := [
 ⟨some 4, none, .mov (.const (.bool false)), 0⟩]
def impl_IsField_r12 : List SOper := [
 ⟨some 94, none, .bin .add .other (.tmp 41) (.const (.int .i64 1)), 0⟩,
 ⟨some 41, none, .mov (.tmp 94), 1⟩]
def impl_IsField_l13 (i_impl_Sheet_isBorder : FuncId) : SCode := (.kp [2,3,40,41] (.seq (.region impl_IsField_r7 false) (.kp [2,3,40,41,42] (.seq (.cond (.tmp 42) .skip (.exit 0)) (.kp [2,3,40,41] (.seq (.block 1 (.seq (.region impl_IsField_r8 false) (.kp [2,3,6,40,41] (.seq (.region impl_IsField_r9 true) (.kp [2,3,6,7,8,40,41] (.seq (.region (impl_IsField_r10 i_impl_Sheet_isBorder) false) (.kp [2,3,40,41,93] (.cond (.tmp 93) (.seq (.region impl_IsField_r11 false) .ret) .skip)))))))) (.kp [2,3,40,41] (.region impl_IsField_r12 false))))))))
def impl_IsField_r14 : List SOper := [
 ⟨some 4, none, .mov (.const (.bool true)), 0⟩]
def impl_IsField (i_impl_ValidSheet i_impl_Sheet_isBorder : FuncId) : SFunc := ⟨95, [.tmp 4], (.kp [0,1] (.seq (.region impl_IsField_r0 false) (.kp [2,3] (.seq (.region impl_IsField_r1 false) (.kp [2,3,5] (.seq (.seq (.region (impl_IsField_r2 i_impl_ValidSheet) false) (.kp [2,3,5,37] (.cond (.tmp 37) (.seq (.region impl_IsField_r3 false) .ret) .skip))) (.kp [2,3,5] (.seq (.seq (.region impl_IsField_r4 false) (.kp [2,3,5,39] (.cond (.tmp 39) (.seq (.region impl_IsField_r5 false) .ret) .skip))) (.kp [2,3,5] (.seq (.seq (.region impl_IsField_r6 false) (.kp [2,3,40,41] (.block 0 (.loop (impl_IsField_l13 i_impl_Sheet_isBorder))))) (.kp [] (.seq (.region impl_IsField_r14 false) .ret))))))))))))⟩
theorem impl_IsField_r9_dr : drawOkW wStat impl_IsField_r9 = true := by kernel_rfl
attribute [push_cast] impl_IsField_r9_dr
theorem tmod_nn {a b : Int} (h : 0 ≤ a) : a.tmod b = a % b := Int.tmod_eq_emod_of_nonneg h
theorem tdiv_nn {a b : Int} (h : 0 ≤ a) : a.tdiv b = a / b := Int.tdiv_eq_ediv_of_nonneg h
attribute [push_cast] tmod_nn tdiv_nn Int.toNat_natCast
/-- Whether a cell of a field is not as it is to be. -/
def badC (w h : Int) (wr : Bool) (e x y : List Nat) (cx cy : Int) (i : Nat) : Bool :=
  (border w h wr cx cy && !feq .f32 (e.getD i 0) 0 || decide (cy = h - 1) && !feq .f32 (x.getD i 0) 0) || decide (cx = w - 1) && !feq .f32 (y.getD i 0) 0
/-- Whether a field fits a sheet. -/
def fits (W H : Nat) (wr : Bool) (e x y : List Nat) : Bool :=
  decide (e.length = W * H) && decide (x.length = W * H) && decide (y.length = W * H) && (wr || (List.range (W * H)).all fun i => !badC W H wr e x y ((i : Int) % W) ((i : Int) / W) i)
def isField (w h : Int) (wr : Bool) (sp lo e x y : List Nat) : Bool := isSheet w h sp lo && fits w.toNat h.toNat wr e x y
theorem isField_bad {w h : Int} {wr : Bool} {sp lo e x y : List Nat} (hs : isSheet w h sp lo = false) : isField w h wr sp lo e x y = false := by simp [isField, hs]

theorem cell_bd2 {W H i : Nat} (h : i < W * H) (hW : 3 ≤ W) : 0 ≤ (i : Int) % W ∧ (i : Int) % W < W ∧ 0 ≤ (i : Int) / W ∧ (i : Int) / W < H := by
  have h1 : i % W < W := Nat.mod_lt _ (by omega)
  have h2 : i / W < H := Nat.div_lt_of_lt_mul h
  have h3 : 0 ≤ (i : Int) / (W : Int) := Int.ediv_nonneg (by omega) (by omega)
  have h4 : 0 ≤ (i : Int) % (W : Int) := Int.emod_nonneg _ (by omega)
  have e1 : ((i % W : Nat) : Int) = (i : Int) % W := Int.natCast_emod i W
  have e2 : ((i / W : Nat) : Int) = (i : Int) / W := Int.natCast_ediv i W
  omega

theorem fits_len {W H : Nat} {wr : Bool} {e x y : List Nat} (h : ¬ (e.length = W * H ∧ x.length = W * H ∧ y.length = W * H)) : fits W H wr e x y = false := by
  by_cases h1 : e.length = W * H <;> by_cases h2 : x.length = W * H <;> by_cases h3 : y.length = W * H <;> simp_all [fits]

theorem fits_bad {W H : Nat} {e x y : List Nat} {i : Nat} (hi : i < W * H) (h : badC W H false e x y ((i : Int) % W) ((i : Int) / W) i = true) : fits W H false e x y = false := by
  have : ((List.range (W * H)).all fun i => !badC W H false e x y ((i : Int) % W) ((i : Int) / W) i) = false := by
    rw [List.all_eq_false]
    exact ⟨i, List.mem_range.2 hi, by simp [h]⟩
  simp [fits, this]
theorem fits_ok {W H : Nat} {e x y : List Nat} (h1 : e.length = W * H) (h2 : x.length = W * H) (h3 : y.length = W * H) (h : ∀ i, i < W * H → badC W H false e x y ((i : Int) % W) ((i : Int) / W) i = false) : fits W H false e x y = true := by
  have : ((List.range (W * H)).all fun i => !badC W H false e x y ((i : Int) % W) ((i : Int) / W) i) = true := by
    rw [List.all_eq_true]
    intro i hi
    simp [h i (List.mem_range.1 hi)]
  simp [fits, this, h1, h2, h3]

def impl_IsField_ok (c : Contract) : Prop := ∀ (σ : Heap) (w h : Int) (wr : Bool) (sv lv : Value) (sp lo : List Nat) (ev xv yv : Value) (e x y : List Nat), ShR σ sv lv sp lo → sp.length ≤ 1048576 → lo.length ≤ 1048576 → FlR σ ev xv yv e x y → e.length ≤ 1048576 → x.length ≤ 1048576 → y.length ≤ 1048576 →
    Ret c [shV w h wr sv lv, fV ev xv yv] σ fun v σ' => v = .bool (isField w h wr sp lo e x y) ∧ σ' = σ
theorem impl_IsField_law {C : Ctab} {i j : FuncId} {c d : Contract} (h1 : Has C i c impl_ValidSheet_ok) (h2 : Has C j d impl_Sheet_isBorder_ok) : impl_IsField_ok (gcC C (impl_IsField i j) true) := by
  intro σ w h wr sv lv sp lo ev xv yv e x y hr hn1 hn2 hf hm1 hm2 hm3
  obtain ⟨r1, r2⟩ := hr
  obtain ⟨r3, r4, r5⟩ := hf
  cases hs : isSheet w h sp lo
  · rw [isField_bad hs]
    refine ret_gc rfl rfl ?_
    repeat' (first | refine ff ?_ | (apply EvR.aCall h1.at_; (· exact eva); (· apply h1.ok <;> exact sid); (rintro _ _ ⟨rfl, rfl⟩; refine EvR.nrm ?_; try simp only [hs])) | ((first | refine sR ?_ ?_ | refine sC ?_ ?_) <;> (intro hb; (try rw [hb]); (try simp only [bb] at hb); (try (exfalso; first | omega | exact hb trivial)))) | (apply endS trivial; rotate_left; (· exact eva); (· rfl); try refine ⟨?_, rfl⟩) | fail)
    rfl
  obtain ⟨a1, a2, a3, a4, q1, q2⟩ := isSheet_sides hs
  obtain ⟨W, rfl⟩ := Int.eq_ofNat_of_zero_le (show 0 ≤ w by omega)
  obtain ⟨H, rfl⟩ := Int.eq_ofNat_of_zero_le (show 0 ≤ h by omega)
  have hWH : ((W * H : Nat) : Int) = (W : Int) * (H : Int) := Int.natCast_mul _ _
  have hb : W * H ≤ 1048576 := by omega
  have hf : isField W H wr sp lo e x y = fits W H wr e x y := by simp [isField, hs]
  rw [hf]
  refine ret_gc rfl rfl ?_
  repeat' (first | refine ff ?_ | (apply EvR.aCall h1.at_; (· exact eva); (· apply h1.ok <;> exact sid); (rintro _ _ ⟨rfl, rfl⟩; refine EvR.nrm ?_; try simp only [hs])) | ((first | refine sR ?_ ?_ | refine sC ?_ ?_) <;> (intro hb; (try rw [hb]); (try simp only [bb] at hb); (try (exfalso; first | omega | exact hb trivial)))) | (apply endS trivial; rotate_left; (· exact eva); (· rfl); try refine ⟨?_, rfl⟩) | fail)
  all_goals try (rw [fits_len (by omega)]; done)
  · simp only [fits, Bool.true_or, Bool.and_true]
    simp; omega
  · refine Ev.whlC (S := Nat) (fun i => W * H - i) (fun i => [(41, .int .i64 i)]) (fun i => i ≤ W * H ∧ ∀ j, j < i → badC W H false e x y ((j : Int) % W) ((j : Int) / W) j = false) 0 (by exact tF) ⟨Nat.zero_le _, fun j hj => by omega⟩ ?_
    rintro i F hF ⟨hi, hp⟩
    (simp only [List.cons_append, List.nil_append, ↓fget_cons, fkeep_cons, fkeep_nil, Nat.reduceEqDiff, reduceIte] at hF; subst hF)
    by_cases hlt : i < W * H
    · obtain ⟨d1, d2, d3, d4⟩ := cell_bd2 hlt (by omega)
      repeat' (first | refine ff ?_ | (apply EvR.aCall h2.at_; (· exact eva); (· apply h2.ok <;> exact sid); (rintro _ _ ⟨rfl, rfl⟩; refine EvR.nrm ?_)) | ((first | refine sR ?_ ?_ | refine sC ?_ ?_) <;> (intro hb; (try rw [hb]); (try simp only [bb] at hb); (try (exfalso; first | omega | exact hb trivial)))) | (apply endS trivial; rotate_left; (· exact eva); (· rfl); try refine ⟨?_, rfl⟩) | fail)
      all_goals first
        | (rw [fits_bad hlt (by unfold badC; grind)]; done)
        | (refine ⟨i + 1, by omega, by exact tF, rfl, by omega, fun j hj => ?_⟩
           rcases Nat.lt_or_ge j i with hji | hji
           · exact hp j hji
           · obtain rfl : j = i := by omega
             unfold badC; grind)
    · repeat' (first | refine ff ?_ | ((first | refine sR ?_ ?_ | refine sC ?_ ?_) <;> (intro hb; (try rw [hb]); (try simp only [bb] at hb); (try (exfalso; first | omega | exact hb trivial)))) | (apply endS trivial; rotate_left; (· exact eva); (· rfl); try refine ⟨?_, rfl⟩) | fail)
      rw [fits_ok (by omega) (by omega) (by omega) (fun j hj => hp j (by omega))]
end Go.Abs

