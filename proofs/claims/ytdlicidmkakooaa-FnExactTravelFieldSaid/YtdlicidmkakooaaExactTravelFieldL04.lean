/- Laws of single functions: cells of sheets, comparisons of rows. Conditions: the laws of what they call. -/
import Derived.Test.YtdlicidmkakooaaExactTravelFieldL03
namespace Go.Abs

set_option linter.unusedSimpArgs false
set_option linter.unusedVariables false
set_option maxHeartbeats 8000000
/- (loop.example/g01201/impl.Sheet).at -/
def impl_Sheet_at_r0 : List SOper := [
 ⟨some 3, none, .box (.tmp 0), 0⟩,
 ⟨some 6, none, .mov (.const (.int .i64 0)), 0⟩]
def impl_Sheet_at_r1 : List SOper := [
 ⟨some 7, none, .mov (.tmp 1), 0⟩,
 ⟨some 8, none, .fieldAddr 0 (.tmp 3), 0⟩,
 ⟨some 9, none, .load1 (.tmp 8), 2⟩,
 ⟨some 10, none, .bin .add .other (.tmp 7) (.tmp 9), 7⟩,
 ⟨some 11, none, .fieldAddr 0 (.tmp 3), 0⟩,
 ⟨some 12, none, .load1 (.tmp 11), 16⟩,
 ⟨some 13, none, .bin .rem .other (.tmp 10) (.tmp 12), 63⟩,
 ⟨some 14, none, .fieldAddr 0 (.tmp 3), 0⟩,
 ⟨some 15, none, .load1 (.tmp 14), 128⟩,
 ⟨some 16, none, .mov (.tmp 2), 0⟩,
 ⟨some 17, none, .fieldAddr 1 (.tmp 3), 0⟩,
 ⟨some 18, none, .load1 (.tmp 17), 1024⟩,
 ⟨some 19, none, .bin .add .other (.tmp 16) (.tmp 18), 3584⟩,
 ⟨some 20, none, .fieldAddr 1 (.tmp 3), 0⟩,
 ⟨some 21, none, .load1 (.tmp 20), 8192⟩,
 ⟨some 22, none, .bin .rem .other (.tmp 19) (.tmp 21), 32256⟩,
 ⟨some 23, none, .bin .mul .other (.tmp 15) (.tmp 22), 65408⟩,
 ⟨some 24, none, .bin .add .other (.tmp 13) (.tmp 23), 131071⟩,
 ⟨some 6, none, .mov (.tmp 24), 262143⟩]
def impl_Sheet_at : SFunc := ⟨25, [.tmp 6], (.kp [0,1,2] (.seq (.region impl_Sheet_at_r0 false) (.kp [1,2,3] (.seq (.region impl_Sheet_at_r1 true) .ret))))⟩
theorem impl_Sheet_at_r1_dr : drawOkW wStat impl_Sheet_at_r1 = true := by kernel_rfl
attribute [push_cast] impl_Sheet_at_r1_dr
/- loop.example/g01201/laws.sameFloat -/
def laws_sameFloat_r0 : List SOper := [
 ⟨some 4, none, .mov (.const (.bool false)), 0⟩]
def laws_sameFloat_r1 : List SOper := [
 ⟨some 5, none, .mov (.tmp 0), 0⟩,
 ⟨some 6, none, .mov (.tmp 0), 0⟩,
 ⟨some 7, none, .bin .neq .other (.tmp 5) (.tmp 6), 3⟩,
 ⟨some 8, none, .mov (.tmp 7), 7⟩,
  ⟨(some 9), (some (8, false)), .mov (.tmp 1), 15⟩,
  ⟨(some 10), (some (8, false)), .mov (.tmp 1), 15⟩,
  ⟨(some 11), (some (8, false)), .bin .neq .other (.tmp 9) (.tmp 10), 63⟩,
 ⟨some 12, none, .pick (.tmp 8) (.const (.bool true)) (.tmp 11), 127⟩]
def laws_sameFloat_r2 : List SOper := [
 ⟨some 13, none, .mov (.tmp 0), 0⟩,
 ⟨some 14, none, .mov (.tmp 0), 0⟩,
 ⟨some 15, none, .bin .neq .other (.tmp 13) (.tmp 14), 3⟩,
 ⟨some 16, none, .mov (.tmp 15), 7⟩,
  ⟨(some 17), (some (16, true)), .mov (.tmp 1), 15⟩,
  ⟨(some 18), (some (16, true)), .mov (.tmp 1), 15⟩,
  ⟨(some 19), (some (16, true)), .bin .neq .other (.tmp 17) (.tmp 18), 63⟩,
 ⟨some 20, none, .pick (.tmp 16) (.tmp 19) (.const (.bool false)), 127⟩,
 ⟨some 4, none, .mov (.tmp 20), 255⟩]
def laws_sameFloat_r3 : List SOper := [
 ⟨some 21, none, .mov (.tmp 0), 0⟩,
 ⟨some 22, none, .bin .eql .other (.tmp 21) (.const (.float .f64 0)), 1⟩,
 ⟨some 23, none, .mov (.tmp 22), 3⟩,
  ⟨(some 24), (some (23, true)), .mov (.tmp 1), 7⟩,
  ⟨(some 25), (some (23, true)), .bin .eql .other (.tmp 24) (.const (.float .f64 0)), 15⟩,
 ⟨some 26, none, .pick (.tmp 23) (.tmp 25) (.const (.bool false)), 31⟩]
def laws_sameFloat_r4 : List SOper := [
 ⟨some 27, none, .mov (.tmp 0), 0⟩,
 ⟨some 28, none, .bin .quo .other (.const (.float .f64 4607182418800017408)) (.tmp 27), 1⟩,
 ⟨some 29, none, .bin .gtr .other (.tmp 28) (.const (.float .f64 0)), 3⟩,
 ⟨some 30, none, .mov (.tmp 1), 0⟩,
 ⟨some 31, none, .bin .quo .other (.const (.float .f64 4607182418800017408)) (.tmp 30), 8⟩,
 ⟨some 32, none, .bin .gtr .other (.tmp 31) (.const (.float .f64 0)), 24⟩,
 ⟨some 33, none, .bin .eql .bool (.tmp 29) (.tmp 32), 63⟩,
 ⟨some 4, none, .mov (.tmp 33), 127⟩]
def laws_sameFloat_r5 : List SOper := [
 ⟨some 34, none, .mov (.tmp 0), 0⟩,
 ⟨some 35, none, .mov (.tmp 1), 0⟩,
 ⟨some 36, none, .bin .eql .other (.tmp 34) (.tmp 35), 3⟩,
 ⟨some 4, none, .mov (.tmp 36), 7⟩]
def laws_sameFloat : SFunc := ⟨37, [.tmp 4], (.kp [0,1] (.seq (.region laws_sameFloat_r0 false) (.kp [0,1] (.seq (.seq (.region laws_sameFloat_r1 false) (.kp [0,1,12] (.cond (.tmp 12) (.seq (.region laws_sameFloat_r2 false) .ret) .skip))) (.kp [0,1] (.seq (.seq (.region laws_sameFloat_r3 false) (.kp [0,1,26] (.cond (.tmp 26) (.seq (.region laws_sameFloat_r4 false) .ret) .skip))) (.kp [0,1] (.seq (.region laws_sameFloat_r5 false) .ret))))))))⟩

/- loop.example/g01201/laws.eqFloat32S -/
def laws_eqFloat32S_r0 : List SOper := [
 ⟨some 4, none, .mov (.const (.bool false)), 0⟩]
def laws_eqFloat32S_r1 : List SOper := [
 ⟨some 6, none, .mov (.tmp 0), 0⟩,
 ⟨some 7, none, .len false (.tmp 6), 1⟩,
 ⟨some 8, none, .mov (.tmp 1), 0⟩,
 ⟨some 9, none, .len false (.tmp 8), 4⟩,
 ⟨some 10, none, .bin .neq .other (.tmp 7) (.tmp 9), 15⟩]
def laws_eqFloat32S_r2 : List SOper := [
 ⟨some 4, none, .mov (.const (.bool false)), 0⟩]
def laws_eqFloat32S_r3 : List SOper := [
 ⟨some 5, none, .mov (.const (.int .i64 0)), 0⟩]
def laws_eqFloat32S_r4 : List SOper := [
 ⟨some 11, none, .mov (.tmp 5), 0⟩,
 ⟨some 12, none, .mov (.tmp 0), 0⟩,
 ⟨some 13, none, .len false (.tmp 12), 2⟩,
 ⟨some 14, none, .bin .lss .other (.tmp 11) (.tmp 13), 7⟩]
def laws_eqFloat32S_r5 (i_laws_sameFloat : FuncId) : List SOper := [
 ⟨some 17, none, .mov (.tmp 0), 0⟩,
 ⟨some 18, none, .mov (.tmp 5), 0⟩,
 ⟨some 19, none, .indexAddrS 1 (.tmp 17) (.tmp 18), 3⟩,
 ⟨some 20, none, .load1 (.tmp 19), 7⟩,
 ⟨some 21, none, .conv (.toFloat .f64) (.tmp 20), 15⟩,
 ⟨some 22, none, .mov (.tmp 1), 0⟩,
 ⟨some 23, none, .mov (.tmp 5), 0⟩,
 ⟨some 24, none, .indexAddrS 1 (.tmp 22) (.tmp 23), 96⟩,
 ⟨some 25, none, .load1 (.tmp 24), 224⟩,
 ⟨some 26, none, .conv (.toFloat .f64) (.tmp 25), 480⟩,
 ⟨some 27, none, .call (.func i_laws_sameFloat) [(.tmp 21), (.tmp 26)], 1023⟩,
 ⟨some 28, none, .un .not (.tmp 27), 2047⟩]
def laws_eqFloat32S_r6 : List SOper := [
 ⟨some 4, none, .mov (.const (.bool false)), 0⟩]
def laws_eqFloat32S_r7 : List SOper := [
 ⟨some 15, none, .mov (.tmp 5), 0⟩,
 ⟨some 16, none, .bin .add .other (.tmp 15) (.const (.int .i64 1)), 1⟩,
 ⟨some 5, none, .mov (.tmp 16), 3⟩]
def laws_eqFloat32S_l8 (i_laws_sameFloat : FuncId) : SCode := (.kp [0,1,5] (.seq (.seq (.region laws_eqFloat32S_r4 false) (.kp [0,1,5,14] (.cond (.tmp 14) .skip (.exit 0)))) (.kp [0,1,5] (.seq (.block 1 (.seq (.region (laws_eqFloat32S_r5 i_laws_sameFloat) true) (.kp [0,1,5,28] (.cond (.tmp 28) (.seq (.region laws_eqFloat32S_r6 false) .ret) .skip)))) (.kp [0,1,5] (.region laws_eqFloat32S_r7 false))))))
def laws_eqFloat32S_r9 : List SOper := [
 ⟨some 4, none, .mov (.const (.bool true)), 0⟩]
def laws_eqFloat32S (i_laws_sameFloat : FuncId) : SFunc := ⟨29, [.tmp 4], (.kp [0,1] (.seq (.region laws_eqFloat32S_r0 false) (.kp [0,1] (.seq (.seq (.region laws_eqFloat32S_r1 false) (.kp [0,1,10] (.cond (.tmp 10) (.seq (.region laws_eqFloat32S_r2 false) .ret) .skip))) (.kp [0,1] (.seq (.seq (.region laws_eqFloat32S_r3 false) (.kp [0,1,5] (.block 0 (.loop (laws_eqFloat32S_l8 i_laws_sameFloat))))) (.kp [] (.seq (.region laws_eqFloat32S_r9 false) .ret))))))))⟩
theorem laws_eqFloat32S_r5_dr {i_laws_sameFloat : FuncId} : drawOkW wStat (laws_eqFloat32S_r5 i_laws_sameFloat) = true := by kernel_rfl
attribute [push_cast] laws_eqFloat32S_r5_dr
/- loop.example/g01201/laws.eqSheet -/
def laws_eqSheet_r0 : List SOper := [
 ⟨some 2, none, .box (.tmp 0), 0⟩,
 ⟨some 3, none, .box (.tmp 1), 0⟩,
 ⟨some 4, none, .mov (.const (.bool false)), 0⟩]
def laws_eqSheet_r1 : List SOper := [
 ⟨some 5, none, .fieldAddr 0 (.tmp 2), 0⟩,
 ⟨some 6, none, .load1 (.tmp 5), 1⟩,
 ⟨some 7, none, .fieldAddr 0 (.tmp 3), 0⟩,
 ⟨some 8, none, .load1 (.tmp 7), 4⟩,
 ⟨some 9, none, .bin .neq .other (.tmp 6) (.tmp 8), 15⟩]
def laws_eqSheet_r2 : List SOper := [
 ⟨some 4, none, .mov (.const (.bool false)), 0⟩]
def laws_eqSheet_r3 : List SOper := [
 ⟨some 10, none, .fieldAddr 1 (.tmp 2), 0⟩,
 ⟨some 11, none, .load1 (.tmp 10), 1⟩,
 ⟨some 12, none, .fieldAddr 1 (.tmp 3), 0⟩,
 ⟨some 13, none, .load1 (.tmp 12), 4⟩,
 ⟨some 14, none, .bin .neq .other (.tmp 11) (.tmp 13), 15⟩]
def laws_eqSheet_r4 : List SOper := [
 ⟨some 4, none, .mov (.const (.bool false)), 0⟩]
def laws_eqSheet_r5 : List SOper := [
 ⟨some 15, none, .fieldAddr 2 (.tmp 2), 0⟩,
 ⟨some 16, none, .load1 (.tmp 15), 1⟩,
 ⟨some 17, none, .fieldAddr 2 (.tmp 3), 0⟩,
 ⟨some 18, none, .load1 (.tmp 17), 4⟩,
 ⟨some 19, none, .bin .neq .bool (.tmp 16) (.tmp 18), 15⟩]
def laws_eqSheet_r6 : List SOper := [
 ⟨some 4, none, .mov (.const (.bool false)), 0⟩]
def laws_eqSheet_r7 (i_laws_eqFloat32S : FuncId) : List SOper := [
 ⟨some 20, none, .fieldAddr 3 (.tmp 2), 0⟩,
 ⟨some 21, none, .load1 (.tmp 20), 1⟩,
 ⟨some 22, none, .fieldAddr 3 (.tmp 3), 0⟩,
 ⟨some 23, none, .load1 (.tmp 22), 4⟩,
 ⟨some 24, none, .call (.func i_laws_eqFloat32S) [(.tmp 21), (.tmp 23)], 15⟩,
 ⟨some 25, none, .un .not (.tmp 24), 31⟩]
def laws_eqSheet_r8 : List SOper := [
 ⟨some 4, none, .mov (.const (.bool false)), 0⟩]
def laws_eqSheet_r9 (i_laws_eqFloat32S : FuncId) : List SOper := [
 ⟨some 26, none, .fieldAddr 4 (.tmp 2), 0⟩,
 ⟨some 27, none, .load1 (.tmp 26), 1⟩,
 ⟨some 28, none, .fieldAddr 4 (.tmp 3), 0⟩,
 ⟨some 29, none, .load1 (.tmp 28), 4⟩,
 ⟨some 30, none, .call (.func i_laws_eqFloat32S) [(.tmp 27), (.tmp 29)], 15⟩,
 ⟨some 31, none, .un .not (.tmp 30), 31⟩]
def laws_eqSheet_r10 : List SOper := [
 ⟨some 4, none, .mov (.const (.bool false)), 0⟩]
def laws_eqSheet_r11 : List SOper := [
 ⟨some 4, none, .mov (.const (.bool true)), 0⟩]
def laws_eqSheet (i_laws_eqFloat32S : FuncId) : SFunc := ⟨32, [.tmp 4], (.kp [0,1] (.seq (.region laws_eqSheet_r0 false) (.kp [2,3] (.seq (.seq (.region laws_eqSheet_r1 false) (.kp [2,3,9] (.cond (.tmp 9) (.seq (.region laws_eqSheet_r2 false) .ret) .skip))) (.kp [2,3] (.seq (.seq (.region laws_eqSheet_r3 false) (.kp [2,3,14] (.cond (.tmp 14) (.seq (.region laws_eqSheet_r4 false) .ret) .skip))) (.kp [2,3] (.seq (.seq (.region laws_eqSheet_r5 false) (.kp [2,3,19] (.cond (.tmp 19) (.seq (.region laws_eqSheet_r6 false) .ret) .skip))) (.kp [2,3] (.seq (.seq (.region (laws_eqSheet_r7 i_laws_eqFloat32S) false) (.kp [2,3,25] (.cond (.tmp 25) (.seq (.region laws_eqSheet_r8 false) .ret) .skip))) (.kp [2,3] (.seq (.seq (.region (laws_eqSheet_r9 i_laws_eqFloat32S) false) (.kp [31] (.cond (.tmp 31) (.seq (.region laws_eqSheet_r10 false) .ret) .skip))) (.kp [] (.seq (.region laws_eqSheet_r11 false) .ret))))))))))))))⟩


theorem isSheet_sides {w h : Int} {sp lo : List Nat} (hs : isSheet w h sp lo = true) : 3 ≤ w ∧ w ≤ 16 ∧ 3 ≤ h ∧ h ≤ 16 ∧ (sp.length : Int) = w * h ∧ (lo.length : Int) = w * h := by
  simp [isSheet, sides, inR] at hs
  omega

/-- The index of a cell, around the edges. -/
def atC (w h x y : Int) : Int := (x + w).tmod w + w * ((y + h).tmod h)
theorem tmod_bd (a : Int) {b : Int} (h1 : 3 ≤ b) : -b < a.tmod b ∧ a.tmod b < b := ⟨by have := Int.lt_tmod_of_pos a (show 0 < b by omega); omega, Int.tmod_lt_of_pos a (by omega)⟩
theorem mul_bd {w t : Int} (h1 : 3 ≤ w) (h2 : w ≤ 16) (h3 : -16 ≤ t) (h4 : t ≤ 16) : -256 ≤ w * t ∧ w * t ≤ 256 := by
  constructor
  · have : w * (-t) ≤ 16 * 16 := Int.le_trans (Int.mul_le_mul_of_nonneg_left (by omega : -t ≤ 16) (by omega)) (by omega)
    rw [Int.mul_neg] at this
    omega
  · exact Int.le_trans (Int.mul_le_mul_of_nonneg_left h4 (by omega)) (by omega)
def impl_Sheet_at_ok (c : Contract) : Prop := ∀ (σ : Heap) (w h : Int) (wr : Bool) (sv lv : Value) (x y : Int), cellOk sv = true → cellOk lv = true → 3 ≤ w → w ≤ 16 → 3 ≤ h → h ≤ 16 → -1000 ≤ x → x ≤ 1000 → -1000 ≤ y → y ≤ 1000 →
    Ret c [shV w h wr sv lv, .int .i64 x, .int .i64 y] σ fun v σ' => v = .int .i64 (atC w h x y) ∧ σ' = σ
theorem impl_Sheet_at_law {C : Ctab} : impl_Sheet_at_ok (gcC C impl_Sheet_at true) := by
  intro σ w h wr sv lv x y k1 k2 a1 a2 a3 a4 b1 b2 b3 b4
  have t1 := tmod_bd (x + w) a1
  have t2 := tmod_bd (y + h) a3
  have t3 := mul_bd a1 a2 (t := (y + h).tmod h) (by omega) (by omega)
  unfold atC
  refine ret_gc rfl rfl ?_
  repeat' (first | refine ff ?_ | ((first | refine sR ?_ ?_ | refine sC ?_ ?_) <;> (intro hb; (try rw [hb]); (try simp only [bb] at hb); (try (exfalso; first | omega | exact hb trivial)))) | (apply endS trivial; rotate_left; (· exact eva); (· rfl); try refine ⟨?_, rfl⟩) | fail)
  all_goals (try rfl)


def laws_sameFloat_ok (c : Contract) : Prop := ∀ (σ : Heap) (a : Nat), Ret c [.float .f64 a, .float .f64 a] σ fun v σ' => v = .bool true ∧ σ' = σ
theorem laws_sameFloat_law {C : Ctab} : laws_sameFloat_ok (gcC C laws_sameFloat true) := by
  intro σ a
  have hs := feq_self .f64 a
  cases hn : isNaN .f64 a
  · rw [hn] at hs
    refine ret_gc rfl rfl ?_
    repeat' (first | refine ff ?_ | ((first | refine sR ?_ ?_ | refine sC ?_ ?_) <;> (intro hb; (try rw [hb]); (try simp only [bb] at hb); (try (exfalso; first | omega | exact hb trivial)))) | (apply endS trivial; rotate_left; (· exact eva); (· rfl); try refine ⟨?_, rfl⟩) | fail)
    all_goals (try simp_all)
  · rw [hn] at hs
    refine ret_gc rfl rfl ?_
    repeat' (first | refine ff ?_ | ((first | refine sR ?_ ?_ | refine sC ?_ ?_) <;> (intro hb; (try rw [hb]); (try simp only [bb] at hb); (try (exfalso; first | omega | exact hb trivial)))) | (apply endS trivial; rotate_left; (· exact eva); (· rfl); try refine ⟨?_, rfl⟩) | fail)
    all_goals (try simp_all)


def laws_eqFloat32S_ok (c : Contract) : Prop := ∀ (σ : Heap) (v u : Value) (xs : List Nat), Row σ 1 v xs.length (f32s xs) → Row σ 1 u xs.length (f32s xs) → xs.length ≤ 1048576 → Ret c [v, u] σ fun v σ' => v = .bool true ∧ σ' = σ
theorem laws_eqFloat32S_law {C : Ctab} {i : FuncId} {c : Contract} (h1 : Has C i c laws_sameFloat_ok) : laws_eqFloat32S_ok (gcC C (laws_eqFloat32S i) true) := by
  intro σ v u xs hr hr2 hn
  have k1 := hr.ok
  have k2 := hr2.ok
  refine ret_gc rfl rfl ?_
  repeat' (first | refine ff ?_ | ((first | refine sR ?_ ?_ | refine sC ?_ ?_) <;> (intro hb; (try rw [hb]); (try simp only [bb] at hb); (try (exfalso; first | omega | exact hb trivial)))) | (apply endS trivial; rotate_left; (· exact eva); (· rfl); try refine ⟨?_, rfl⟩) | fail)
  refine Ev.whlC (S := Nat) (fun i => xs.length - i) (fun i => [(5, .int .i64 i)]) (fun i => i ≤ xs.length) 0 (by exact tF) (Nat.zero_le _) ?_
  rintro i F hF hi
  (simp only [List.cons_append, List.nil_append, ↓fget_cons, fkeep_cons, fkeep_nil, Nat.reduceEqDiff, reduceIte] at hF; subst hF)
  by_cases hlt : i < xs.length
  · repeat' (first | refine ff ?_ | (apply EvR.aCall h1.at_; (· exact eva); (· apply h1.ok <;> exact sid); (rintro _ _ ⟨rfl, rfl⟩; refine EvR.nrm ?_)) | ((first | refine sR ?_ ?_ | refine sC ?_ ?_) <;> (intro hb; (try rw [hb]); (try simp only [bb] at hb); (try (exfalso; first | omega | exact hb trivial)))) | (apply endS trivial; rotate_left; (· exact eva); (· rfl); try refine ⟨?_, rfl⟩) | fail)
    exact ⟨i + 1, by omega, by exact tF, rfl, by omega⟩
  · obtain rfl : i = xs.length := by omega
    repeat' (first | refine ff ?_ | ((first | refine sR ?_ ?_ | refine sC ?_ ?_) <;> (intro hb; (try rw [hb]); (try simp only [bb] at hb); (try (exfalso; first | omega | exact hb trivial)))) | (apply endS trivial; rotate_left; (· exact eva); (· rfl); try refine ⟨?_, rfl⟩) | fail)
    all_goals (try rfl)


def laws_eqSheet_ok (c : Contract) : Prop := ∀ (σ : Heap) (w h : Int) (wr : Bool) (sv lv sv' lv' : Value) (sp lo : List Nat), ShR σ sv lv sp lo → ShR σ sv' lv' sp lo → sp.length ≤ 1048576 → lo.length ≤ 1048576 →
    Ret c [shV w h wr sv lv, shV w h wr sv' lv'] σ fun v σ' => v = .bool true ∧ σ' = σ
theorem laws_eqSheet_law {C : Ctab} {i : FuncId} {c : Contract} (h1 : Has C i c laws_eqFloat32S_ok) : laws_eqSheet_ok (gcC C (laws_eqSheet i) true) := by
  intro σ w h wr sv lv sv' lv' sp lo ⟨r1, r2⟩ ⟨r3, r4⟩ hn1 hn2
  have k1 := r1.ok
  have k2 := r2.ok
  have k3 := r3.ok
  have k4 := r4.ok
  cases wr
  all_goals
    refine ret_gc rfl rfl ?_
    repeat' (first | refine ff ?_ | (apply EvR.aCall h1.at_; (· exact eva); (· apply h1.ok <;> exact sid); (rintro _ _ ⟨rfl, rfl⟩; refine EvR.nrm ?_)) | ((first | refine sR ?_ ?_ | refine sC ?_ ?_) <;> (intro hb; (try rw [hb]); (try simp only [bb] at hb); (try (exfalso; first | omega | exact hb trivial)))) | (apply endS trivial; rotate_left; (· exact eva); (· rfl); try refine ⟨?_, rfl⟩) | fail)
    all_goals (try rfl)

end Go.Abs

