/- Laws of functions: the sine of turns, by the program and by the reference. Conditions: the laws of what they call. -/
import Derived.Test.YtdlicidmkakooaaExactTravelFieldL123
import Derived.Test.YtdlicidmkakooaaExactTravelFieldL115
import Derived.Test.YtdlicidmkakooaaExactTravelFieldWvX3
namespace Go.Abs

set_option linter.unusedSimpArgs false
set_option linter.unusedVariables false
set_option maxHeartbeats 8000000
set_option maxRecDepth 20000
/- math.NaN -/
def math_NaN_r0 : List SOper := [
 ⟨some 0, none, .mov (.const (.float .f64 0)), 0⟩]
def math_NaN_r1 (i_math_Float64frombits : FuncId) : List SOper := [
 ⟨some 1, none, .call (.func i_math_Float64frombits) [(.const (.int .u64 9221120237041090561))], 0⟩,
 ⟨some 0, none, .mov (.tmp 1), 1⟩]
def math_NaN (i_math_Float64frombits : FuncId) : SFunc := ⟨2, [.tmp 0], (.kp [] (.seq (.region math_NaN_r0 false) (.kp [] (.seq (.region (math_NaN_r1 i_math_Float64frombits) false) .ret))))⟩

/- loop.example/g01201/impl.fraction -/
def impl_fraction_r0 : List SOper := [
 ⟨some 2, none, .mov (.const (.float .f64 0)), 0⟩]
def impl_fraction_r1 : List SOper := [
 ⟨some 4, none, .mov (.tmp 0), 0⟩,
 ⟨some 5, none, .mov (.tmp 0), 0⟩,
 ⟨some 6, none, .conv (.toInt .i64) (.tmp 5), 2⟩,
 ⟨some 7, none, .conv (.toFloat .f64) (.tmp 6), 6⟩,
 ⟨some 8, none, .bin .sub .other (.tmp 4) (.tmp 7), 15⟩,
 ⟨some 3, none, .mov (.tmp 8), 31⟩]
def impl_fraction_r2 : List SOper := [
 ⟨some 9, none, .mov (.tmp 3), 0⟩,
 ⟨some 10, none, .bin .lss .other (.tmp 9) (.const (.float .f64 0)), 1⟩]
def impl_fraction_r3 : List SOper := [
 ⟨some 11, none, .mov (.tmp 3), 0⟩,
 ⟨some 12, none, .bin .add .other (.tmp 11) (.const (.float .f64 4607182418800017408)), 1⟩,
 ⟨some 3, none, .mov (.tmp 12), 3⟩]
def impl_fraction_r4 : List SOper := [
 ⟨some 13, none, .mov (.tmp 3), 0⟩,
 ⟨some 2, none, .mov (.tmp 13), 1⟩]
def impl_fraction : SFunc := ⟨14, [.tmp 2], (.kp [0] (.seq (.region impl_fraction_r0 false) (.kp [0] (.seq (.region impl_fraction_r1 false) (.kp [3] (.seq (.seq (.region impl_fraction_r2 false) (.kp [3,10] (.cond (.tmp 10) (.region impl_fraction_r3 false) .skip))) (.kp [3] (.seq (.region impl_fraction_r4 false) .ret))))))))⟩

/- loop.example/g01201/impl.sine -/
def impl_sine_r0 : List SOper := [
 ⟨some 2, none, .mov (.const (.float .f64 0)), 0⟩]
def impl_sine_r1 (i_impl_fraction : FuncId) : List SOper := [
 ⟨some 9, none, .mov (.tmp 0), 0⟩,
 ⟨some 10, none, .call (.func i_impl_fraction) [(.tmp 9)], 1⟩,
 ⟨some 3, none, .mov (.tmp 10), 3⟩]
def impl_sine_r2 : List SOper := [
 ⟨some 11, none, .mov (.tmp 3), 0⟩,
 ⟨some 12, none, .bin .geq .other (.tmp 11) (.const (.float .f64 4602678819172646912)), 1⟩,
 ⟨some 4, none, .mov (.tmp 12), 3⟩]
def impl_sine_r3 : List SOper := [
 ⟨some 13, none, .mov (.tmp 4), 0⟩]
def impl_sine_r4 : List SOper := [
 ⟨some 14, none, .mov (.tmp 3), 0⟩,
 ⟨some 15, none, .bin .sub .other (.tmp 14) (.const (.float .f64 4602678819172646912)), 1⟩,
 ⟨some 3, none, .mov (.tmp 15), 3⟩]
def impl_sine_r5 : List SOper := [
 ⟨some 16, none, .mov (.tmp 3), 0⟩,
 ⟨some 17, none, .bin .gtr .other (.tmp 16) (.const (.float .f64 4598175219545276416)), 1⟩]
def impl_sine_r6 : List SOper := [
 ⟨some 18, none, .mov (.tmp 3), 0⟩,
 ⟨some 19, none, .bin .sub .other (.const (.float .f64 4602678819172646912)) (.tmp 18), 1⟩,
 ⟨some 3, none, .mov (.tmp 19), 3⟩]
def impl_sine_r7 : List SOper := [
 ⟨some 20, none, .mov (.tmp 3), 0⟩,
 ⟨some 21, none, .bin .mul .other (.tmp 20) (.const (.float .f64 4618760256179416344)), 1⟩,
 ⟨some 5, none, .mov (.tmp 21), 3⟩]
def impl_sine_r8 : List SOper := [
 ⟨some 22, none, .mov (.tmp 5), 0⟩,
 ⟨some 23, none, .mov (.tmp 5), 0⟩,
 ⟨some 24, none, .bin .mul .other (.tmp 22) (.tmp 23), 3⟩,
 ⟨some 6, none, .mov (.tmp 24), 7⟩]
def impl_sine_r9 : List SOper := [
 ⟨some 7, none, .mov (.const (.float .f64 4607182418800017408)), 0⟩]
def impl_sine_r10 : List SOper := [
 ⟨some 8, none, .mov (.const (.float .f64 4620693217682128896)), 0⟩]
def impl_sine_r11 : List SOper := [
 ⟨some 25, none, .mov (.tmp 8), 0⟩,
 ⟨some 26, none, .bin .geq .other (.tmp 25) (.const (.float .f64 4607182418800017408)), 1⟩]
def impl_sine_r12 : List SOper := [
 ⟨some 29, none, .mov (.tmp 6), 0⟩,
 ⟨some 30, none, .mov (.tmp 7), 0⟩,
 ⟨some 31, none, .bin .mul .other (.tmp 29) (.tmp 30), 3⟩,
 ⟨some 32, none, .mov (.tmp 8), 0⟩,
 ⟨some 33, none, .bin .mul .other (.const (.float .f64 4611686018427387904)) (.tmp 32), 8⟩,
 ⟨some 34, none, .mov (.tmp 8), 0⟩,
 ⟨some 35, none, .bin .mul .other (.const (.float .f64 4611686018427387904)) (.tmp 34), 32⟩,
 ⟨some 36, none, .bin .add .other (.tmp 35) (.const (.float .f64 4607182418800017408)), 96⟩,
 ⟨some 37, none, .bin .mul .other (.tmp 33) (.tmp 36), 248⟩,
 ⟨some 38, none, .bin .quo .other (.tmp 31) (.tmp 37), 511⟩,
 ⟨some 39, none, .bin .sub .other (.const (.float .f64 4607182418800017408)) (.tmp 38), 1023⟩,
 ⟨some 7, none, .mov (.tmp 39), 2047⟩]
def impl_sine_r13 : List SOper := [
 ⟨some 27, none, .mov (.tmp 8), 0⟩,
 ⟨some 28, none, .bin .sub .other (.tmp 27) (.const (.float .f64 4607182418800017408)), 1⟩,
 ⟨some 8, none, .mov (.tmp 28), 3⟩]
def impl_sine_l14 : SCode := (.kp [4,5,6,7,8] (.seq (.seq (.region impl_sine_r11 false) (.kp [4,5,6,7,8,26] (.cond (.tmp 26) .skip (.exit 0)))) (.kp [4,5,6,7,8] (.seq (.block 1 (.region impl_sine_r12 false)) (.kp [4,5,6,7,8] (.region impl_sine_r13 false))))))
def impl_sine_r15 : List SOper := [
 ⟨some 40, none, .mov (.tmp 4), 0⟩]
def impl_sine_r16 : List SOper := [
 ⟨some 41, none, .mov (.tmp 5), 0⟩,
 ⟨some 42, none, .mov (.tmp 7), 0⟩,
 ⟨some 43, none, .bin .mul .other (.tmp 41) (.tmp 42), 3⟩,
 ⟨some 44, none, .un .neg (.tmp 43), 7⟩,
 ⟨some 2, none, .mov (.tmp 44), 15⟩]
def impl_sine_r17 : List SOper := [
 ⟨some 45, none, .mov (.tmp 5), 0⟩,
 ⟨some 46, none, .mov (.tmp 7), 0⟩,
 ⟨some 47, none, .bin .mul .other (.tmp 45) (.tmp 46), 3⟩,
 ⟨some 2, none, .mov (.tmp 47), 7⟩]
def impl_sine (i_impl_fraction : FuncId) : SFunc := ⟨48, [.tmp 2], (.kp [0] (.seq (.region impl_sine_r0 false) (.kp [0] (.seq (.region (impl_sine_r1 i_impl_fraction) false) (.kp [3] (.seq (.region impl_sine_r2 false) (.kp [3,4] (.seq (.seq (.region impl_sine_r3 false) (.kp [3,4,13] (.cond (.tmp 13) (.region impl_sine_r4 false) .skip))) (.kp [3,4] (.seq (.seq (.region impl_sine_r5 false) (.kp [3,4,17] (.cond (.tmp 17) (.region impl_sine_r6 false) .skip))) (.kp [3,4] (.seq (.region impl_sine_r7 false) (.kp [4,5] (.seq (.region impl_sine_r8 false) (.kp [4,5,6] (.seq (.region impl_sine_r9 false) (.kp [4,5,6,7] (.seq (.seq (.region impl_sine_r10 false) (.kp [4,5,6,7,8] (.block 0 (.loop impl_sine_l14)))) (.kp [4,5,7] (.seq (.seq (.region impl_sine_r15 false) (.kp [5,7,40] (.cond (.tmp 40) (.seq (.region impl_sine_r16 false) .ret) .skip))) (.kp [5,7] (.seq (.region impl_sine_r17 false) .ret))))))))))))))))))))))⟩

/- loop.example/g01201/spec.l01SineWide -/
def spec_l01SineWide_r0 : List SOper := [
 ⟨some 2, none, .mov (.const (.float .f64 0)), 0⟩]
def spec_l01SineWide_r1 : List SOper := [
 ⟨some 9, none, .mov (.tmp 0), 0⟩,
 ⟨some 10, none, .mov (.tmp 0), 0⟩,
 ⟨some 11, none, .bin .sub .other (.tmp 9) (.tmp 10), 3⟩,
 ⟨some 12, none, .bin .neq .other (.tmp 11) (.const (.float .f64 0)), 7⟩]
def spec_l01SineWide_r2 (i_math_NaN : FuncId) : List SOper := [
 ⟨some 13, none, .call (.func i_math_NaN) [], 0⟩,
 ⟨some 2, none, .mov (.tmp 13), 1⟩]
def spec_l01SineWide_r3 : List SOper := [
 ⟨some 14, none, .mov (.tmp 0), 0⟩,
 ⟨some 15, none, .bin .geq .other (.tmp 14) (.const (.float .f64 4841369599423283200)), 1⟩,
 ⟨some 16, none, .mov (.tmp 15), 3⟩,
  ⟨(some 17), (some (16, false)), .mov (.tmp 0), 7⟩,
  ⟨(some 18), (some (16, false)), .bin .leq .other (.tmp 17) (.const (.float .f64 14064741636278059008)), 15⟩,
 ⟨some 19, none, .pick (.tmp 16) (.const (.bool true)) (.tmp 18), 31⟩]
def spec_l01SineWide_r4 : List SOper := [
 ⟨some 2, none, .mov (.const (.float .f64 0)), 0⟩]
def spec_l01SineWide_r5 : List SOper := [
 ⟨some 20, none, .mov (.tmp 0), 0⟩,
 ⟨some 21, none, .mov (.tmp 0), 0⟩,
 ⟨some 22, none, .conv (.toInt .i64) (.tmp 21), 2⟩,
 ⟨some 23, none, .conv (.toFloat .f64) (.tmp 22), 6⟩,
 ⟨some 24, none, .bin .sub .other (.tmp 20) (.tmp 23), 15⟩,
 ⟨some 3, none, .mov (.tmp 24), 31⟩]
def spec_l01SineWide_r6 : List SOper := [
 ⟨some 25, none, .mov (.tmp 3), 0⟩,
 ⟨some 26, none, .bin .lss .other (.tmp 25) (.const (.float .f64 0)), 1⟩]
def spec_l01SineWide_r7 : List SOper := [
 ⟨some 27, none, .mov (.tmp 3), 0⟩,
 ⟨some 28, none, .bin .add .other (.tmp 27) (.const (.float .f64 4607182418800017408)), 1⟩,
 ⟨some 3, none, .mov (.tmp 28), 3⟩]
def spec_l01SineWide_r8 : List SOper := [
 ⟨some 29, none, .mov (.tmp 3), 0⟩,
 ⟨some 30, none, .bin .geq .other (.tmp 29) (.const (.float .f64 4602678819172646912)), 1⟩,
 ⟨some 4, none, .mov (.tmp 30), 3⟩]
def spec_l01SineWide_r9 : List SOper := [
 ⟨some 31, none, .mov (.tmp 4), 0⟩]
def spec_l01SineWide_r10 : List SOper := [
 ⟨some 32, none, .mov (.tmp 3), 0⟩,
 ⟨some 33, none, .bin .sub .other (.tmp 32) (.const (.float .f64 4602678819172646912)), 1⟩,
 ⟨some 3, none, .mov (.tmp 33), 3⟩]
def spec_l01SineWide_r11 : List SOper := [
 ⟨some 34, none, .mov (.tmp 3), 0⟩,
 ⟨some 35, none, .bin .gtr .other (.tmp 34) (.const (.float .f64 4598175219545276416)), 1⟩]
def spec_l01SineWide_r12 : List SOper := [
 ⟨some 36, none, .mov (.tmp 3), 0⟩,
 ⟨some 37, none, .bin .sub .other (.const (.float .f64 4602678819172646912)) (.tmp 36), 1⟩,
 ⟨some 3, none, .mov (.tmp 37), 3⟩]
def spec_l01SineWide_r13 : List SOper := [
 ⟨some 38, none, .mov (.tmp 3), 0⟩,
 ⟨some 39, none, .bin .mul .other (.tmp 38) (.const (.float .f64 4618760256179416344)), 1⟩,
 ⟨some 5, none, .mov (.tmp 39), 3⟩]
def spec_l01SineWide_r14 : List SOper := [
 ⟨some 40, none, .mov (.tmp 5), 0⟩,
 ⟨some 41, none, .mov (.tmp 5), 0⟩,
 ⟨some 42, none, .bin .mul .other (.tmp 40) (.tmp 41), 3⟩,
 ⟨some 6, none, .mov (.tmp 42), 7⟩]
def spec_l01SineWide_r15 : List SOper := [
 ⟨some 7, none, .mov (.const (.float .f64 4607182418800017408)), 0⟩]
def spec_l01SineWide_r16 : List SOper := [
 ⟨some 8, none, .mov (.const (.int .i64 8)), 0⟩]
def spec_l01SineWide_r17 : List SOper := [
 ⟨some 43, none, .mov (.tmp 8), 0⟩,
 ⟨some 44, none, .bin .geq .other (.tmp 43) (.const (.int .i64 1)), 1⟩]
def spec_l01SineWide_r18 : List SOper := [
 ⟨some 47, none, .mov (.tmp 6), 0⟩,
 ⟨some 48, none, .mov (.tmp 7), 0⟩,
 ⟨some 49, none, .bin .mul .other (.tmp 47) (.tmp 48), 3⟩,
 ⟨some 50, none, .mov (.tmp 8), 0⟩,
 ⟨some 51, none, .bin .mul .other (.const (.int .i64 2)) (.tmp 50), 8⟩,
 ⟨some 52, none, .mov (.tmp 8), 0⟩,
 ⟨some 53, none, .bin .mul .other (.const (.int .i64 2)) (.tmp 52), 32⟩,
 ⟨some 54, none, .bin .add .other (.tmp 53) (.const (.int .i64 1)), 96⟩,
 ⟨some 55, none, .bin .mul .other (.tmp 51) (.tmp 54), 248⟩,
 ⟨some 56, none, .conv (.toFloat .f64) (.tmp 55), 504⟩,
 ⟨some 57, none, .bin .quo .other (.tmp 49) (.tmp 56), 1023⟩,
 ⟨some 58, none, .bin .sub .other (.const (.float .f64 4607182418800017408)) (.tmp 57), 2047⟩,
 ⟨some 7, none, .mov (.tmp 58), 4095⟩]
def spec_l01SineWide_r19 : List SOper := [
 ⟨some 45, none, .mov (.tmp 8), 0⟩,
 ⟨some 46, none, .bin .sub .other (.tmp 45) (.const (.int .i64 1)), 1⟩,
 ⟨some 8, none, .mov (.tmp 46), 3⟩]
def spec_l01SineWide_l20 : SCode := (.kp [4,5,6,7,8] (.seq (.seq (.region spec_l01SineWide_r17 false) (.kp [4,5,6,7,8,44] (.cond (.tmp 44) .skip (.exit 0)))) (.kp [4,5,6,7,8] (.seq (.block 1 (.region spec_l01SineWide_r18 false)) (.kp [4,5,6,7,8] (.region spec_l01SineWide_r19 false))))))
def spec_l01SineWide_r21 : List SOper := [
 ⟨some 59, none, .mov (.tmp 4), 0⟩]
def spec_l01SineWide_r22 : List SOper := [
 ⟨some 60, none, .mov (.tmp 5), 0⟩,
 ⟨some 61, none, .mov (.tmp 7), 0⟩,
 ⟨some 62, none, .bin .mul .other (.tmp 60) (.tmp 61), 3⟩,
 ⟨some 63, none, .un .neg (.tmp 62), 7⟩,
 ⟨some 2, none, .mov (.tmp 63), 15⟩]
def spec_l01SineWide_r23 : List SOper := [
 ⟨some 64, none, .mov (.tmp 5), 0⟩,
 ⟨some 65, none, .mov (.tmp 7), 0⟩,
 ⟨some 66, none, .bin .mul .other (.tmp 64) (.tmp 65), 3⟩,
 ⟨some 2, none, .mov (.tmp 66), 7⟩]
def spec_l01SineWide (i_math_NaN : FuncId) : SFunc := ⟨67, [.tmp 2], (.kp [0] (.seq (.region spec_l01SineWide_r0 false) (.kp [0] (.seq (.seq (.region spec_l01SineWide_r1 false) (.kp [0,12] (.cond (.tmp 12) (.seq (.region (spec_l01SineWide_r2 i_math_NaN) false) .ret) .skip))) (.kp [0] (.seq (.seq (.region spec_l01SineWide_r3 false) (.kp [0,19] (.cond (.tmp 19) (.seq (.region spec_l01SineWide_r4 false) .ret) .skip))) (.kp [0] (.seq (.region spec_l01SineWide_r5 false) (.kp [3] (.seq (.seq (.region spec_l01SineWide_r6 false) (.kp [3,26] (.cond (.tmp 26) (.region spec_l01SineWide_r7 false) .skip))) (.kp [3] (.seq (.region spec_l01SineWide_r8 false) (.kp [3,4] (.seq (.seq (.region spec_l01SineWide_r9 false) (.kp [3,4,31] (.cond (.tmp 31) (.region spec_l01SineWide_r10 false) .skip))) (.kp [3,4] (.seq (.seq (.region spec_l01SineWide_r11 false) (.kp [3,4,35] (.cond (.tmp 35) (.region spec_l01SineWide_r12 false) .skip))) (.kp [3,4] (.seq (.region spec_l01SineWide_r13 false) (.kp [4,5] (.seq (.region spec_l01SineWide_r14 false) (.kp [4,5,6] (.seq (.region spec_l01SineWide_r15 false) (.kp [4,5,6,7] (.seq (.seq (.region spec_l01SineWide_r16 false) (.kp [4,5,6,7,8] (.block 0 (.loop spec_l01SineWide_l20)))) (.kp [4,5,7] (.seq (.seq (.region spec_l01SineWide_r21 false) (.kp [5,7,59] (.cond (.tmp 59) (.seq (.region spec_l01SineWide_r22 false) .ret) .skip))) (.kp [5,7] (.seq (.region spec_l01SineWide_r23 false) .ret))))))))))))))))))))))))))))⟩


def math_Float64frombits_ok (c : Contract) : Prop := ∀ (σ : Heap) (n : Int), Ret c [.int .u64 n] σ fun v σ' => v = .float .f64 n.toNat ∧ σ' = σ
theorem math_Float64frombits_law : math_Float64frombits_ok (pureC gFrom64) := fun σ n => ret_from64 n σ
def math_NaN_ok (c : Contract) : Prop := ∀ (σ : Heap), Ret c [] σ fun v σ' => v = .float .f64 9221120237041090561 ∧ σ' = σ
theorem math_NaN_law {C : Ctab} {i : FuncId} {c : Contract} (h1 : Has C i c math_Float64frombits_ok) : math_NaN_ok (gcC C (math_NaN i) true) := by
  intro σ
  refine ret_gc rfl rfl ?_
  repeat' (first | refine ff ?_ | ((first | refine sR ?_ ?_ | refine sC ?_ ?_) <;> (intro hb; (try rw [hb]); (try simp only [bb] at hb); (try (exfalso; first | omega | exact hb trivial)))) | (apply endS trivial; rotate_left; (· exact eva); (· rfl); try refine ⟨?_, rfl⟩) | fail)
  (apply EvR.aCall h1.at_; (· exact eva); (· exact  h1.ok _ 9221120237041090561); (rintro _ _ ⟨rfl, rfl⟩; refine EvR.nrm ?_))
  repeat' (first | refine ff ?_ | ((first | refine sR ?_ ?_ | refine sC ?_ ?_) <;> (intro hb; (try rw [hb]); (try simp only [bb] at hb); (try (exfalso; first | omega | exact hb trivial)))) | (apply endS trivial; rotate_left; (· exact eva); (· rfl); try refine ⟨?_, rfl⟩) | fail)
  all_goals (try rfl)
/-- A number is made a whole one. -/
theorem EvR.toI {C : Ctab} {F : Frame} {τ l : Heap} {Q} {d n : Nat} {rest : List SOper} {x : Operand} {y : Nat} {k : Int} (h1 : eval F x = .float .f64 y) (h2 : floatToIntVal .f64 y .i64 = some k) (h : EvR C rest ((d, .int .i64 k) :: F) (τ ++ l) Q) : EvR C (⟨some d, none, .conv (.toInt .i64) x, n⟩ :: rest) F (τ ++ l) Q := by
  refine EvR.opS (σ' := τ ++ l) ?_ h
  simp only [evOp, h1, aConv, h2, Option.map_some]
def impl_fraction_ok (c : Contract) : Prop := ∀ (σ : Heap) (y : Nat) (n : Int), floatToIntVal .f64 y .i64 = some n → Ret c [.float .f64 y] σ fun v σ' => v = .float .f64 (fracV y n) ∧ σ' = σ
theorem impl_fraction_law {C : Ctab} : impl_fraction_ok (gcC C impl_fraction true) := by
  intro σ y n hn
  unfold fracV
  cases hf : flt .f64 (fbin .sub .f64 y (FloatKind.f64.nearest n)) 0
  all_goals
    refine ret_gc rfl rfl ?_
    repeat' (first | refine ff ?_ | ((first | refine sR ?_ ?_ | refine sC ?_ ?_) <;> (intro hb; (try rw [hb]); (try simp only [bb] at hb); (try (exfalso; first | omega | exact hb trivial)))) | (apply endS trivial; rotate_left; (· exact eva); (· rfl); try refine ⟨?_, rfl⟩) | fail)
    refine EvR.toI rfl hn ?_
    repeat' (first | refine ff ?_ | ((first | refine sR ?_ ?_ | refine sC ?_ ?_) <;> (intro hb; (try rw [hb]); (try simp only [bb] at hb); (try (exfalso; first | omega | exact hb trivial)))) | (apply endS trivial; rotate_left; (· exact eva); (· rfl); try refine ⟨?_, rfl⟩) | fail)
    all_goals (first | rfl | (exact absurd hf (by rw [‹flt _ _ _ = _›]; decide)))
theorem polyV_step (u : Nat) (i : Nat) : polyV u (i + 1) = fbin .sub .f64 one64 (fbin .quo .f64 (fbin .mul .f64 u (polyV u i)) (denV (8 - (i : Int)))) := rfl
def impl_sine_ok (c : Contract) : Prop := ∀ (σ : Heap) (y : Nat) (n : Int), floatToIntVal .f64 y .i64 = some n → Ret c [.float .f64 y] σ fun v σ' => v = .float .f64 (sineV y n) ∧ σ' = σ
/-- The counter of the program's loop, and what it divides by. -/
def cntV (i : Nat) : Nat := FloatKind.f64.nearest (8 - (i : Int))
theorem cnt_all : ((List.range 8).all fun i => decide (fbin .sub .f64 (cntV i) one64 = cntV (i + 1)) && fge .f64 (cntV i) one64 && decide (fbin .mul .f64 (fbin .mul .f64 4611686018427387904 (cntV i)) (fbin .add .f64 (fbin .mul .f64 4611686018427387904 (cntV i)) one64) = denV (8 - (i : Int)))) = true := by decide +kernel
theorem cnt_end : fge .f64 (cntV 8) one64 = false := by decide +kernel
theorem cnt_zero : cntV 0 = 4620693217682128896 := by decide +kernel
theorem cnt_ok {i : Nat} (h : i < 8) : fbin .sub .f64 (cntV i) one64 = cntV (i + 1) ∧ fge .f64 (cntV i) one64 = true ∧ fbin .mul .f64 (fbin .mul .f64 4611686018427387904 (cntV i)) (fbin .add .f64 (fbin .mul .f64 4611686018427387904 (cntV i)) one64) = denV (8 - (i : Int)) := by
  have h := List.all_eq_true.1 cnt_all i (List.mem_range.2 h)
  simp only [Bool.and_eq_true, decide_eq_true_eq] at h
  exact ⟨h.1.1, h.1.2, h.2⟩
/-- The loop of the program's sine. -/
theorem sine_loop {C : Ctab} (σ : Heap) (b : Bool) (z u : Nat) : Ev C impl_sine_l14.loop [(4, .bool b), (5, .float .f64 z), (6, .float .f64 u), (7, .float .f64 4607182418800017408), (8, .float .f64 4620693217682128896)] (σ ++ []) fun o F' σ' => o = .exit 0 ∧ fkeep [4, 5, 7] F' = [(4, .bool b), (5, .float .f64 z), (7, .float .f64 (polyV u 8))] ∧ σ' = σ ++ [] := by
  refine Ev.whlC (S := Nat) (fun i => 8 - i) (fun i => [(7, .float .f64 (polyV u i)), (8, .float .f64 (cntV i))]) (fun i => i ≤ 8) 0 (by rw [cnt_zero]; rfl) (Nat.zero_le _) ?_
  intro i F hF hi
  try dsimp only at hF hi ⊢
  (simp only [List.cons_append, List.nil_append, ↓fget_cons, fkeep_cons, fkeep_nil, Nat.reduceEqDiff, reduceIte] at hF; subst hF)
  by_cases hlt : i < 8
  · obtain ⟨e1, e2, e3⟩ := cnt_ok hlt
    have e4 := polyV_step u i
    rw [← e3] at e4
    generalize cntV i = k at e1 e2 e4 ⊢
    generalize polyV u i = p at e4 ⊢
    repeat' (first | refine ff ?_ | ((first | refine sR ?_ ?_ | refine sC ?_ ?_) <;> (intro hb; (try rw [hb]); (try simp only [bb] at hb); (try (exfalso; first | omega | exact hb trivial)))) | (apply endS trivial; rotate_left; (· exact eva); (· rfl); try refine ⟨?_, rfl⟩) | fail)
    · exact ⟨i + 1, by omega, by rw [← e1, e4]; exact tF, rfl, by omega⟩
    all_goals (exact absurd e2 (by rw [‹fge _ _ _ = _›]; decide))
  · have hi8 : i = 8 := by omega
    subst hi8
    have e2 := cnt_end
    generalize cntV 8 = k at e2 ⊢
    generalize polyV u 8 = p at ⊢
    repeat' (first | refine ff ?_ | ((first | refine sR ?_ ?_ | refine sC ?_ ?_) <;> (intro hb; (try rw [hb]); (try simp only [bb] at hb); (try (exfalso; first | omega | exact hb trivial)))) | (apply endS trivial; rotate_left; (· exact eva); (· rfl); try refine ⟨?_, rfl⟩) | fail)
    · exact absurd hb (by rw [e2]; decide)
    · exact ⟨rfl, by exact tF, rfl⟩
theorem impl_sine_law {C : Ctab} {i1 : FuncId} {c1 : Contract} (h1 : Has C i1 c1 impl_fraction_ok) : impl_sine_ok (gcC C (impl_sine i1) true) := by
  intro σ y n hn
  obtain ⟨f, hf⟩ : ∃ f, fracV y n = f := ⟨_, rfl⟩
  refine ret_gc rfl rfl ?_
  repeat' (first | refine ff ?_ | ((first | refine sR ?_ ?_ | refine sC ?_ ?_) <;> (intro hb; (try rw [hb]); (try simp only [bb] at hb); (try (exfalso; first | omega | exact hb trivial)))) | (apply endS trivial; rotate_left; (· exact eva); (· rfl); try refine ⟨?_, rfl⟩) | fail)
  (apply EvR.aCall h1.at_; (· exact eva); (· exact  h1.ok _ y n hn); (rintro _ _ ⟨rfl, rfl⟩; refine EvR.nrm ?_))
  rw [hf]
  repeat' (first | refine ff ?_ | ((first | refine sR ?_ ?_ | refine sC ?_ ?_) <;> (intro hb; (try rw [hb]); (try simp only [bb] at hb); (try (exfalso; first | omega | exact hb trivial)))) | (apply endS trivial; rotate_left; (· exact eva); (· rfl); try refine ⟨?_, rfl⟩) | fail)
  all_goals
    rename_i hb1
    refine Ev.mono (sine_loop σ _ _ _) ?_
    rintro _ _ _ ⟨rfl, hF, rfl⟩
    apply blkQ.e
    apply thenQ.n
    refine Ev.kp hF ?_
    repeat' (first | refine ff ?_ | ((first | refine sR ?_ ?_ | refine sC ?_ ?_) <;> (intro hb; (try rw [hb]); (try simp only [bb] at hb); (try (exfalso; first | omega | exact hb trivial)))) | (apply endS trivial; rotate_left; (· exact eva); (· rfl); try refine ⟨?_, rfl⟩) | fail)
    all_goals (try simp only [sineV, bareV, angV, backV, foldV, hf, hb1, hb, if_true, Bool.false_eq_true, if_false])
/-- The loop of the reference's sine. -/
theorem wide_loop {C : Ctab} (σ : Heap) (b : Bool) (z u : Nat) : Ev C spec_l01SineWide_l20.loop [(4, .bool b), (5, .float .f64 z), (6, .float .f64 u), (7, .float .f64 4607182418800017408), (8, .int .i64 8)] (σ ++ []) fun o F' σ' => o = .exit 0 ∧ fkeep [4, 5, 7] F' = [(4, .bool b), (5, .float .f64 z), (7, .float .f64 (polyV u 8))] ∧ σ' = σ ++ [] := by
  refine Ev.whlC (S := Nat) (fun i => 8 - i) (fun i => [(7, .float .f64 (polyV u i)), (8, .int .i64 (8 - (i : Int)))]) (fun i => i ≤ 8) 0 (by rfl) (Nat.zero_le _) ?_
  intro i F hF hi
  try dsimp only at hF hi ⊢
  (simp only [List.cons_append, List.nil_append, ↓fget_cons, fkeep_cons, fkeep_nil, Nat.reduceEqDiff, reduceIte] at hF; subst hF)
  by_cases hlt : i < 8
  · obtain ⟨k, hk⟩ : ∃ k : Int, k = 8 - (i : Int) := ⟨_, rfl⟩
    have e4 := polyV_step u i
    have hk2 : (8 : Int) - ((i + 1 : Nat) : Int) = k - 1 := by omega
    rw [← hk] at e4 ⊢
    have hk3 : 1 ≤ k ∧ k ≤ 8 := by omega
    have hprod : IntKind.i64.wrap (2 * k * (2 * k + 1)) = 2 * k * (2 * k + 1) := by
      have : k = 1 ∨ k = 2 ∨ k = 3 ∨ k = 4 ∨ k = 5 ∨ k = 6 ∨ k = 7 ∨ k = 8 := by omega
      rcases this with rfl | rfl | rfl | rfl | rfl | rfl | rfl | rfl <;> rfl
    unfold denV at e4
    generalize polyV u i = p at e4 ⊢
    repeat' (first | refine ff ?_ | ((first | refine sR ?_ ?_ | refine sC ?_ ?_) <;> (intro hb; (try rw [hb]); (try simp only [bb] at hb); (try (exfalso; first | omega | exact hb trivial)))) | (apply endS trivial; rotate_left; (· exact eva); (· rfl); try refine ⟨?_, rfl⟩) | fail)
    rw [hprod]
    exact ⟨i + 1, by omega, by rw [e4, hk2]; exact tF, rfl, by omega⟩
  · have hi8 : i = 8 := by omega
    subst hi8
    generalize polyV u 8 = p at ⊢
    repeat' (first | refine ff ?_ | ((first | refine sR ?_ ?_ | refine sC ?_ ?_) <;> (intro hb; (try rw [hb]); (try simp only [bb] at hb); (try (exfalso; first | omega | exact hb trivial)))) | (apply endS trivial; rotate_left; (· exact eva); (· rfl); try refine ⟨?_, rfl⟩) | fail)
    all_goals exact ⟨rfl, by exact tF, rfl⟩
def spec_l01SineWide_ok (c : Contract) : Prop :=
  (∀ (σ : Heap) (y : Nat), feq .f64 (fbin .sub .f64 y y) 0 = false → Ret c [.float .f64 y] σ fun v σ' => v = .float .f64 9221120237041090561 ∧ σ' = σ) ∧
  (∀ (σ : Heap) (y : Nat), feq .f64 (fbin .sub .f64 y y) 0 = true → (fge .f64 y 4841369599423283200 || fle .f64 y 14064741636278059008) = true → Ret c [.float .f64 y] σ fun v σ' => v = .float .f64 0 ∧ σ' = σ) ∧
  (∀ (σ : Heap) (y : Nat) (n : Int), feq .f64 (fbin .sub .f64 y y) 0 = true → (fge .f64 y 4841369599423283200 || fle .f64 y 14064741636278059008) = false → floatToIntVal .f64 y .i64 = some n → Ret c [.float .f64 y] σ fun v σ' => v = .float .f64 (sineV y n) ∧ σ' = σ)
theorem spec_l01SineWide_law {C : Ctab} {i1 : FuncId} {c1 : Contract} (h1 : Has C i1 c1 math_NaN_ok) : spec_l01SineWide_ok (gcC C (spec_l01SineWide i1) true) := by
  refine ⟨fun σ y hf => ?_, fun σ y hf hb0 => ?_, fun σ y n hf hb0 hn => ?_⟩
  · refine ret_gc rfl rfl ?_
    repeat' (first | refine ff ?_ | ((first | refine sR ?_ ?_ | refine sC ?_ ?_) <;> (intro hb; (try rw [hb]); (try simp only [bb] at hb); (try (exfalso; first | omega | exact hb trivial)))) | (apply endS trivial; rotate_left; (· exact eva); (· rfl); try refine ⟨?_, rfl⟩) | fail)
    all_goals (first | (exfalso; simp_all; done) | skip)
    (apply EvR.aCall h1.at_; (· exact eva); (· exact  h1.ok _); (rintro _ _ ⟨rfl, rfl⟩; refine EvR.nrm ?_))
    repeat' (first | refine ff ?_ | ((first | refine sR ?_ ?_ | refine sC ?_ ?_) <;> (intro hb; (try rw [hb]); (try simp only [bb] at hb); (try (exfalso; first | omega | exact hb trivial)))) | (apply endS trivial; rotate_left; (· exact eva); (· rfl); try refine ⟨?_, rfl⟩) | fail)
    all_goals (try rfl)
  · refine ret_gc rfl rfl ?_
    repeat' (first | refine ff ?_ | ((first | refine sR ?_ ?_ | refine sC ?_ ?_) <;> (intro hb; (try rw [hb]); (try simp only [bb] at hb); (try (exfalso; first | omega | exact hb trivial)))) | (apply endS trivial; rotate_left; (· exact eva); (· rfl); try refine ⟨?_, rfl⟩) | fail)
    all_goals (first | rfl | (exfalso; simp_all; done))
  · rw [Bool.or_eq_false_iff] at hb0
    obtain ⟨g1, g2⟩ := hb0
    refine ret_gc rfl rfl ?_
    repeat' (first | refine ff ?_ | ((first | refine sR ?_ ?_ | refine sC ?_ ?_) <;> (intro hb; (try rw [hb]); (try simp only [bb] at hb); (try (exfalso; first | omega | exact hb trivial)))) | (apply endS trivial; rotate_left; (· exact eva); (· rfl); try refine ⟨?_, rfl⟩) | fail)
    all_goals (first | (exfalso; simp_all; done) | skip)
    refine EvR.toI rfl hn ?_
    repeat' (first | refine ff ?_ | ((first | refine sR ?_ ?_ | refine sC ?_ ?_) <;> (intro hb; (try rw [hb]); (try simp only [bb] at hb); (try (exfalso; first | omega | exact hb trivial)))) | (apply endS trivial; rotate_left; (· exact eva); (· rfl); try refine ⟨?_, rfl⟩) | fail)
    all_goals
      rename_i hfl hb1
      refine Ev.mono (wide_loop σ _ _ _) ?_
      rintro _ _ _ ⟨rfl, hF, rfl⟩
      apply blkQ.e
      apply thenQ.n
      refine Ev.kp hF ?_
      repeat' (first | refine ff ?_ | ((first | refine sR ?_ ?_ | refine sC ?_ ?_) <;> (intro hb; (try rw [hb]); (try simp only [bb] at hb); (try (exfalso; first | omega | exact hb trivial)))) | (apply endS trivial; rotate_left; (· exact eva); (· rfl); try refine ⟨?_, rfl⟩) | fail)
      all_goals (try simp only [sineV, bareV, angV, backV, foldV, fracV, hfl, hb1, hb, if_true, Bool.false_eq_true, if_false])
end Go.Abs

