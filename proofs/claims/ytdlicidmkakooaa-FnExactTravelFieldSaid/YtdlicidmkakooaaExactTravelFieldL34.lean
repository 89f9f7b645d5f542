/- Laws of functions, some texts put together. Conditions: the laws of what they call. -/
import Derived.Test.YtdlicidmkakooaaExactTravelFieldL30
import Derived.Test.YtdlicidmkakooaaExactTravelFieldL05
import Derived.Test.YtdlicidmkakooaaExactTravelFieldWvX2
import Derived.Test.YtdlicidmkakooaaExactTravelFieldWvMF
import Derived.Test.YtdlicidmkakooaaExactTravelFieldL08
import Derived.Test.YtdlicidmkakooaaExactTravelFieldWvH3
import Derived.Test.YtdlicidmkakooaaExactTravelFieldL09
namespace Go.Abs

set_option linter.unusedSimpArgs false
set_option linter.unusedVariables false
set_option maxHeartbeats 8000000
/- math.Signbit -/
def math_Signbit_r0 : List SOper := [
 ⟨some 2, none, .mov (.const (.bool false)), 0⟩]
def math_Signbit_r1 (i_math_Float64bits : FuncId) : List SOper := [
 ⟨some 3, none, .mov (.tmp 0), 0⟩,
 ⟨some 4, none, .call (.func i_math_Float64bits) [(.tmp 3)], 1⟩,
 ⟨some 5, none, .conv (.toInt .i64) (.tmp 4), 3⟩,
 ⟨some 6, none, .bin .lss .other (.tmp 5) (.const (.int .i64 0)), 7⟩,
 ⟨some 2, none, .mov (.tmp 6), 15⟩]
def math_Signbit (i_math_Float64bits : FuncId) : SFunc := ⟨7, [.tmp 2], (.kp [0] (.seq (.region math_Signbit_r0 false) (.kp [0] (.seq (.region (math_Signbit_r1 i_math_Float64bits) false) .ret))))⟩

/- loop.example/g01201/impl.SameNumber -/
def impl_SameNumber_r0 : List SOper := [
 ⟨some 4, none, .mov (.const (.bool false)), 0⟩]
def impl_SameNumber_r1 : List SOper := [
 ⟨some 5, none, .mov (.tmp 0), 0⟩,
 ⟨some 6, none, .mov (.tmp 0), 0⟩,
 ⟨some 7, none, .bin .neq .other (.tmp 5) (.tmp 6), 3⟩,
 ⟨some 8, none, .mov (.tmp 7), 7⟩,
  ⟨(some 9), (some (8, false)), .mov (.tmp 1), 15⟩,
  ⟨(some 10), (some (8, false)), .mov (.tmp 1), 15⟩,
  ⟨(some 11), (some (8, false)), .bin .neq .other (.tmp 9) (.tmp 10), 63⟩,
 ⟨some 12, none, .pick (.tmp 8) (.const (.bool true)) (.tmp 11), 127⟩]
def impl_SameNumber_r2 : List SOper := [
 ⟨some 13, none, .mov (.tmp 0), 0⟩,
 ⟨some 14, none, .mov (.tmp 0), 0⟩,
 ⟨some 15, none, .bin .neq .other (.tmp 13) (.tmp 14), 3⟩,
 ⟨some 16, none, .mov (.tmp 15), 7⟩,
  ⟨(some 17), (some (16, true)), .mov (.tmp 1), 15⟩,
  ⟨(some 18), (some (16, true)), .mov (.tmp 1), 15⟩,
  ⟨(some 19), (some (16, true)), .bin .neq .other (.tmp 17) (.tmp 18), 63⟩,
 ⟨some 20, none, .pick (.tmp 16) (.tmp 19) (.const (.bool false)), 127⟩,
 ⟨some 4, none, .mov (.tmp 20), 255⟩]
def impl_SameNumber_r3 (i_math_Signbit : FuncId) : List SOper := [
 ⟨some 21, none, .mov (.tmp 0), 0⟩,
 ⟨some 22, none, .mov (.tmp 1), 0⟩,
 ⟨some 23, none, .bin .eql .other (.tmp 21) (.tmp 22), 3⟩,
 ⟨some 24, none, .mov (.tmp 23), 7⟩,
  ⟨(some 25), (some (24, true)), .mov (.tmp 0), 15⟩,
  ⟨(some 26), (some (24, true)), .conv (.toFloat .f64) (.tmp 25), 31⟩,
  ⟨(some 27), (some (24, true)), .call (.func i_math_Signbit) [(.tmp 26)], 63⟩,
  ⟨(some 28), (some (24, true)), .mov (.tmp 1), 15⟩,
  ⟨(some 29), (some (24, true)), .conv (.toFloat .f64) (.tmp 28), 143⟩,
  ⟨(some 30), (some (24, true)), .call (.func i_math_Signbit) [(.tmp 29)], 511⟩,
  ⟨(some 31), (some (24, true)), .bin .eql .bool (.tmp 27) (.tmp 30), 1023⟩,
 ⟨some 32, none, .pick (.tmp 24) (.tmp 31) (.const (.bool false)), 2047⟩,
 ⟨some 4, none, .mov (.tmp 32), 4095⟩]
def impl_SameNumber (i_math_Signbit : FuncId) : SFunc := ⟨33, [.tmp 4], (.kp [0,1] (.seq (.region impl_SameNumber_r0 false) (.kp [0,1] (.seq (.seq (.region impl_SameNumber_r1 false) (.kp [0,1,12] (.cond (.tmp 12) (.seq (.region impl_SameNumber_r2 false) .ret) .skip))) (.kp [0,1] (.seq (.region (impl_SameNumber_r3 i_math_Signbit) false) .ret))))))⟩

/- loop.example/g01201/spec.l01Bits -/
def spec_l01Bits_r0 : List SOper := [
 ⟨some 2, none, .mov (.const (.int .i64 0)), 0⟩]
def spec_l01Bits_r1 : List SOper := [
 ⟨some 3, none, .mov (.tmp 0), 0⟩,
 ⟨some 4, none, .mov (.tmp 0), 0⟩,
 ⟨some 5, none, .bin .neq .other (.tmp 3) (.tmp 4), 3⟩]
def spec_l01Bits_r2 : List SOper := [
 ⟨some 2, none, .mov (.const (.int .i64 2143289344)), 0⟩]
def spec_l01Bits_r3 (i_math_Float32bits : FuncId) : List SOper := [
 ⟨some 6, none, .mov (.tmp 0), 0⟩,
 ⟨some 7, none, .call (.func i_math_Float32bits) [(.tmp 6)], 1⟩,
 ⟨some 8, none, .conv (.toInt .i64) (.tmp 7), 3⟩,
 ⟨some 2, none, .mov (.tmp 8), 7⟩]
def spec_l01Bits (i_math_Float32bits : FuncId) : SFunc := ⟨9, [.tmp 2], (.kp [0] (.seq (.region spec_l01Bits_r0 false) (.kp [0] (.seq (.seq (.region spec_l01Bits_r1 false) (.kp [0,5] (.cond (.tmp 5) (.seq (.region spec_l01Bits_r2 false) .ret) .skip))) (.kp [0] (.seq (.region (spec_l01Bits_r3 i_math_Float32bits) false) .ret))))))⟩

/- loop.example/g01201/spec.l01Same -/
def spec_l01Same_r0 : List SOper := [
 ⟨some 4, none, .mov (.const (.bool false)), 0⟩]
def spec_l01Same_r1 (i_spec_l01Bits : FuncId) : List SOper := [
 ⟨some 5, none, .mov (.tmp 0), 0⟩,
 ⟨some 6, none, .call (.func i_spec_l01Bits) [(.tmp 5)], 1⟩,
 ⟨some 7, none, .mov (.tmp 1), 0⟩,
 ⟨some 8, none, .call (.func i_spec_l01Bits) [(.tmp 7)], 7⟩,
 ⟨some 9, none, .bin .eql .other (.tmp 6) (.tmp 8), 15⟩,
 ⟨some 4, none, .mov (.tmp 9), 31⟩]
def spec_l01Same (i_spec_l01Bits : FuncId) : SFunc := ⟨10, [.tmp 4], (.kp [0,1] (.seq (.region spec_l01Same_r0 false) (.kp [0,1] (.seq (.region (spec_l01Same_r1 i_spec_l01Bits) false) .ret))))⟩


theorem wf32 {x : Nat} (h : (Lit.float .f32 x).wf = true) : x < 4294967296 := by simpa [Lit.wf] using h
def math_Float64bits_ok (c : Contract) : Prop := ∀ (σ : Heap) (b : Nat), isNaN .f64 b = false → Ret c [.float .f64 b] σ fun v σ' => v = .int .u64 b ∧ σ' = σ
theorem math_Float64bits_law : math_Float64bits_ok (pureC gBits64) := fun σ b h => ret_bits64 σ h
def math_Float32bits_ok (c : Contract) : Prop := ∀ (σ : Heap) (b : Nat), isNaN .f32 b = false → Ret c [.float .f32 b] σ fun v σ' => v = .int .u32 b ∧ σ' = σ
theorem math_Float32bits_law : math_Float32bits_ok (pureC gBits32) := fun σ b h => ret_bits32 σ h
theorem wrap_neg {b : Nat} (hb : b < 18446744073709551616) : decide (IntKind.i64.wrap (b : Int) < 0) = sgn64 b := by
  unfold sgn64
  rw [decide_eq_decide]
  simp only [IntKind.wrap]
  simp [IntKind.bits, IntKind.signed]
  omega
def math_Signbit_ok (c : Contract) : Prop := ∀ (σ : Heap) (b : Nat), isNaN .f64 b = false → b < 18446744073709551616 → Ret c [.float .f64 b] σ fun v σ' => v = .bool (sgn64 b) ∧ σ' = σ
theorem math_Signbit_law {C : Ctab} {i : FuncId} {c : Contract} (h1 : Has C i c math_Float64bits_ok) : math_Signbit_ok (gcC C (math_Signbit i) true) := by
  intro σ b hn hb
  refine ret_gc rfl rfl ?_
  repeat' (first | refine ff ?_ | (apply EvR.aCall h1.at_; (· exact eva); (· apply h1.ok <;> exact sid); (rintro _ _ ⟨rfl, rfl⟩; refine EvR.nrm ?_)) | ((first | refine sR ?_ ?_ | refine sC ?_ ?_) <;> (intro hb; (try rw [hb]); (try simp only [bb] at hb); (try (exfalso; first | omega | exact hb trivial)))) | (apply endS trivial; rotate_left; (· exact eva); (· rfl); try refine ⟨?_, rfl⟩) | fail)
  rw [wrap_neg hb]

end Go.Abs


namespace Go.Abs

set_option linter.unusedSimpArgs false
set_option linter.unusedVariables false
set_option maxHeartbeats 8000000


theorem sheet_absW {σ : Heap} {v : Value} (h : argAbs σ true [.int .i64, .int .i64, .bool, .rowF .f32, .rowF .f32] v) :
    ∃ w h wr sv lv sp lo, v = shV w h wr sv lv ∧ ShR σ sv lv sp lo ∧ sp.length ≤ 9223372036854775807 ∧ lo.length ≤ 9223372036854775807 ∧ inK .i64 w ∧ inK .i64 h ∧ (∀ x ∈ sp, x < 4294967296) ∧ (∀ x ∈ lo, x < 4294967296) := by
  obtain ⟨cs, h1, h2⟩ := h
  obtain ⟨_, _, rfl, ⟨w, rfl, hw⟩, g1⟩ := absAll_cons h1
  obtain ⟨_, _, rfl, ⟨h, rfl, hh⟩, g2⟩ := absAll_cons g1
  obtain ⟨_, _, rfl, ⟨wr, rfl⟩, g3⟩ := absAll_cons g2
  obtain ⟨_, _, rfl, ⟨sp, hs, hs2, hs3⟩, g4⟩ := absAll_cons g3
  obtain ⟨_, _, rfl, ⟨lo, hl, hl2, hl3⟩, g5⟩ := absAll_cons g4
  cases absAll_nil g5
  rw [maxLen_eq] at hs2 hl2
  exact ⟨w, h, wr, _, _, sp, lo, h2, ⟨hs, hl⟩, hs2, hl2, hw, hh, fun x hx => wf32 (hs3 x hx), fun x hx => wf32 (hl3 x hx)⟩

end Go.Abs

