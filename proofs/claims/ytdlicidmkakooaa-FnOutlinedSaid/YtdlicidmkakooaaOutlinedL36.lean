/- Laws of functions, some texts put together. Conditions: the laws of what they call. -/
import Derived.Test.YtdlicidmkakooaaOutlinedL16
namespace Go.Abs

set_option linter.unusedSimpArgs false
set_option linter.unusedVariables false
set_option maxHeartbeats 8000000
/-- The bits of a number; all NaNs have the same. -/
def bitsC (a : Nat) : Nat := if isNaN .f32 a = true then 2143289344 else a
def bits_ok (c : Contract) : Prop := ∀ (σ : Heap) (a : Nat), a < 4294967296 → Ret c [.float .f32 a] σ fun v σ' => v = .int .i64 (bitsC a) ∧ σ' = σ
abbrev spec_l01BitsN_ok := bits_ok
theorem spec_l01BitsN_law {C : Ctab} {i : FuncId} {c : Contract} (h1 : Has C i c math_Float32bits_ok) : spec_l01BitsN_ok (gcC C (spec_l01Bits i) true) := by
  intro σ a ha
  have sa := feq_self .f32 a
  cases hn : isNaN .f32 a
  · rw [hn] at sa
    refine ret_gc rfl rfl ?_
    repeat' (first | refine ff ?_ | (apply EvR.aCall h1.at_; (· exact eva); (· apply h1.ok <;> exact sid); (rintro _ _ ⟨rfl, rfl⟩; refine EvR.nrm ?_)) | ((first | refine sR ?_ ?_ | refine sC ?_ ?_) <;> (intro hb; (try rw [hb]); (try simp only [bb] at hb); (try (exfalso; first | omega | exact hb trivial)))) | (apply endS trivial; rotate_left; (· exact eva); (· rfl); try refine ⟨?_, rfl⟩) | fail)
    all_goals simp_all [bitsC]
  · rw [hn] at sa
    refine ret_gc rfl rfl ?_
    repeat' (first | refine ff ?_ | ((first | refine sR ?_ ?_ | refine sC ?_ ?_) <;> (intro hb; (try rw [hb]); (try simp only [bb] at hb); (try (exfalso; first | omega | exact hb trivial)))) | (apply endS trivial; rotate_left; (· exact eva); (· rfl); try refine ⟨?_, rfl⟩) | fail)
    all_goals simp_all [bitsC]

theorem wrapu64 {n : Nat} (h : n < 18446744073709551616) : IntKind.u64.wrap (n : Int) = n := by
  simp only [IntKind.wrap]
  simp [IntKind.bits, IntKind.signed]
  omega

end Go.Abs


namespace Go.Abs

set_option linter.unusedSimpArgs false
set_option linter.unusedVariables false
set_option maxHeartbeats 8000000
set_option maxRecDepth 20000
theorem xor_zero {x y : Nat} : x ^^^ y = 0 ↔ x = y := by
  constructor
  · intro h
    apply Nat.eq_of_testBit_eq
    intro i
    have h2 : (x ^^^ y).testBit i = false := by rw [h]; simp
    rw [Nat.testBit_xor] at h2
    simpa using h2
  · rintro rfl; simp
end Go.Abs


namespace Go.Abs

set_option linter.unusedSimpArgs false
set_option linter.unusedVariables false
set_option maxHeartbeats 8000000
set_option maxRecDepth 20000
/- loop.example/g01201/spec.l01From -/
def spec_l01From_r0 : List SOper := [
 ⟨some 2, none, .mov (.const (.float .f32 0)), 0⟩]
def spec_l01From_r1 (i_math_Float32frombits : FuncId) : List SOper := [
 ⟨some 3, none, .mov (.tmp 0), 0⟩,
 ⟨some 4, none, .conv (.toInt .u32) (.tmp 3), 1⟩,
 ⟨some 5, none, .call (.func i_math_Float32frombits) [(.tmp 4)], 3⟩,
 ⟨some 2, none, .mov (.tmp 5), 7⟩]
def spec_l01From (i_math_Float32frombits : FuncId) : SFunc := ⟨6, [.tmp 2], (.kp [0] (.seq (.region spec_l01From_r0 false) (.kp [0] (.seq (.region (spec_l01From_r1 i_math_Float32frombits) false) .ret))))⟩


theorem wrapu32 {n : Nat} (h : n < 4294967296) : IntKind.u32.wrap (n : Int) = n := by
  simp only [IntKind.wrap]
  simp [IntKind.bits, IntKind.signed]
  omega
def spec_l01From_ok (c : Contract) : Prop := ∀ (σ : Heap) (n : Nat), n < 4294967296 → Ret c [.int .i64 n] σ fun v σ' => v = .float .f32 n ∧ σ' = σ
theorem spec_l01From_law {C : Ctab} {j : FuncId} {d : Contract} (h2 : Has C j d math_Float32frombits_ok) : spec_l01From_ok (gcC C (spec_l01From j) true) := by
  intro σ n hn
  have hw := wrapu32 hn
  refine ret_gc rfl rfl ?_
  repeat' (first | refine ff ?_ | (apply EvR.aCall h2.at_; (· exact eva); (· apply h2.ok <;> exact sid); (rintro _ _ ⟨rfl, rfl⟩; refine EvR.nrm ?_; try simp only [hw])) | ((first | refine sR ?_ ?_ | refine sC ?_ ?_) <;> (intro hb; (try rw [hb]); (try simp only [bb] at hb); (try (exfalso; first | omega | exact hb trivial)))) | (apply endS trivial; rotate_left; (· exact eva); (· rfl); try refine ⟨?_, rfl⟩) | fail)
  all_goals simp [hw]
end Go.Abs

