/- Laws of functions, some texts put together. Conditions: the laws of what they call. -/
import Derived.Test.YtdlicidmkakooaaOutlinedL08
import Derived.Test.YtdlicidmkakooaaOutlinedL12
import Derived.Test.YtdlicidmkakooaaOutlinedL32
import Derived.Test.YtdlicidmkakooaaOutlinedWvMF
import Derived.Test.YtdlicidmkakooaaOutlinedL13
namespace Go.Abs

set_option linter.unusedSimpArgs false
set_option linter.unusedVariables false
set_option maxHeartbeats 8000000

theorem set_self {xs : List Nat} {j : Nat} (h : j < xs.length) : xs.set j (xs.getD j 0) = xs := by
  apply List.ext_getElem?
  intro i
  by_cases hi : j = i
  · subst hi; rw [List.getElem?_set_self h, List.getElem?_eq_getElem h, List.getD_eq_getElem?_getD, List.getElem?_eq_getElem h]; rfl
  · rw [List.getElem?_set_ne hi]
end Go.Abs


namespace Go.Abs

set_option linter.unusedSimpArgs false
set_option linter.unusedVariables false
set_option maxHeartbeats 8000000
/- loop.example/g01201/spec.l01Bits -/
def spec_l01Bits_r0 : List SOper := [
 ⟨some 2, none, .mov (.const (.int .i64 0)), 0⟩]
def spec_l01Bits_r1 : List SOper := [
 ⟨some 3, none, .mov (.tmp 0), 0⟩,
 ⟨some 4, none, .mov (.tmp 0), 0⟩,
 ⟨some 5, none, .bin .neq .other (.tmp 3) (.tmp 4), 3⟩]
def spec_l01Bits_r2 : List SOper := [
 ⟨some 2, none, .mov (.const (.int .i64 2143289344)), 0⟩]
def spec_l01Bits_r3 (i_math_Float32bits : FuncId) : List SOper := [
 ⟨some 6, none, .mov (.tmp 0), 0⟩,
 ⟨some 7, none, .call (.func i_math_Float32bits) [(.tmp 6)], 1⟩,
 ⟨some 8, none, .conv (.toInt .i64) (.tmp 7), 3⟩,
 ⟨some 2, none, .mov (.tmp 8), 7⟩]
def spec_l01Bits (i_math_Float32bits : FuncId) : SFunc := ⟨9, [.tmp 2], (.kp [0] (.seq (.region spec_l01Bits_r0 false) (.kp [0] (.seq (.seq (.region spec_l01Bits_r1 false) (.kp [0,5] (.cond (.tmp 5) (.seq (.region spec_l01Bits_r2 false) .ret) .skip))) (.kp [0] (.seq (.region (spec_l01Bits_r3 i_math_Float32bits) false) .ret))))))⟩

/- loop.example/g01201/spec.l01Same -/
def spec_l01Same_r0 : List SOper := [
 ⟨some 4, none, .mov (.const (.bool false)), 0⟩]
def spec_l01Same_r1 (i_spec_l01Bits : FuncId) : List SOper := [
 ⟨some 5, none, .mov (.tmp 0), 0⟩,
 ⟨some 6, none, .call (.func i_spec_l01Bits) [(.tmp 5)], 1⟩,
 ⟨some 7, none, .mov (.tmp 1), 0⟩,
 ⟨some 8, none, .call (.func i_spec_l01Bits) [(.tmp 7)], 7⟩,
 ⟨some 9, none, .bin .eql .other (.tmp 6) (.tmp 8), 15⟩,
 ⟨some 4, none, .mov (.tmp 9), 31⟩]
def spec_l01Same (i_spec_l01Bits : FuncId) : SFunc := ⟨10, [.tmp 4], (.kp [0,1] (.seq (.region spec_l01Same_r0 false) (.kp [0,1] (.seq (.region (spec_l01Same_r1 i_spec_l01Bits) false) .ret))))⟩


theorem wf32 {x : Nat} (h : (Lit.float .f32 x).wf = true) : x < 4294967296 := by simpa [Lit.wf] using h
def math_Float32bits_ok (c : Contract) : Prop := ∀ (σ : Heap) (b : Nat), isNaN .f32 b = false → Ret c [.float .f32 b] σ fun v σ' => v = .int .u32 b ∧ σ' = σ
theorem math_Float32bits_law : math_Float32bits_ok (pureC gBits32) := fun σ b h => ret_bits32 σ h
def math_Float32frombits_ok (c : Contract) : Prop := ∀ (σ : Heap) (n : Int), Ret c [.int .u32 n] σ fun v σ' => v = .float .f32 n.toNat ∧ σ' = σ
theorem math_Float32frombits_law : math_Float32frombits_ok (pureC gFrom32) := fun σ n => ret_from32 n σ

/-- Numbers that are no NaN, in 32 bits. -/
def nums (xs : List Nat) : Prop := ∀ i, i < xs.length → xs.getD i 0 < 4294967296 ∧ isNaN .f32 (xs.getD i 0) = false
theorem nums_of {xs : List Nat} {b : Nat} (h1 : ∀ x ∈ xs, x < 4294967296) (h2 : xs.all (fun x => share x b) = true) : nums xs := by
  intro i hi
  have hm : xs.getD i 0 ∈ xs := by rw [List.getD_eq_getElem?_getD, List.getElem?_eq_getElem hi]; simp
  refine ⟨h1 _ hm, ?_⟩
  have := List.all_eq_true.1 h2 _ hm
  simp only [share, Bool.and_eq_true] at this
  exact (fge_nan this.1).1
end Go.Abs


namespace Go.Abs

set_option linter.unusedSimpArgs false
set_option linter.unusedVariables false
set_option maxHeartbeats 8000000
set_option maxRecDepth 20000
theorem isSheet_nums {w h : Int} {sp lo : List Nat} (hs : isSheet w h sp lo = true) (h1 : ∀ x ∈ sp, x < 4294967296) (h2 : ∀ x ∈ lo, x < 4294967296) : nums sp ∧ nums lo := by
  simp only [isSheet, Bool.and_eq_true] at hs
  exact ⟨nums_of h1 hs.1.2, nums_of h2 hs.2⟩
end Go.Abs

