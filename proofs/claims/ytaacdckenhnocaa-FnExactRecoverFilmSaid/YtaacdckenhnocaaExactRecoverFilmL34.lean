/- Laws of functions: bits of numbers and whether numbers are the same; the cells that have a paint. Conditions: the laws of what they call. -/
import Derived.Test.YtaacdckenhnocaaExactRecoverFilmL30
import Derived.Test.YtaacdckenhnocaaExactRecoverFilmL13
import Derived.Test.YtaacdckenhnocaaExactRecoverFilmWvMF
import Derived.Test.YtaacdckenhnocaaExactRecoverFilmL07
import Derived.Test.YtaacdckenhnocaaExactRecoverFilmL12
namespace Go.Abs

set_option linter.unusedSimpArgs false
set_option linter.unusedVariables false
set_option maxHeartbeats 8000000
/- loop.example/g01201/spec.l01Bits -/
def spec_l01Bits_r0 : List SOper := [
 ⟨some 2, none, .mov (.const (.int .i64 0)), 0⟩]
def spec_l01Bits_r1 : List SOper := [
 ⟨some 3, none, .mov (.tmp 0), 0⟩,
 ⟨some 4, none, .mov (.tmp 0), 0⟩,
 ⟨some 5, none, .bin .neq .other (.tmp 3) (.tmp 4), 3⟩]
def spec_l01Bits_r2 : List SOper := [
 ⟨some 2, none, .mov (.const (.int .i64 2143289344)), 0⟩]
def spec_l01Bits_r3 (i_math_Float32bits : FuncId) : List SOper := [
 ⟨some 6, none, .mov (.tmp 0), 0⟩,
 ⟨some 7, none, .call (.func i_math_Float32bits) [(.tmp 6)], 1⟩,
 ⟨some 8, none, .conv (.toInt .i64) (.tmp 7), 3⟩,
 ⟨some 2, none, .mov (.tmp 8), 7⟩]
def spec_l01Bits (i_math_Float32bits : FuncId) : SFunc := ⟨9, [.tmp 2], (.kp [0] (.seq (.region spec_l01Bits_r0 false) (.kp [0] (.seq (.seq (.region spec_l01Bits_r1 false) (.kp [0,5] (.cond (.tmp 5) (.seq (.region spec_l01Bits_r2 false) .ret) .skip))) (.kp [0] (.seq (.region (spec_l01Bits_r3 i_math_Float32bits) false) .ret))))))⟩

def math_Float32bits_ok (c : Contract) : Prop := ∀ (σ : Heap) (b : Nat), isNaN .f32 b = false → Ret c [.float .f32 b] σ fun v σ' => v = .int .u32 b ∧ σ' = σ
theorem math_Float32bits_law : math_Float32bits_ok (pureC gBits32) := fun σ b h => ret_bits32 σ h
def math_Float32frombits_ok (c : Contract) : Prop := ∀ (σ : Heap) (n : Int), Ret c [.int .u32 n] σ fun v σ' => v = .float .f32 n.toNat ∧ σ' = σ
theorem math_Float32frombits_law : math_Float32frombits_ok (pureC gFrom32) := fun σ n => ret_from32 n σ

end Go.Abs

