/- Laws of functions, some texts put together. Conditions: the laws of what they call. -/
import Derived.Test.YtdlicidmkakooaaExactTravelFieldL101
import Derived.Test.YtdlicidmkakooaaExactTravelFieldL36
import Derived.Test.YtdlicidmkakooaaExactTravelFieldL69
import Derived.Test.YtdlicidmkakooaaExactTravelFieldL88
import Derived.Test.YtdlicidmkakooaaExactTravelFieldL30
import Derived.Test.YtdlicidmkakooaaExactTravelFieldL05
import Derived.Test.YtdlicidmkakooaaExactTravelFieldWvX2
import Derived.Test.YtdlicidmkakooaaExactTravelFieldL27
namespace Go.Abs

set_option linter.unusedSimpArgs false
set_option linter.unusedVariables false
set_option maxHeartbeats 8000000
set_option maxRecDepth 20000
/- loop.example/g01201/spec.l01Finite -/
def spec_l01Finite_r0 : List SOper := [
 ⟨some 2, none, .mov (.const (.bool false)), 0⟩]
def spec_l01Finite_r1 : List SOper := [
 ⟨some 3, none, .mov (.tmp 0), 0⟩,
 ⟨some 4, none, .mov (.tmp 0), 0⟩,
 ⟨some 5, none, .bin .sub .other (.tmp 3) (.tmp 4), 3⟩,
 ⟨some 6, none, .bin .eql .other (.tmp 5) (.const (.float .f32 0)), 7⟩,
 ⟨some 2, none, .mov (.tmp 6), 15⟩]
def spec_l01Finite : SFunc := ⟨7, [.tmp 2], (.kp [0] (.seq (.region spec_l01Finite_r0 false) (.kp [0] (.seq (.region spec_l01Finite_r1 false) .ret))))⟩

def finB (x : Nat) : Bool := feq .f32 (fbin .sub .f32 x x) 0
def spec_l01Finite_ok (c : Contract) : Prop := ∀ (σ : Heap) (x : Nat), Ret c [.float .f32 x] σ fun v σ' => v = .bool (finB x) ∧ σ' = σ
theorem spec_l01Finite_law {C : Ctab} : spec_l01Finite_ok (gcC C spec_l01Finite true) := by
  intro σ x
  refine ret_gc rfl rfl ?_
  repeat' (first | refine ff ?_ | ((first | refine sR ?_ ?_ | refine sC ?_ ?_) <;> (intro hb; (try rw [hb]); (try simp only [bb] at hb); (try (exfalso; first | omega | exact hb trivial)))) | (apply endS trivial; rotate_left; (· exact eva); (· rfl); try refine ⟨?_, rfl⟩) | fail)
  all_goals (try rfl)
def zs (lo : List Nat) (i : Nat) : List Nat := List.replicate i 0 ++ lo.drop i
end Go.Abs


namespace Go.Abs
set_option linter.unusedSimpArgs false
set_option linter.unusedVariables false
set_option maxHeartbeats 8000000
set_option maxRecDepth 4000

theorem fin_number {x : Nat} (h : finB x = true) : ∃ s m e, Ieee.single.read x = .number s m e := by
  unfold finB at h
  cases hr : Ieee.single.read x with
  | number s m e => exact ⟨s, m, e, rfl⟩
  | infinity s =>
    exfalso
    have : fbin .sub .f32 x x = nanOf .f32 := by
      show (((Ieee.single.read x).sum (Ieee.single.read x).opposite).map Ieee.single.write).getD _ = _
      rw [hr]; cases s <;> rfl
    rw [this, show feq .f32 (nanOf .f32) 0 = false from by decide +kernel] at h; cases h
  | nan s t =>
    exfalso
    have : fbin .sub .f32 x x = nanOf .f32 := by
      show (((Ieee.single.read x).sum (Ieee.single.read x).opposite).map Ieee.single.write).getD _ = _
      rw [hr]; rfl
    rw [this, show feq .f32 (nanOf .f32) 0 = false from by decide +kernel] at h; cases h
end Go.Abs

