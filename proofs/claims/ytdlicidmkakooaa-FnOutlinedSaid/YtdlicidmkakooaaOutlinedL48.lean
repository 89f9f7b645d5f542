/- Laws of functions: lists of numbers are drawn; what laws read of bytes. Conditions: the laws of what they call. -/
import Derived.Test.YtdlicidmkakooaaOutlinedL47
namespace Go.Abs

set_option linter.unusedSimpArgs false
set_option linter.unusedVariables false
set_option maxHeartbeats 8000000
set_option maxRecDepth 20000
/- loop.example/g01201/spec.l00From -/
def spec_l00From_r0 : List SOper := [
 ⟨some 2, none, .mov (.const (.pointer none)), 0⟩]
def spec_l00From_r1 : List SOper := [
 ⟨some 3, none, .mov (.tmp 0), 0⟩,
 ⟨some 4, none, .build [(.slice none 0 0), (.int .i64 0), (.int .u64 0)] [(0, 1, (.tmp 3))], 1⟩,
 ⟨some 5, none, .box (.tmp 4), 3⟩,
 ⟨some 2, none, .mov (.tmp 5), 7⟩]
def spec_l00From : SFunc := ⟨6, [.tmp 2], (.kp [0] (.seq (.region spec_l00From_r0 false) (.kp [0] (.seq (.region spec_l00From_r1 false) .ret))))⟩

def spec_l00From_ok (c : Contract) : Prop := ∀ (σ : Heap) (cv : Value), cellOk cv = true → Ret c [cv] σ fun v σ' => v = .pointer (some ⟨σ.length, 0, none⟩) ∧ σ' = σ ++ [srcO cv 0 0]
theorem spec_l00From_law {C : Ctab} : spec_l00From_ok (bodyC C spec_l00From true) := by
  intro σ cv k1
  refine ret_bd rfl rfl ?_
  repeat' (first | refine ff ?_ | ((first | refine sR ?_ ?_ | refine sC ?_ ?_) <;> (intro hb; (try rw [hb]); (try simp only [bb] at hb); (try (exfalso; first | omega | exact hb trivial)))) | (apply endS trivial; rotate_left; (· exact eva); (· rfl); try refine ⟨?_, rfl⟩) | fail)
  apply endB trivial
  · exact eva
  · exact ⟨rfl, rfl⟩
end Go.Abs

