/- Laws of single functions: sheets. Conditions: the laws of what they call. -/
import Derived.Test.YtogekdhkcndbdaaChangesL01
import Derived.Test.YtogekdhkcndbdaaWvH3
namespace Go.Abs

set_option linter.unusedSimpArgs false
set_option linter.unusedVariables false
set_option maxHeartbeats 8000000
/- loop.example/g01201/impl.within -/
def impl_within_r0 : List SOper := [
  ⟨(some 6), none, .mov (.const (.bool false)), 0⟩]
def impl_within_r1 : List SOper := [
  ⟨(some 7), none, .mov (.tmp 0), 0⟩,
  ⟨(some 8), none, .mov (.tmp 1), 0⟩,
  ⟨(some 9), none, .bin .geq .other (.tmp 7) (.tmp 8), 3⟩,
  ⟨(some 10), none, .mov (.tmp 9), 7⟩,
  ⟨(some 11), (some (10, true)), .mov (.tmp 0), 15⟩,
  ⟨(some 12), (some (10, true)), .mov (.tmp 2), 15⟩,
  ⟨(some 13), (some (10, true)), .bin .leq .other (.tmp 11) (.tmp 12), 63⟩,
  ⟨(some 14), none, .pick (.tmp 10) (.tmp 13) (.const (.bool false)), 127⟩,
  ⟨(some 6), none, .mov (.tmp 14), 255⟩]
def impl_within : SFunc := ⟨15, [.tmp 6], (.kp [0, 1, 2] (.seq (.region impl_within_r0 false) (.kp [0, 1, 2] (.seq (.region impl_within_r1 false) .ret))))⟩

def inR (n lo hi : Int) : Bool := decide (lo ≤ n) && decide (n ≤ hi)
def inR_ok (c : Contract) : Prop := ∀ (σ : Heap) (n lo hi : Int), Ret c [.int .i64 n, .int .i64 lo, .int .i64 hi] σ fun v σ' => v = .bool (inR n lo hi) ∧ σ' = σ
abbrev impl_within_ok := inR_ok
theorem impl_within_law {C : Ctab} : impl_within_ok (gcC C impl_within true) := by
  intro σ n lo hi
  unfold inR
  cases h : decide (lo ≤ n)
  all_goals
    refine ret_gc rfl rfl ?_
    repeat' (first | refine ff ?_ | ((first | refine EvR.aSplB ?_ ?_ | refine Ev.aSplB ?_ ?_) <;> (intro hb; (try rw [hb]); (try simp only [Bool.not_eq_true', Bool.not_eq_false', Bool.not_eq_eq_eq_not, Bool.not_true, Bool.not_false, decide_eq_true_eq, decide_eq_false_iff_not, Bool.and_eq_true, Bool.and_eq_false_iff, Bool.or_eq_true, Bool.or_eq_false_iff] at hb); (try (exfalso; first | omega | exact hb trivial)))) | (apply endS trivial; rotate_left; (· exact eva); (· rfl); try refine ⟨?_, rfl⟩) | fail)
    all_goals (try simp_all)


/-- A row that is an object's whole. -/
abbrev slV (b n : Nat) : Value := .slice (some ⟨b, 0, none⟩) n n
abbrev rowO (xs : List Nat) : AObj := ⟨f32s xs, 1, true⟩

end Go.Abs

