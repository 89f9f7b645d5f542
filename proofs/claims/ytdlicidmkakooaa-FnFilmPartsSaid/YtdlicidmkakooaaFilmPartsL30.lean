/- Laws of functions, some texts put together. Conditions: the laws of what they call. -/
import Derived.Test.YtdlicidmkakooaaFilmPartsL07
import Derived.Test.YtdlicidmkakooaaWvH3
import Derived.Test.YtdlicidmkakooaaFilmPartsL13
import Derived.Test.YtdlicidmkakooaaWvX2
namespace Go.Abs

set_option linter.unusedSimpArgs false
set_option linter.unusedVariables false
set_option maxHeartbeats 8000000


abbrev rowI (xs : List Int) : AObj := ⟨i64s xs, 1, true⟩
end Go.Abs


namespace Go.Abs

set_option linter.unusedSimpArgs false
set_option linter.unusedVariables false
set_option maxHeartbeats 8000000
/- loop.example/g01201/spec.l00Max -/
def spec_l00Max_r0 : List SOper := [
  ⟨(some 4), none, .mov (.const (.int .i64 0)), 0⟩]
def spec_l00Max_r1 : List SOper := [
  ⟨(some 5), none, .mov (.tmp 0), 0⟩,
  ⟨(some 6), none, .mov (.tmp 1), 0⟩,
  ⟨(some 7), none, .bin .gtr .other (.tmp 5) (.tmp 6), 3⟩]
def spec_l00Max_r2 : List SOper := [
  ⟨(some 8), none, .mov (.tmp 0), 0⟩,
  ⟨(some 4), none, .mov (.tmp 8), 1⟩]
def spec_l00Max_r3 : List SOper := [
  ⟨(some 9), none, .mov (.tmp 1), 0⟩,
  ⟨(some 4), none, .mov (.tmp 9), 1⟩]
def spec_l00Max : SFunc := ⟨10, [.tmp 4], (.kp [0, 1] (.seq (.region spec_l00Max_r0 false) (.kp [0, 1] (.seq (.seq (.region spec_l00Max_r1 false) (.kp [0, 1, 7] (.cond (.tmp 7) (.seq (.region spec_l00Max_r2 false) .ret) .skip))) (.kp [1] (.seq (.region spec_l00Max_r3 false) .ret))))))⟩

/- loop.example/g01201/spec.l00Min -/
def spec_l00Min_r0 : List SOper := [
  ⟨(some 4), none, .mov (.const (.int .i64 0)), 0⟩]
def spec_l00Min_r1 : List SOper := [
  ⟨(some 5), none, .mov (.tmp 0), 0⟩,
  ⟨(some 6), none, .mov (.tmp 1), 0⟩,
  ⟨(some 7), none, .bin .lss .other (.tmp 5) (.tmp 6), 3⟩]
def spec_l00Min_r2 : List SOper := [
  ⟨(some 8), none, .mov (.tmp 0), 0⟩,
  ⟨(some 4), none, .mov (.tmp 8), 1⟩]
def spec_l00Min_r3 : List SOper := [
  ⟨(some 9), none, .mov (.tmp 1), 0⟩,
  ⟨(some 4), none, .mov (.tmp 9), 1⟩]
def spec_l00Min : SFunc := ⟨10, [.tmp 4], (.kp [0, 1] (.seq (.region spec_l00Min_r0 false) (.kp [0, 1] (.seq (.seq (.region spec_l00Min_r1 false) (.kp [0, 1, 7] (.cond (.tmp 7) (.seq (.region spec_l00Min_r2 false) .ret) .skip))) (.kp [1] (.seq (.region spec_l00Min_r3 false) .ret))))))⟩


theorem atC_bd {W H : Nat} {u v : Int} (hW : 3 ≤ W) (hH : 3 ≤ H) (u1 : -1 ≤ u) (u2 : u ≤ W) (v1 : -1 ≤ v) (v2 : v ≤ H) : 0 ≤ atC W H u v ∧ atC W H u v < ((W * H : Nat) : Int) := by
  unfold atC
  rw [wrapC (by omega) u1 u2, wrapC (by omega) v1 v2]
  obtain ⟨x, hx, ex⟩ : ∃ x : Nat, x < W ∧ (if u = -1 then (W : Int) - 1 else if u = W then 0 else u) = x := by
    refine ⟨(if u = -1 then (W : Int) - 1 else if u = W then 0 else u).toNat, ?_, ?_⟩ <;> split <;> (try split) <;> omega
  obtain ⟨y, hy, ey⟩ : ∃ y : Nat, y < H ∧ (if v = -1 then (H : Int) - 1 else if v = H then 0 else v) = y := by
    refine ⟨(if v = -1 then (H : Int) - 1 else if v = H then 0 else v).toNat, ?_, ?_⟩ <;> split <;> (try split) <;> omega
  rw [ex, ey]
  have := cell_lt hx hy
  have e : (W : Int) * (y : Int) = ((W * y : Nat) : Int) := (Int.natCast_mul _ _).symm
  omega
def spec_l00Max_ok (c : Contract) : Prop := ∀ (σ : Heap) (a b : Int), Ret c [.int .i64 a, .int .i64 b] σ fun v σ' => v = .int .i64 (max a b) ∧ σ' = σ
theorem spec_l00Max_law {C : Ctab} : spec_l00Max_ok (gcC C spec_l00Max true) := by
  intro σ a b
  refine ret_gc rfl rfl ?_
  repeat' (first | refine ff ?_ | ((first | refine EvR.aSplB ?_ ?_ | refine Ev.aSplB ?_ ?_) <;> (intro hb; (try rw [hb]); (try simp only [Bool.not_eq_true', Bool.not_eq_false', Bool.not_eq_eq_eq_not, Bool.not_true, Bool.not_false, decide_eq_true_eq, decide_eq_false_iff_not, Bool.and_eq_true, Bool.and_eq_false_iff, Bool.or_eq_true, Bool.or_eq_false_iff] at hb); (try (exfalso; first | omega | exact hb trivial)))) | (apply endS trivial; rotate_left; (· exact eva); (· rfl); try refine ⟨?_, rfl⟩) | fail)
  all_goals (congr 1; omega)
def spec_l00Min_ok (c : Contract) : Prop := ∀ (σ : Heap) (a b : Int), Ret c [.int .i64 a, .int .i64 b] σ fun v σ' => v = .int .i64 (min a b) ∧ σ' = σ
theorem spec_l00Min_law {C : Ctab} : spec_l00Min_ok (gcC C spec_l00Min true) := by
  intro σ a b
  refine ret_gc rfl rfl ?_
  repeat' (first | refine ff ?_ | ((first | refine EvR.aSplB ?_ ?_ | refine Ev.aSplB ?_ ?_) <;> (intro hb; (try rw [hb]); (try simp only [Bool.not_eq_true', Bool.not_eq_false', Bool.not_eq_eq_eq_not, Bool.not_true, Bool.not_false, decide_eq_true_eq, decide_eq_false_iff_not, Bool.and_eq_true, Bool.and_eq_false_iff, Bool.or_eq_true, Bool.or_eq_false_iff] at hb); (try (exfalso; first | omega | exact hb trivial)))) | (apply endS trivial; rotate_left; (· exact eva); (· rfl); try refine ⟨?_, rfl⟩) | fail)
  all_goals (congr 1; omega)
end Go.Abs

