/- Laws of functions, some texts put together. Conditions: the laws of what they call. -/
import Derived.Test.YtdlicidmkakooaaFilmPartsL03
namespace Go.Abs

set_option linter.unusedSimpArgs false
set_option linter.unusedVariables false
set_option maxHeartbeats 8000000
/- (loop.example/g01201/impl.Sheet).at -/
def impl_Sheet_at_r0 : List SOper := [
  ⟨(some 3), none, .box (.tmp 0), 0⟩,
  ⟨(some 6), none, .mov (.const (.int .i64 0)), 0⟩]
def impl_Sheet_at_r1 : List SOper := [
  ⟨(some 7), none, .mov (.tmp 1), 0⟩,
  ⟨(some 8), none, .fieldAddr 0 (.tmp 3), 0⟩,
  ⟨(some 9), none, .load1 (.tmp 8), 2⟩,
  ⟨(some 10), none, .bin .add .other (.tmp 7) (.tmp 9), 7⟩,
  ⟨(some 11), none, .fieldAddr 0 (.tmp 3), 0⟩,
  ⟨(some 12), none, .load1 (.tmp 11), 16⟩,
  ⟨(some 13), none, .bin .rem .other (.tmp 10) (.tmp 12), 63⟩,
  ⟨(some 14), none, .fieldAddr 0 (.tmp 3), 0⟩,
  ⟨(some 15), none, .load1 (.tmp 14), 128⟩,
  ⟨(some 16), none, .mov (.tmp 2), 0⟩,
  ⟨(some 17), none, .fieldAddr 1 (.tmp 3), 0⟩,
  ⟨(some 18), none, .load1 (.tmp 17), 1024⟩,
  ⟨(some 19), none, .bin .add .other (.tmp 16) (.tmp 18), 3584⟩,
  ⟨(some 20), none, .fieldAddr 1 (.tmp 3), 0⟩,
  ⟨(some 21), none, .load1 (.tmp 20), 8192⟩,
  ⟨(some 22), none, .bin .rem .other (.tmp 19) (.tmp 21), 32256⟩,
  ⟨(some 23), none, .bin .mul .other (.tmp 15) (.tmp 22), 65408⟩,
  ⟨(some 24), none, .bin .add .other (.tmp 13) (.tmp 23), 131071⟩,
  ⟨(some 6), none, .mov (.tmp 24), 262143⟩]
def impl_Sheet_at : SFunc := ⟨25, [.tmp 6], (.kp [0, 1, 2] (.seq (.region impl_Sheet_at_r0 false) (.kp [1, 2, 3] (.seq (.region impl_Sheet_at_r1 true) .ret))))⟩
theorem impl_Sheet_at_r1_dr : drawOkW wStat impl_Sheet_at_r1 = true := by kernel_rfl
attribute [push_cast] impl_Sheet_at_r1_dr
theorem isSheet_sides {w h : Int} {sp lo : List Nat} (hs : isSheet w h sp lo = true) : 3 ≤ w ∧ w ≤ 16 ∧ 3 ≤ h ∧ h ≤ 16 ∧ (sp.length : Int) = w * h ∧ (lo.length : Int) = w * h := by
  simp [isSheet, sides, inR] at hs
  omega

/-- The index of a cell, around the edges. -/
def atC (w h x y : Int) : Int := (x + w).tmod w + w * ((y + h).tmod h)
theorem tmod_bd (a : Int) {b : Int} (h1 : 3 ≤ b) : -b < a.tmod b ∧ a.tmod b < b := ⟨by have := Int.lt_tmod_of_pos a (show 0 < b by omega); omega, Int.tmod_lt_of_pos a (by omega)⟩
theorem mul_bd {w t : Int} (h1 : 3 ≤ w) (h2 : w ≤ 16) (h3 : -16 ≤ t) (h4 : t ≤ 16) : -256 ≤ w * t ∧ w * t ≤ 256 := by
  constructor
  · have : w * (-t) ≤ 16 * 16 := Int.le_trans (Int.mul_le_mul_of_nonneg_left (by omega : -t ≤ 16) (by omega)) (by omega)
    rw [Int.mul_neg] at this
    omega
  · exact Int.le_trans (Int.mul_le_mul_of_nonneg_left h4 (by omega)) (by omega)
def impl_Sheet_at_ok (c : Contract) : Prop := ∀ (σ : Heap) (w h : Int) (wr : Bool) (sv lv : Value) (x y : Int), cellOk sv = true → cellOk lv = true → 3 ≤ w → w ≤ 16 → 3 ≤ h → h ≤ 16 → -1000 ≤ x → x ≤ 1000 → -1000 ≤ y → y ≤ 1000 →
    Ret c [shV w h wr sv lv, .int .i64 x, .int .i64 y] σ fun v σ' => v = .int .i64 (atC w h x y) ∧ σ' = σ
theorem impl_Sheet_at_law {C : Ctab} : impl_Sheet_at_ok (gcC C impl_Sheet_at true) := by
  intro σ w h wr sv lv x y k1 k2 a1 a2 a3 a4 b1 b2 b3 b4
  have t1 := tmod_bd (x + w) a1
  have t2 := tmod_bd (y + h) a3
  have t3 := mul_bd a1 a2 (t := (y + h).tmod h) (by omega) (by omega)
  unfold atC
  refine ret_gc rfl rfl ?_
  repeat' (first | refine ff ?_ | ((first | refine EvR.aSplB ?_ ?_ | refine Ev.aSplB ?_ ?_) <;> (intro hb; (try rw [hb]); (try simp only [Bool.not_eq_true', Bool.not_eq_false', Bool.not_eq_eq_eq_not, Bool.not_true, Bool.not_false, decide_eq_true_eq, decide_eq_false_iff_not, Bool.and_eq_true, Bool.and_eq_false_iff, Bool.or_eq_true, Bool.or_eq_false_iff] at hb); (try (exfalso; first | omega | exact hb trivial)))) | (apply endS trivial; rotate_left; (· exact eva); (· rfl); try refine ⟨?_, rfl⟩) | fail)
  all_goals (try rfl)


end Go.Abs


namespace Go.Abs
set_option linter.unusedSimpArgs false
set_option linter.unusedVariables false
set_option maxHeartbeats 8000000
theorem atC_in {w h x y : Int} (x0 : 0 ≤ x) (x1 : x < w) (y0 : 0 ≤ y) (y1 : y < h) : atC w h x y = x + w * y := by
  unfold atC
  rw [Int.tmod_eq_emod_of_nonneg (by omega), Int.add_emod_right, Int.emod_eq_of_lt x0 x1, Int.tmod_eq_emod_of_nonneg (by omega), Int.add_emod_right, Int.emod_eq_of_lt y0 y1]
end Go.Abs


namespace Go.Abs

set_option linter.unusedSimpArgs false
set_option linter.unusedVariables false
set_option maxHeartbeats 8000000
/-- The value of a field. -/
abbrev fV (ev xv yv : Value) : Value := .agg #[ev, xv, yv]
structure FlR (σ : Heap) (ev xv yv : Value) (e x y : List Nat) : Prop where
  e : Row σ 1 ev e.length (f32s e)
  x : Row σ 1 xv x.length (f32s x)
  y : Row σ 1 yv y.length (f32s y)
theorem FlR.ext {σ : Heap} {ev xv yv : Value} {e x y : List Nat} (h : FlR σ ev xv yv e x y) (τ : Heap) : FlR (σ ++ τ) ev xv yv e x y := ⟨h.e.ext τ, h.x.ext τ, h.y.ext τ⟩

end Go.Abs

