/- Laws of functions: some fields of a film, by the reference. Conditions: the laws of what they call. -/
import Derived.Test.YtoijdkmkfhefjaaExactFilmOfL66
namespace Go.Abs

set_option linter.unusedSimpArgs false
set_option linter.unusedVariables false
set_option maxHeartbeats 8000000
set_option maxRecDepth 20000
/- loop.example/g01201/spec.l10Sheet -/
def spec_l10Sheet_r0 : List SOper := [
  ⟨(some 2), none, .alloc [(.int .i64 0), (.int .i64 0), (.bool false), (.slice none 0 0), (.slice none 0 0)], 0⟩]
def spec_l10Sheet_r1 : List SOper := [
  ⟨(some 4), none, .mov (.tmp 0), 0⟩,
  ⟨(some 5), none, .nilCheck (.tmp 4), 1⟩,
  ⟨(some 6), none, .loadN 5 (.tmp 5), 3⟩,
  ⟨(some 3), none, .alloc [(.int .i64 0), (.int .i64 0), (.bool false), (.slice none 0 0), (.slice none 0 0)], 0⟩,
  ⟨none, none, .store 5 (.tmp 3) (.tmp 6), 15⟩]
def spec_l10Sheet_r2 : List SOper := [
  ⟨(some 7), none, .buildSlice 1 0 [] [], 0⟩,
  ⟨(some 8), none, .mov (.tmp 0), 0⟩,
  ⟨(some 9), none, .nilCheck (.tmp 8), 2⟩,
  ⟨(some 10), none, .fieldAddr 3 (.tmp 9), 6⟩,
  ⟨(some 11), none, .load1 (.tmp 10), 14⟩,
  ⟨(some 12), none, .append 1 4 (.tmp 7) (.tmp 11), 31⟩,
  ⟨(some 13), none, .fieldAddr 3 (.tmp 3), 63⟩,
  ⟨none, none, .store 1 (.tmp 13) (.tmp 12), 127⟩]
def spec_l10Sheet_r3 : List SOper := [
  ⟨(some 14), none, .buildSlice 1 0 [] [], 0⟩,
  ⟨(some 15), none, .mov (.tmp 0), 0⟩,
  ⟨(some 16), none, .nilCheck (.tmp 15), 2⟩,
  ⟨(some 17), none, .fieldAddr 4 (.tmp 16), 6⟩,
  ⟨(some 18), none, .load1 (.tmp 17), 14⟩,
  ⟨(some 19), none, .append 1 4 (.tmp 14) (.tmp 18), 31⟩,
  ⟨(some 20), none, .fieldAddr 4 (.tmp 3), 63⟩,
  ⟨none, none, .store 1 (.tmp 20) (.tmp 19), 127⟩]
def spec_l10Sheet_r4 : List SOper := [
  ⟨(some 21), none, .loadN 5 (.tmp 3), 0⟩,
  ⟨none, none, .store 5 (.tmp 2) (.tmp 21), 1⟩]
def spec_l10Sheet : SFunc := ⟨22, [.cellN 2 5], (.kp [0] (.seq (.region spec_l10Sheet_r0 false) (.kp [0, 2] (.seq (.region spec_l10Sheet_r1 false) (.kp [0, 2, 3] (.seq (.region spec_l10Sheet_r2 false) (.kp [0, 2, 3] (.seq (.region spec_l10Sheet_r3 false) (.kp [2, 3] (.seq (.region spec_l10Sheet_r4 false) .ret))))))))))⟩

def spec_l10Sheet_ok (c : Contract) : Prop := ∀ (σ : Heap) (p o : Nat) (w h : Int) (wr : Bool) (sv lv : Value) (sp lo : List Nat), PtAt σ p o [.int .i64 w, .int .i64 h, .bool wr, sv, lv] → ShR σ sv lv sp lo → sp.length ≤ 1048576 → lo.length ≤ 1048576 →
    Ret c [.pointer (some ⟨p, o, none⟩)] σ fun v σ' => v = shV w h wr (slV σ.length sp.length) (slV (σ.length + 1) lo.length) ∧ σ' = σ ++ [rowO sp, rowO lo]
theorem spec_l10Sheet_law {C : Ctab} : spec_l10Sheet_ok (gcC C spec_l10Sheet true) := by
  intro σ p o w h wr sv lv sp lo hp ⟨r1, r2⟩ hn1 hn2
  have k1 := r1.ok
  have k2 := r2.ok
  refine ret_gc rfl rfl ?_
  repeat' (first | refine ff ?_ | ((first | refine EvR.aSplB ?_ ?_ | refine Ev.aSplB ?_ ?_) <;> (intro hb; (try rw [hb]); (try simp only [Bool.not_eq_true', Bool.not_eq_false', Bool.not_eq_eq_eq_not, Bool.not_true, Bool.not_false, decide_eq_true_eq, decide_eq_false_iff_not, Bool.and_eq_true, Bool.and_eq_false_iff, Bool.or_eq_true, Bool.or_eq_false_iff] at hb); (try (exfalso; first | omega | exact hb trivial)))) | (apply endS trivial; rotate_left; (· exact eva); (· rfl); try refine ⟨?_, rfl⟩) | fail)
  (apply endR [2, 3] trivial ⟨rfl, rfl⟩; (· exact eva); (· simp [gcTop, gcVal, gcLeaf, gcLeaves, gcVals, constOk, gc_lt, gc_lt0]); (· rfl); (· decide); (· simp [allConst, f32s, i64s, b8s, bools, constOk]))

end Go.Abs

