/- Laws of functions: whether a film is one, as the reference tells. Conditions: the laws of what they call. -/
import Derived.Test.YtogekdhkcndbdaaExactValidFilmL66
import Derived.Test.YtogekdhkcndbdaaExactValidFilmL72
namespace Go.Abs

set_option linter.unusedSimpArgs false
set_option linter.unusedVariables false
set_option maxHeartbeats 8000000
set_option maxRecDepth 20000
/- loop.example/g01201/spec.ValidFilm -/
def spec_ValidFilm_r0 : List SOper := [
  ⟨(some 1), none, .box (.tmp 0), 0⟩,
  ⟨(some 2), none, .mov (.const (.bool false)), 0⟩]
def spec_ValidFilm_r1 (i_spec_l10Is : FuncId) : List SOper := [
  ⟨(some 3), none, .call (.func i_spec_l10Is) [(.tmp 1)], 0⟩,
  ⟨(some 2), none, .mov (.tmp 3), 1⟩]
def spec_ValidFilm (i_spec_l10Is : FuncId) : SFunc := ⟨4, [.tmp 2], (.kp [0] (.seq (.region spec_ValidFilm_r0 false) (.kp [1] (.seq (.region (spec_ValidFilm_r1 i_spec_l10Is) false) .ret))))⟩


abbrev spec_ValidFilm_ok := impl_ValidFilm_ok
theorem spec_ValidFilm_law {C : Ctab} {i1 : FuncId} {c1 : Contract} (h1 : Has C i1 c1 spec_l10Is_ok) : spec_ValidFilm_ok (gcC C (spec_ValidFilm i1) true) := by
  intro σ w h wr sv lv fv sp lo fs ⟨r1, r2⟩ hf n1 n2 hfit
  have k1 := r1.ok
  have k2 := r2.ok
  have k3 := hf.ok
  refine ret_gc rfl rfl ?_
  repeat' (first | refine ff ?_ | ((first | refine EvR.aSplB ?_ ?_ | refine Ev.aSplB ?_ ?_) <;> (intro hb; (try rw [hb]); (try simp only [Bool.not_eq_true', Bool.not_eq_false', Bool.not_eq_eq_eq_not, Bool.not_true, Bool.not_false, decide_eq_true_eq, decide_eq_false_iff_not, Bool.and_eq_true, Bool.and_eq_false_iff, Bool.or_eq_true, Bool.or_eq_false_iff] at hb); (try (exfalso; first | omega | exact hb trivial)))) | (apply endS trivial; rotate_left; (· exact eva); (· rfl); try refine ⟨?_, rfl⟩) | fail)
  (apply EvR.aCall h1.at_; (· exact eva); (· exact  h1.ok _ (σ.length + 0) w h wr sv lv fv sp lo fs (PtAt.own rfl) ⟨r1.ext _, r2.ext _⟩ (hf.ext _) n1 n2 hfit); (rintro _ _ ⟨rfl, rfl⟩; refine EvR.nrm ?_))
  repeat' (first | refine ff ?_ | ((first | refine EvR.aSplB ?_ ?_ | refine Ev.aSplB ?_ ?_) <;> (intro hb; (try rw [hb]); (try simp only [Bool.not_eq_true', Bool.not_eq_false', Bool.not_eq_eq_eq_not, Bool.not_true, Bool.not_false, decide_eq_true_eq, decide_eq_false_iff_not, Bool.and_eq_true, Bool.and_eq_false_iff, Bool.or_eq_true, Bool.or_eq_false_iff] at hb); (try (exfalso; first | omega | exact hb trivial)))) | (apply endS trivial; rotate_left; (· exact eva); (· rfl); try refine ⟨?_, rfl⟩) | fail)
  all_goals (try rfl)
end Go.Abs

