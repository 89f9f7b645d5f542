/- Laws of single functions: bits of numbers, bytes of numbers. Conditions: the laws of what they call. -/
import Derived.Test.YtogekdhkcndbdaaExactSameFilmL34
namespace Go.Abs

set_option linter.unusedSimpArgs false
set_option linter.unusedVariables false
set_option maxHeartbeats 8000000
/-- The bits of a number; all NaNs have the same. -/
def bitsC (a : Nat) : Nat := if isNaN .f32 a = true then 2143289344 else a
def bits_ok (c : Contract) : Prop := ∀ (σ : Heap) (a : Nat), a < 4294967296 → Ret c [.float .f32 a] σ fun v σ' => v = .int .i64 (bitsC a) ∧ σ' = σ
abbrev spec_l01BitsN_ok := bits_ok
theorem spec_l01BitsN_law {C : Ctab} {i : FuncId} {c : Contract} (h1 : Has C i c math_Float32bits_ok) : spec_l01BitsN_ok (gcC C (spec_l01Bits i) true) := by
  intro σ a ha
  have sa := feq_self .f32 a
  cases hn : isNaN .f32 a
  · rw [hn] at sa
    refine ret_gc rfl rfl ?_
    repeat' (first | refine ff ?_ | (apply EvR.aCall h1.at_; (· exact eva); (· apply h1.ok <;> exact sid); (rintro _ _ ⟨rfl, rfl⟩; refine EvR.nrm ?_)) | ((first | refine EvR.aSplB ?_ ?_ | refine Ev.aSplB ?_ ?_) <;> (intro hb; (try rw [hb]); (try simp only [Bool.not_eq_true', Bool.not_eq_false', Bool.not_eq_eq_eq_not, Bool.not_true, Bool.not_false, decide_eq_true_eq, decide_eq_false_iff_not, Bool.and_eq_true, Bool.and_eq_false_iff, Bool.or_eq_true, Bool.or_eq_false_iff] at hb); (try (exfalso; first | omega | exact hb trivial)))) | (apply endS trivial; rotate_left; (· exact eva); (· rfl); try refine ⟨?_, rfl⟩) | fail)
    all_goals simp_all [bitsC]
  · rw [hn] at sa
    refine ret_gc rfl rfl ?_
    repeat' (first | refine ff ?_ | ((first | refine EvR.aSplB ?_ ?_ | refine Ev.aSplB ?_ ?_) <;> (intro hb; (try rw [hb]); (try simp only [Bool.not_eq_true', Bool.not_eq_false', Bool.not_eq_eq_eq_not, Bool.not_true, Bool.not_false, decide_eq_true_eq, decide_eq_false_iff_not, Bool.and_eq_true, Bool.and_eq_false_iff, Bool.or_eq_true, Bool.or_eq_false_iff] at hb); (try (exfalso; first | omega | exact hb trivial)))) | (apply endS trivial; rotate_left; (· exact eva); (· rfl); try refine ⟨?_, rfl⟩) | fail)
    all_goals simp_all [bitsC]

end Go.Abs

