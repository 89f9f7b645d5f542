/- Laws of functions: the angle of a point in float64, by the reference. Conditions: the laws of what it calls. -/
import Derived.Test.YtdlicidmkakooaaExactTravelFieldL132
import Derived.Test.YtdlicidmkakooaaExactTravelFieldL133
namespace Go.Abs

set_option linter.unusedSimpArgs false
set_option linter.unusedVariables false
set_option maxHeartbeats 8000000
set_option maxRecDepth 20000

/-- The angle of a point that is not 0. -/
def angP (y x a b : Nat) : Nat := angY (fgt .f64 a b) (flt .f64 x 0) (flt .f64 y 0) (stepsT (ratioV a b) 3)
def spec_l01AngleWide_ok (c : Contract) : Prop :=
  (∀ (σ : Heap) (y x : Nat), (feq .f64 (fbin .sub .f64 y y) 0 && feq .f64 (fbin .sub .f64 x x) 0) = false → Ret c [.float .f64 y, .float .f64 x] σ fun v σ' => v = .float .f64 9221120237041090561 ∧ σ' = σ) ∧
  (∀ (σ : Heap) (y x : Nat), feq .f64 (fbin .sub .f64 y y) 0 = true → feq .f64 (fbin .sub .f64 x x) 0 = true → (feq .f64 x 0 && feq .f64 y 0) = true → Ret c [.float .f64 y, .float .f64 x] σ fun v σ' => v = .float .f64 0 ∧ σ' = σ) ∧
  (∀ (σ : Heap) (y x a b : Nat), feq .f64 (fbin .sub .f64 y y) 0 = true → feq .f64 (fbin .sub .f64 x x) 0 = true → (feq .f64 x 0 && feq .f64 y 0) = false → (∀ c' C' i, Has C' i c' math_Abs_ok → ∀ σ, Ret c' [.float .f64 y] σ fun v σ' => v = .float .f64 a ∧ σ' = σ) → (∀ c' C' i, Has C' i c' math_Abs_ok → ∀ σ, Ret c' [.float .f64 x] σ fun v σ' => v = .float .f64 b ∧ σ' = σ) →
    Ret c [.float .f64 y, .float .f64 x] σ fun v σ' => v = .float .f64 (angP y x a b) ∧ σ' = σ)
theorem spec_l01AngleWide_law {C : Ctab} {i1 i2 i3 : FuncId} {c1 c2 c3 : Contract} (h1 : Has C i1 c1 math_NaN_ok) (h2 : Has C i2 c2 math_Abs_ok) (h3 : Has C i3 c3 math_Sqrt_ok) : spec_l01AngleWide_ok (gcC C (spec_l01AngleWide i1 i2 i3) true) := by
  refine ⟨fun σ y x hf => ?_, fun σ y x hf hg hz => ?_, fun σ y x a b hf hg hz ra rb => ?_⟩
  · refine ret_gc rfl rfl ?_
    repeat' (first | refine ff ?_ | ((first | refine sR ?_ ?_ | refine sC ?_ ?_) <;> (intro hb; (try rw [hb]); (try simp only [bb] at hb); (try (exfalso; first | omega | exact hb trivial)))) | (apply endS trivial; rotate_left; (· exact eva); (· rfl); try refine ⟨?_, rfl⟩) | fail)
    all_goals (first | (exfalso; simp_all; done) | skip)
    all_goals
      (apply EvR.aCall h1.at_; (· exact eva); (· exact  h1.ok _); (rintro _ _ ⟨rfl, rfl⟩; refine EvR.nrm ?_))
      repeat' (first | refine ff ?_ | ((first | refine sR ?_ ?_ | refine sC ?_ ?_) <;> (intro hb; (try rw [hb]); (try simp only [bb] at hb); (try (exfalso; first | omega | exact hb trivial)))) | (apply endS trivial; rotate_left; (· exact eva); (· rfl); try refine ⟨?_, rfl⟩) | fail)
      all_goals (try rfl)
  · refine ret_gc rfl rfl ?_
    repeat' (first | refine ff ?_ | ((first | refine sR ?_ ?_ | refine sC ?_ ?_) <;> (intro hb; (try rw [hb]); (try simp only [bb] at hb); (try (exfalso; first | omega | exact hb trivial)))) | (apply endS trivial; rotate_left; (· exact eva); (· rfl); try refine ⟨?_, rfl⟩) | fail)
    all_goals (first | rfl | (exfalso; simp_all; done) | skip)
  · refine ret_gc rfl rfl ?_
    repeat' (first | refine ff ?_ | ((first | refine sR ?_ ?_ | refine sC ?_ ?_) <;> (intro hb; (try rw [hb]); (try simp only [bb] at hb); (try (exfalso; first | omega | exact hb trivial)))) | (apply endS trivial; rotate_left; (· exact eva); (· rfl); try refine ⟨?_, rfl⟩) | fail)
    all_goals (first | (exfalso; simp_all; done) | skip)
    all_goals
      (apply EvR.aCall h2.at_; (· exact eva); (· exact  ra _ _ _ h2 _); (rintro _ _ ⟨rfl, rfl⟩; refine EvR.nrm ?_))
      repeat' (first | refine ff ?_ | ((first | refine sR ?_ ?_ | refine sC ?_ ?_) <;> (intro hb; (try rw [hb]); (try simp only [bb] at hb); (try (exfalso; first | omega | exact hb trivial)))) | (apply endS trivial; rotate_left; (· exact eva); (· rfl); try refine ⟨?_, rfl⟩) | fail)
      (apply EvR.aCall h2.at_; (· exact eva); (· exact  rb _ _ _ h2 _); (rintro _ _ ⟨rfl, rfl⟩; refine EvR.nrm ?_))
      repeat' (first | refine ff ?_ | ((first | refine sR ?_ ?_ | refine sC ?_ ?_) <;> (intro hb; (try rw [hb]); (try simp only [bb] at hb); (try (exfalso; first | omega | exact hb trivial)))) | (apply endS trivial; rotate_left; (· exact eva); (· rfl); try refine ⟨?_, rfl⟩) | fail)
      all_goals
        refine Ev.mono (wang_loop1 h3 σ _ _ _ _) ?_
        rintro _ _ _ ⟨rfl, hF, rfl⟩
        apply blkQ.e
        apply thenQ.n
        refine Ev.kp hF ?_
        repeat' (first | refine ff ?_ | ((first | refine sR ?_ ?_ | refine sC ?_ ?_) <;> (intro hb; (try rw [hb]); (try simp only [bb] at hb); (try (exfalso; first | omega | exact hb trivial)))) | (apply endS trivial; rotate_left; (· exact eva); (· rfl); try refine ⟨?_, rfl⟩) | fail)
        refine Ev.mono (wang_loop2 σ _ _ _ _ _) ?_
        rintro _ _ _ ⟨rfl, hF2, rfl⟩
        apply blkQ.e
        apply thenQ.n
        refine Ev.kp hF2 ?_
        repeat' (first | refine ff ?_ | ((first | refine sR ?_ ?_ | refine sC ?_ ?_) <;> (intro hb; (try rw [hb]); (try simp only [bb] at hb); (try (exfalso; first | omega | exact hb trivial)))) | (apply endS trivial; rotate_left; (· exact eva); (· rfl); try refine ⟨?_, rfl⟩) | fail)
        all_goals (try (simp_all [angP, angY, angX, angO, angC, ratioV]; done))
end Go.Abs

