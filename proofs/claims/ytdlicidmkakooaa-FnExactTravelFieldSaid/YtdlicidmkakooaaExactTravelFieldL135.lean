/- Laws of functions: the angle of a point in float32, by the program and by the reference. Conditions: the laws of what they call. -/
import Derived.Test.YtdlicidmkakooaaExactTravelFieldL134
namespace Go.Abs

set_option linter.unusedSimpArgs false
set_option linter.unusedVariables false
set_option maxHeartbeats 8000000
set_option maxRecDepth 20000
/- loop.example/g01201/spec.l01Angle -/
def spec_l01Angle_r0 : List SOper := [
 ⟨some 4, none, .mov (.const (.float .f32 0)), 0⟩]
def spec_l01Angle_r1 (i_spec_l01AngleWide i_spec_l01Narrow : FuncId) : List SOper := [
 ⟨some 5, none, .mov (.tmp 0), 0⟩,
 ⟨some 6, none, .conv (.toFloat .f64) (.tmp 5), 1⟩,
 ⟨some 7, none, .mov (.tmp 1), 0⟩,
 ⟨some 8, none, .conv (.toFloat .f64) (.tmp 7), 4⟩,
 ⟨some 9, none, .call (.func i_spec_l01AngleWide) [(.tmp 6), (.tmp 8)], 15⟩,
 ⟨some 10, none, .call (.func i_spec_l01Narrow) [(.tmp 9)], 31⟩,
 ⟨some 4, none, .mov (.tmp 10), 63⟩]
def spec_l01Angle (i_spec_l01AngleWide i_spec_l01Narrow : FuncId) : SFunc := ⟨11, [.tmp 4], (.kp [0,1] (.seq (.region spec_l01Angle_r0 false) (.kp [0,1] (.seq (.region (spec_l01Angle_r1 i_spec_l01AngleWide i_spec_l01Narrow) false) .ret))))⟩


/-- The absolute value of a number made wide. -/
def absW (x : Nat) : Nat := wide x % 9223372036854775808
theorem absW_ok {x : Nat} (h : finB x = true) : isNaN .f64 (wide x) = false ∧ wide x < 18446744073709551616 ∧ ∃ m e, Ieee.double.read (absW x) = .number false m e ∧ -1074 ≤ e ∧ e ≤ 1000 ∧ m < 2 ^ 53 ∧ (m = 0 → feq .f32 x 0 = true) := by
  obtain ⟨sg, mm, ee, hr⟩ := fin_number h
  obtain ⟨r0, hr0, hw0⟩ := wide_num hr
  obtain ⟨m, e, hy, b1, b2, b3, b4⟩ := wide_shape hr
  have hlt : wide x < 18446744073709551616 := by rw [hw0]; exact word_lt64 hr0
  have hnn : isNaN .f64 (wide x) = false := by
    have hd : FloatKind.f64.decode (wide x) = .number sg m e := hy
    unfold isNaN; rw [hd]; rfl
  refine ⟨hnn, hlt, m, e, ?_, b1, b2, b3, fun hm => ?_⟩
  · obtain ⟨a, ha⟩ : ∃ a, wide x % 9223372036854775808 = a := ⟨_, rfl⟩
    have hal : a < 9223372036854775808 := by rw [← ha]; exact Nat.mod_lt _ (by decide)
    unfold absW
    rw [ha]
    have h := read_rung (z := a) (by rw [ha, Nat.mod_eq_of_lt hal]) hy
    rw [Nat.div_eq_of_lt hal] at h
    exact h
  · have a2 : feq .f32 x 0 = ((Ieee.single.read x).order (Ieee.single.read 0) == some .eq) := rfl
    rw [a2, hr, zero_read32, ord_zero, if_pos (b4.2 hm)]
    rfl
/-- The angle of a point. -/
def angT (y x : Nat) : Nat := if (finB x && finB y) = true then (if (feq .f32 x 0 && feq .f32 y 0) = true then 0 else (f2f .f64 (angP (wide y) (wide x) (absW y) (absW x)) .f32).getD 0) else nanOf .f32
theorem ang_some {y x : Nat} (hy : finB y = true) (hx : finB x = true) (hz : (feq .f32 x 0 && feq .f32 y 0) = false) : ∃ r, f2f .f64 (angP (wide y) (wide x) (absW y) (absW x)) .f32 = some r := by
  obtain ⟨_, _, m, e, a1, a2, a3, a4, a5⟩ := absW_ok hy
  obtain ⟨_, _, n, g, b1, b2, b3, b4, b5⟩ := absW_ok hx
  refine ang_narrow (ratio_ok a1 b1 a2 b2 a3 b3 a4 b4 ?_) _ _ _
  rintro ⟨rfl, rfl⟩
  rw [a5 rfl, b5 rfl] at hz
  exact absurd hz (by decide)
abbrev angleT_ok (c : Contract) : Prop := ∀ (σ : Heap) (y x : Nat), Ret c [.float .f32 y, .float .f32 x] σ fun v σ' => v = .float .f32 (angT y x) ∧ σ' = σ
abbrev spec_l01Angle_ok := angleT_ok
abbrev impl_AngleTurns_ok := angleT_ok
theorem spec_l01Angle_law {C : Ctab} {i1 i2 : FuncId} {c1 c2 : Contract} (h1 : Has C i1 c1 spec_l01AngleWide_ok) (h2 : Has C i2 c2 spec_l01Narrow_ok) : spec_l01Angle_ok (gcC C (spec_l01Angle i1 i2) true) := by
  intro σ y x
  unfold angT
  cases hf : (finB x && finB y)
  · simp only [Bool.false_eq_true, if_false]
    have hg : (feq .f64 (fbin .sub .f64 (wide y) (wide y)) 0 && feq .f64 (fbin .sub .f64 (wide x) (wide x)) 0) = false := by
      rcases Bool.and_eq_false_iff.1 hf with h | h
      · rw [wide_inf h, Bool.and_false]
      · rw [wide_inf h, Bool.false_and]
    clear hf
    refine ret_gc rfl rfl ?_
    repeat' (first | refine ff ?_ | ((first | refine sR ?_ ?_ | refine sC ?_ ?_) <;> (intro hb; (try rw [hb]); (try simp only [bb] at hb); (try (exfalso; first | omega | exact hb trivial)))) | (apply endS trivial; rotate_left; (· exact eva); (· rfl); try refine ⟨?_, rfl⟩) | fail)
    (apply EvR.aCall h1.at_; (· exact eva); (· exact  h1.ok.1 _ (wide y) (wide x) hg); (rintro _ _ ⟨rfl, rfl⟩; refine EvR.nrm ?_))
    repeat' (first | refine ff ?_ | ((first | refine sR ?_ ?_ | refine sC ?_ ?_) <;> (intro hb; (try rw [hb]); (try simp only [bb] at hb); (try (exfalso; first | omega | exact hb trivial)))) | (apply endS trivial; rotate_left; (· exact eva); (· rfl); try refine ⟨?_, rfl⟩) | fail)
    (apply EvR.aCall h2.at_; (· exact eva); (· exact  h2.ok _ _ _ nan_narrow); (rintro _ _ ⟨rfl, rfl⟩; refine EvR.nrm ?_))
    repeat' (first | refine ff ?_ | ((first | refine sR ?_ ?_ | refine sC ?_ ?_) <;> (intro hb; (try rw [hb]); (try simp only [bb] at hb); (try (exfalso; first | omega | exact hb trivial)))) | (apply endS trivial; rotate_left; (· exact eva); (· rfl); try refine ⟨?_, rfl⟩) | fail)
    all_goals (try rfl)
  · obtain ⟨hx, hy⟩ := Bool.and_eq_true_iff.1 hf
    clear hf
    obtain ⟨_, _, _, _, _, gx⟩ := wide_fin hx
    obtain ⟨_, _, _, _, _, gy⟩ := wide_fin hy
    simp only [if_true]
    have hw : (feq .f64 (wide x) 0 && feq .f64 (wide y) 0) = (feq .f32 x 0 && feq .f32 y 0) := by rw [(wide_zero hx).1, (wide_zero hy).1]
    cases hz : (feq .f32 x 0 && feq .f32 y 0)
    · obtain ⟨r, hr⟩ := ang_some hy hx hz
      rw [hr, Option.getD_some]
      simp only [Bool.false_eq_true, if_false]
      rw [hz] at hw
      have ra : ∀ c' C' i, Has C' i c' math_Abs_ok → ∀ σ, Ret c' [.float .f64 (wide y)] σ fun v σ' => v = .float .f64 (absW y) ∧ σ' = σ := fun c C i h σ => h.ok σ _ _ (absW_ok hy).1 (absW_ok hy).2.1 rfl
      have rb : ∀ c' C' i, Has C' i c' math_Abs_ok → ∀ σ, Ret c' [.float .f64 (wide x)] σ fun v σ' => v = .float .f64 (absW x) ∧ σ' = σ := fun c C i h σ => h.ok σ _ _ (absW_ok hx).1 (absW_ok hx).2.1 rfl
      generalize absW y = a at hr ra
      generalize absW x = b at hr rb
      clear hz hx hy
      refine ret_gc rfl rfl ?_
      repeat' (first | refine ff ?_ | ((first | refine sR ?_ ?_ | refine sC ?_ ?_) <;> (intro hb; (try rw [hb]); (try simp only [bb] at hb); (try (exfalso; first | omega | exact hb trivial)))) | (apply endS trivial; rotate_left; (· exact eva); (· rfl); try refine ⟨?_, rfl⟩) | fail)
      (apply EvR.aCall h1.at_; (· exact eva); (· exact  h1.ok.2.2 _ (wide y) (wide x) a b gy gx hw ra rb); (rintro _ _ ⟨rfl, rfl⟩; refine EvR.nrm ?_))
      repeat' (first | refine ff ?_ | ((first | refine sR ?_ ?_ | refine sC ?_ ?_) <;> (intro hb; (try rw [hb]); (try simp only [bb] at hb); (try (exfalso; first | omega | exact hb trivial)))) | (apply endS trivial; rotate_left; (· exact eva); (· rfl); try refine ⟨?_, rfl⟩) | fail)
      (apply EvR.aCall h2.at_; (· exact eva); (· exact  h2.ok _ _ _ hr); (rintro _ _ ⟨rfl, rfl⟩; refine EvR.nrm ?_))
      repeat' (first | refine ff ?_ | ((first | refine sR ?_ ?_ | refine sC ?_ ?_) <;> (intro hb; (try rw [hb]); (try simp only [bb] at hb); (try (exfalso; first | omega | exact hb trivial)))) | (apply endS trivial; rotate_left; (· exact eva); (· rfl); try refine ⟨?_, rfl⟩) | fail)
      all_goals (try rfl)
    · rw [hz] at hw
      simp only [if_true]
      clear hz hx hy
      refine ret_gc rfl rfl ?_
      repeat' (first | refine ff ?_ | ((first | refine sR ?_ ?_ | refine sC ?_ ?_) <;> (intro hb; (try rw [hb]); (try simp only [bb] at hb); (try (exfalso; first | omega | exact hb trivial)))) | (apply endS trivial; rotate_left; (· exact eva); (· rfl); try refine ⟨?_, rfl⟩) | fail)
      (apply EvR.aCall h1.at_; (· exact eva); (· exact  h1.ok.2.1 _ (wide y) (wide x) gy gx hw); (rintro _ _ ⟨rfl, rfl⟩; refine EvR.nrm ?_))
      repeat' (first | refine ff ?_ | ((first | refine sR ?_ ?_ | refine sC ?_ ?_) <;> (intro hb; (try rw [hb]); (try simp only [bb] at hb); (try (exfalso; first | omega | exact hb trivial)))) | (apply endS trivial; rotate_left; (· exact eva); (· rfl); try refine ⟨?_, rfl⟩) | fail)
      (apply EvR.aCall h2.at_; (· exact eva); (· exact  h2.ok _ _ _ zero_narrow); (rintro _ _ ⟨rfl, rfl⟩; refine EvR.nrm ?_))
      repeat' (first | refine ff ?_ | ((first | refine sR ?_ ?_ | refine sC ?_ ?_) <;> (intro hb; (try rw [hb]); (try simp only [bb] at hb); (try (exfalso; first | omega | exact hb trivial)))) | (apply endS trivial; rotate_left; (· exact eva); (· rfl); try refine ⟨?_, rfl⟩) | fail)
      all_goals (try rfl)
theorem impl_AngleTurns_law {C : Ctab} {i1 i2 i3 i4 : FuncId} {c1 c2 c3 c4 : Contract} (h1 : Has C i1 c1 impl_IsFinite_ok) (h2 : Has C i2 c2 math_NaN_ok) (h3 : Has C i3 c3 math_Abs_ok) (h4 : Has C i4 c4 math_Sqrt_ok) : impl_AngleTurns_ok (gcC C (impl_AngleTurns i1 i2 i3 i4) true) := by
  intro σ y x
  unfold angT
  cases hx : finB x
  · simp only [Bool.false_and, Bool.false_eq_true, if_false]
    refine ret_gc rfl rfl ?_
    repeat' (first | refine ff ?_ | ((first | refine sR ?_ ?_ | refine sC ?_ ?_) <;> (intro hb; (try rw [hb]); (try simp only [bb] at hb); (try (exfalso; first | omega | exact hb trivial)))) | (apply endS trivial; rotate_left; (· exact eva); (· rfl); try refine ⟨?_, rfl⟩) | fail)
    (apply EvR.aCall h1.at_; (· exact eva); (· exact  h1.ok _ x); (rintro _ _ ⟨rfl, rfl⟩; refine EvR.nrm ?_))
    rw [hx]
    repeat' (first | refine ff ?_ | ((first | refine sR ?_ ?_ | refine sC ?_ ?_) <;> (intro hb; (try rw [hb]); (try simp only [bb] at hb); (try (exfalso; first | omega | exact hb trivial)))) | (apply endS trivial; rotate_left; (· exact eva); (· rfl); try refine ⟨?_, rfl⟩) | fail)
    (apply EvR.aCall h2.at_; (· exact eva); (· exact  h2.ok _); (rintro _ _ ⟨rfl, rfl⟩; refine EvR.nrm ?_))
    repeat' (first | refine ff ?_ | ((first | refine sR ?_ ?_ | refine sC ?_ ?_) <;> (intro hb; (try rw [hb]); (try simp only [bb] at hb); (try (exfalso; first | omega | exact hb trivial)))) | (apply endS trivial; rotate_left; (· exact eva); (· rfl); try refine ⟨?_, rfl⟩) | fail)
    refine EvR.toN rfl nan_narrow ?_
    repeat' (first | refine ff ?_ | ((first | refine sR ?_ ?_ | refine sC ?_ ?_) <;> (intro hb; (try rw [hb]); (try simp only [bb] at hb); (try (exfalso; first | omega | exact hb trivial)))) | (apply endS trivial; rotate_left; (· exact eva); (· rfl); try refine ⟨?_, rfl⟩) | fail)
    all_goals (try rfl)
  · cases hy : finB y
    · simp only [Bool.and_false, Bool.false_eq_true, if_false]
      refine ret_gc rfl rfl ?_
      repeat' (first | refine ff ?_ | ((first | refine sR ?_ ?_ | refine sC ?_ ?_) <;> (intro hb; (try rw [hb]); (try simp only [bb] at hb); (try (exfalso; first | omega | exact hb trivial)))) | (apply endS trivial; rotate_left; (· exact eva); (· rfl); try refine ⟨?_, rfl⟩) | fail)
      (apply EvR.aCall h1.at_; (· exact eva); (· exact  h1.ok _ x); (rintro _ _ ⟨rfl, rfl⟩; refine EvR.nrm ?_))
      rw [hx]
      repeat' (first | refine ff ?_ | ((first | refine sR ?_ ?_ | refine sC ?_ ?_) <;> (intro hb; (try rw [hb]); (try simp only [bb] at hb); (try (exfalso; first | omega | exact hb trivial)))) | (apply endS trivial; rotate_left; (· exact eva); (· rfl); try refine ⟨?_, rfl⟩) | fail)
      (apply EvR.aCall h1.at_; (· exact eva); (· exact  h1.ok _ y); (rintro _ _ ⟨rfl, rfl⟩; refine EvR.nrm ?_))
      rw [hy]
      repeat' (first | refine ff ?_ | ((first | refine sR ?_ ?_ | refine sC ?_ ?_) <;> (intro hb; (try rw [hb]); (try simp only [bb] at hb); (try (exfalso; first | omega | exact hb trivial)))) | (apply endS trivial; rotate_left; (· exact eva); (· rfl); try refine ⟨?_, rfl⟩) | fail)
      (apply EvR.aCall h2.at_; (· exact eva); (· exact  h2.ok _); (rintro _ _ ⟨rfl, rfl⟩; refine EvR.nrm ?_))
      repeat' (first | refine ff ?_ | ((first | refine sR ?_ ?_ | refine sC ?_ ?_) <;> (intro hb; (try rw [hb]); (try simp only [bb] at hb); (try (exfalso; first | omega | exact hb trivial)))) | (apply endS trivial; rotate_left; (· exact eva); (· rfl); try refine ⟨?_, rfl⟩) | fail)
      refine EvR.toN rfl nan_narrow ?_
      repeat' (first | refine ff ?_ | ((first | refine sR ?_ ?_ | refine sC ?_ ?_) <;> (intro hb; (try rw [hb]); (try simp only [bb] at hb); (try (exfalso; first | omega | exact hb trivial)))) | (apply endS trivial; rotate_left; (· exact eva); (· rfl); try refine ⟨?_, rfl⟩) | fail)
      all_goals (try rfl)
    · simp only [Bool.and_self, if_true]
      cases hz : (feq .f32 x 0 && feq .f32 y 0)
      · obtain ⟨r, hr⟩ := ang_some hy hx hz
        rw [hr, Option.getD_some]
        simp only [Bool.false_eq_true, if_false]
        unfold angP at hr
        rw [(wide_zero hx).2, (wide_zero hy).2] at hr
        have ra := fun c C i h σ => (show Has C i c math_Abs_ok from h).ok σ (wide y) (absW y) (absW_ok hy).1 (absW_ok hy).2.1 rfl
        have rb := fun c C i h σ => (show Has C i c math_Abs_ok from h).ok σ (wide x) (absW x) (absW_ok hx).1 (absW_ok hx).2.1 rfl
        generalize absW y = a at hr ra
        generalize absW x = b at hr rb
        refine ret_gc rfl rfl ?_
        repeat' (first | refine ff ?_ | ((first | refine sR ?_ ?_ | refine sC ?_ ?_) <;> (intro hb; (try rw [hb]); (try simp only [bb] at hb); (try (exfalso; first | omega | exact hb trivial)))) | (apply endS trivial; rotate_left; (· exact eva); (· rfl); try refine ⟨?_, rfl⟩) | fail)
        (apply EvR.aCall h1.at_; (· exact eva); (· exact  h1.ok _ x); (rintro _ _ ⟨rfl, rfl⟩; refine EvR.nrm ?_))
        rw [hx]
        repeat' (first | refine ff ?_ | ((first | refine sR ?_ ?_ | refine sC ?_ ?_) <;> (intro hb; (try rw [hb]); (try simp only [bb] at hb); (try (exfalso; first | omega | exact hb trivial)))) | (apply endS trivial; rotate_left; (· exact eva); (· rfl); try refine ⟨?_, rfl⟩) | fail)
        (apply EvR.aCall h1.at_; (· exact eva); (· exact  h1.ok _ y); (rintro _ _ ⟨rfl, rfl⟩; refine EvR.nrm ?_))
        rw [hy]
        repeat' (first | refine ff ?_ | ((first | refine sR ?_ ?_ | refine sC ?_ ?_) <;> (intro hb; (try rw [hb]); (try simp only [bb] at hb); (try (exfalso; first | omega | exact hb trivial)))) | (apply endS trivial; rotate_left; (· exact eva); (· rfl); try refine ⟨?_, rfl⟩) | fail)
        all_goals (first | (exfalso; simp_all; done) | skip)
        all_goals
          clear hx hy hz
          (apply EvR.aCall h3.at_; (· exact eva); (· exact  ra _ _ _ h3 _); (rintro _ _ ⟨rfl, rfl⟩; refine EvR.nrm ?_))
          repeat' (first | refine ff ?_ | ((first | refine sR ?_ ?_ | refine sC ?_ ?_) <;> (intro hb; (try rw [hb]); (try simp only [bb] at hb); (try (exfalso; first | omega | exact hb trivial)))) | (apply endS trivial; rotate_left; (· exact eva); (· rfl); try refine ⟨?_, rfl⟩) | fail)
          (apply EvR.aCall h3.at_; (· exact eva); (· exact  rb _ _ _ h3 _); (rintro _ _ ⟨rfl, rfl⟩; refine EvR.nrm ?_))
          repeat' (first | refine ff ?_ | ((first | refine sR ?_ ?_ | refine sC ?_ ?_) <;> (intro hb; (try rw [hb]); (try simp only [bb] at hb); (try (exfalso; first | omega | exact hb trivial)))) | (apply endS trivial; rotate_left; (· exact eva); (· rfl); try refine ⟨?_, rfl⟩) | fail)
          all_goals
            refine Ev.mono (ang_loop1 h4 σ _ _ _ _ _) ?_
            rintro _ _ _ ⟨rfl, hF, rfl⟩
            apply blkQ.e
            apply thenQ.n
            refine Ev.kp hF ?_
            repeat' (first | refine ff ?_ | ((first | refine sR ?_ ?_ | refine sC ?_ ?_) <;> (intro hb; (try rw [hb]); (try simp only [bb] at hb); (try (exfalso; first | omega | exact hb trivial)))) | (apply endS trivial; rotate_left; (· exact eva); (· rfl); try refine ⟨?_, rfl⟩) | fail)
            refine Ev.mono (ang_loop2 σ _ _ _ _ _ _) ?_
            rintro _ _ _ ⟨rfl, hF2, rfl⟩
            apply blkQ.e
            apply thenQ.n
            refine Ev.kp hF2 ?_
            repeat' (first | refine ff ?_ | ((first | refine sR ?_ ?_ | refine sC ?_ ?_) <;> (intro hb; (try rw [hb]); (try simp only [bb] at hb); (try (exfalso; first | omega | exact hb trivial)))) | (apply endS trivial; rotate_left; (· exact eva); (· rfl); try refine ⟨?_, rfl⟩) | fail)
            all_goals
              refine EvR.toN (r := r) rfl (by simp_all [angY, angX, angO, angC, ratioV]) ?_
              repeat' (first | refine ff ?_ | ((first | refine sR ?_ ?_ | refine sC ?_ ?_) <;> (intro hb; (try rw [hb]); (try simp only [bb] at hb); (try (exfalso; first | omega | exact hb trivial)))) | (apply endS trivial; rotate_left; (· exact eva); (· rfl); try refine ⟨?_, rfl⟩) | fail)
              all_goals (try rfl)
      · simp only [if_true]
        obtain ⟨hz1, hz2⟩ := Bool.and_eq_true_iff.1 hz
        refine ret_gc rfl rfl ?_
        repeat' (first | refine ff ?_ | ((first | refine sR ?_ ?_ | refine sC ?_ ?_) <;> (intro hb; (try rw [hb]); (try simp only [bb] at hb); (try (exfalso; first | omega | exact hb trivial)))) | (apply endS trivial; rotate_left; (· exact eva); (· rfl); try refine ⟨?_, rfl⟩) | fail)
        (apply EvR.aCall h1.at_; (· exact eva); (· exact  h1.ok _ x); (rintro _ _ ⟨rfl, rfl⟩; refine EvR.nrm ?_))
        rw [hx]
        repeat' (first | refine ff ?_ | ((first | refine sR ?_ ?_ | refine sC ?_ ?_) <;> (intro hb; (try rw [hb]); (try simp only [bb] at hb); (try (exfalso; first | omega | exact hb trivial)))) | (apply endS trivial; rotate_left; (· exact eva); (· rfl); try refine ⟨?_, rfl⟩) | fail)
        (apply EvR.aCall h1.at_; (· exact eva); (· exact  h1.ok _ y); (rintro _ _ ⟨rfl, rfl⟩; refine EvR.nrm ?_))
        rw [hy]
        repeat' (first | refine ff ?_ | ((first | refine sR ?_ ?_ | refine sC ?_ ?_) <;> (intro hb; (try rw [hb]); (try simp only [bb] at hb); (try (exfalso; first | omega | exact hb trivial)))) | (apply endS trivial; rotate_left; (· exact eva); (· rfl); try refine ⟨?_, rfl⟩) | fail)
        all_goals (first | rfl | (exfalso; simp_all; done) | skip)
end Go.Abs

