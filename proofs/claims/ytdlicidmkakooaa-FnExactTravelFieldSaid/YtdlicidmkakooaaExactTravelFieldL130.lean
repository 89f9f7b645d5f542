/- Laws of functions: the root of a number, by the program and by the reference. Conditions: the laws of what they call. -/
import Derived.Test.YtdlicidmkakooaaExactTravelFieldL126
import Derived.Test.YtdlicidmkakooaaExactTravelFieldL129
namespace Go.Abs

set_option linter.unusedSimpArgs false
set_option linter.unusedVariables false
set_option maxHeartbeats 8000000
set_option maxRecDepth 20000
/- math.Sqrt -/
def math_Sqrt_r0 : List SOper := [
 ⟨some 2, none, .mov (.const (.float .f64 0)), 0⟩]
def math_Sqrt_r1 (i_math_sqrt : FuncId) : List SOper := [
 ⟨some 3, none, .mov (.tmp 0), 0⟩,
 ⟨some 4, none, .call (.func i_math_sqrt) [(.tmp 3)], 1⟩,
 ⟨some 2, none, .mov (.tmp 4), 3⟩]
def math_Sqrt (i_math_sqrt : FuncId) : SFunc := ⟨5, [.tmp 2], (.kp [0] (.seq (.region math_Sqrt_r0 false) (.kp [0] (.seq (.region (math_Sqrt_r1 i_math_sqrt) false) .ret))))⟩

/- loop.example/g01201/impl.RootNumber -/
def impl_RootNumber_r0 : List SOper := [
 ⟨some 2, none, .mov (.const (.float .f32 0)), 0⟩]
def impl_RootNumber_r1 (i_math_Sqrt : FuncId) : List SOper := [
 ⟨some 3, none, .mov (.tmp 0), 0⟩,
 ⟨some 4, none, .conv (.toFloat .f64) (.tmp 3), 1⟩,
 ⟨some 5, none, .call (.func i_math_Sqrt) [(.tmp 4)], 3⟩,
 ⟨some 6, none, .conv (.toFloat .f32) (.tmp 5), 7⟩,
 ⟨some 2, none, .mov (.tmp 6), 15⟩]
def impl_RootNumber (i_math_Sqrt : FuncId) : SFunc := ⟨7, [.tmp 2], (.kp [0] (.seq (.region impl_RootNumber_r0 false) (.kp [0] (.seq (.region (impl_RootNumber_r1 i_math_Sqrt) false) .ret))))⟩

/- loop.example/g01201/spec.l01Sqrt -/
def spec_l01Sqrt_r0 : List SOper := [
 ⟨some 2, none, .mov (.const (.float .f32 0)), 0⟩]
def spec_l01Sqrt_r1 (i_math_Sqrt i_spec_l01Narrow : FuncId) : List SOper := [
 ⟨some 3, none, .mov (.tmp 0), 0⟩,
 ⟨some 4, none, .conv (.toFloat .f64) (.tmp 3), 1⟩,
 ⟨some 5, none, .call (.func i_math_Sqrt) [(.tmp 4)], 3⟩,
 ⟨some 6, none, .call (.func i_spec_l01Narrow) [(.tmp 5)], 7⟩,
 ⟨some 2, none, .mov (.tmp 6), 15⟩]
def spec_l01Sqrt (i_math_Sqrt i_spec_l01Narrow : FuncId) : SFunc := ⟨7, [.tmp 2], (.kp [0] (.seq (.region spec_l01Sqrt_r0 false) (.kp [0] (.seq (.region (spec_l01Sqrt_r1 i_math_Sqrt i_spec_l01Narrow) false) .ret))))⟩


/-- How great a float32 is when it is made wide. -/
theorem wide_Mg {x : Nat} {s : Bool} {m : Nat} {e : Int} (hr : Ieee.single.read x = .number s m e) : Mg (wide x) 1202 := by
  have hw := f2f_wide x
  have hd : FloatKind.f32.decode x = .number s m e := hr
  unfold f2f at hw
  rw [if_neg (by unfold isNaN; rw [hd]; simp [Ieee.Datum.isNaN])] at hw
  unfold floatToFloatBits at hw
  rw [if_neg (by decide), hd] at hw
  obtain ⟨h1, h2, h3⟩ := read_single x hr
  obtain ⟨r, h4, h5⟩ := nearest_double s m e h1 h2 h3
  have h6 : FloatKind.f64.encode (.number s m e) = Ieee.double.nearest s m e := rfl
  have h7 : (FloatKind.f64.decode (FloatKind.f64.encode (.number s m e))).isInfinity = false := by
    rw [h6, h4]; exact read_fin s r h5
  dsimp only at hw
  rw [h7] at hw
  simp only [Bool.false_eq_true, if_false, Option.some.injEq] at hw
  rw [← hw, h6]
  refine Mg_near (by omega) (by omega) (by omega) ?_
  have e1 : m * 2 ^ (e + 4000).toNat ≤ 2 ^ 24 * 2 ^ (e + 4000).toNat := Nat.mul_le_mul_right _ (Nat.le_of_lt h1)
  rw [← Nat.pow_add] at e1
  obtain ⟨D, hD⟩ : ∃ D : Nat, 1202 + 2926 = D := ⟨_, rfl⟩
  rw [hD]
  exact Nat.le_trans e1 (Nat.pow_le_pow_right (by decide) (by omega))
theorem nan64_narrow : ∃ r, f2f .f64 (nanOf .f64) .f32 = some r := ⟨nanOf .f32, by decide +kernel⟩
theorem neg_root {x m : Nat} {e : Int} (hx : Ieee.double.read x = .number true m e) (hm : m ≠ 0) : Ieee.double.sqrt x = none := by
  rw [sqrt_read hx]
  show ((if m = 0 then _ else _ : Option Ieee.Datum)).map _ = none
  rw [if_neg hm]; rfl
theorem inf_root (s : Bool) : ∃ r, f2f .f64 (sqrtV (FloatKind.f64.encode (.infinity s))) .f32 = some r := by
  cases s
  · exact ⟨2139095040, by decide +kernel⟩
  · exact ⟨nanOf .f32, by decide +kernel⟩
/-- The root of a wide number is made narrow. -/
theorem root_some (x : Nat) : ∃ r, f2f .f64 (sqrtV (wide x)) .f32 = some r := by
  cases hr : Ieee.single.read x with
  | nan s t =>
    have hw := f2f_wide x
    have hd : FloatKind.f32.decode x = .nan s t := hr
    unfold f2f at hw
    rw [if_pos (by unfold isNaN; rw [hd]; rfl), if_neg (by decide), Option.some.injEq] at hw
    rw [← hw]
    unfold sqrtV
    rw [sqrt_nan (isNaN_nanOf _), Option.getD_none]
    exact nan64_narrow
  | infinity s =>
    have hw := f2f_wide x
    have hd : FloatKind.f32.decode x = .infinity s := hr
    unfold f2f at hw
    rw [if_neg (by unfold isNaN; rw [hd]; simp [Ieee.Datum.isNaN])] at hw
    unfold floatToFloatBits at hw
    rw [if_neg (by decide), hd] at hw
    dsimp only at hw
    rw [Option.some.injEq] at hw
    rw [← hw]
    exact inf_root s
  | number s m e =>
    have hM := wide_Mg hr
    obtain ⟨r, h1, h2⟩ := wide_num hr
    have hy := read_word64 (s := s) h1
    rw [← h2] at hy
    obtain ⟨m', e', hy', he1, he2, hm'⟩ : ∃ m' e', Ieee.double.read (wide x) = .number s m' e' ∧ -1074 ≤ e' ∧ e' ≤ 1000 ∧ m' < 2 ^ 53 := by
      have hm53 : (2 : Nat) ^ 53 = 9007199254740992 := by decide
      obtain ⟨s1, m1, e1, b1, b2, b3⟩ := hM
      by_cases hc : r < 4503599627370496
      · rw [if_pos hc] at hy
        exact ⟨_, _, hy, by omega, by omega, by rw [hm53]; omega⟩
      · rw [if_neg hc] at hy
        have hmod : r % 4503599627370496 < 4503599627370496 := Nat.mod_lt _ (by decide)
        refine ⟨_, _, hy, by omega, ?_, by rw [hm53]; omega⟩
        rw [hy] at b1
        injection b1 with i1 i2 i3
        have h8 : (2 : Nat) ^ 52 * 2 ^ (e1 + 1074).toNat ≤ 2 ^ 1202 := by
          refine Nat.le_trans (Nat.mul_le_mul_right _ ?_) b3
          rw [← i2, show (2 : Nat) ^ 52 = 4503599627370496 from by decide]; omega
        rw [← Nat.pow_add] at h8
        have := pow_le_inj h8
        omega
    obtain ⟨s1, m1, e1, b1, b2, b3⟩ := hM
    rw [hy'] at b1
    injection b1 with i1 i2 i3
    subst i1 i2 i3
    rcases Nat.eq_zero_or_pos m' with rfl | hm0
    · unfold sqrtV
      rw [sqrt_read hy', root_zero, Option.map_some, Option.getD_some, write_num6]
      exact narrow_some (K := 52) (by omega) (Mg_near (by omega) (by omega) (by omega) (by rw [Nat.zero_mul]; exact Nat.zero_le _))
    · cases s
      · obtain ⟨H, hH⟩ : ∃ H : Nat, H = 64 := ⟨_, rfl⟩
        obtain ⟨r', g1, g2, _⟩ := sqrt_half (H := H) hy' he1 he2 hm' (by
          have e9 : 1074 + 2 * H = 1202 := by omega
          rw [e9]; exact b3) (by omega)
        unfold sqrtV
        rw [g1, Option.getD_some]
        exact narrow_some (by omega) g2
      · unfold sqrtV
        rw [neg_root hy' (by omega), Option.getD_none]
        exact nan64_narrow
def rootT (x : Nat) : Nat := (f2f .f64 (sqrtV (wide x)) .f32).getD 0
def math_sqrt_ok (c : Contract) : Prop := ∀ (σ : Heap) (b : Nat), Ret c [.float .f64 b] σ fun v σ' => v = .float .f64 (sqrtV b) ∧ σ' = σ
theorem math_sqrt_law : math_sqrt_ok (pureC gSqrt64) := fun σ b => ret_sqrt64 b σ
abbrev math_Sqrt_ok := math_sqrt_ok
theorem math_Sqrt_law {C : Ctab} {i : FuncId} {c : Contract} (h1 : Has C i c math_sqrt_ok) : math_Sqrt_ok (gcC C (math_Sqrt i) true) := by
  intro σ b
  refine ret_gc rfl rfl ?_
  repeat' (first | refine ff ?_ | ((first | refine sR ?_ ?_ | refine sC ?_ ?_) <;> (intro hb; (try rw [hb]); (try simp only [bb] at hb); (try (exfalso; first | omega | exact hb trivial)))) | (apply endS trivial; rotate_left; (· exact eva); (· rfl); try refine ⟨?_, rfl⟩) | fail)
  (apply EvR.aCall h1.at_; (· exact eva); (· exact  h1.ok _ b); (rintro _ _ ⟨rfl, rfl⟩; refine EvR.nrm ?_))
  repeat' (first | refine ff ?_ | ((first | refine sR ?_ ?_ | refine sC ?_ ?_) <;> (intro hb; (try rw [hb]); (try simp only [bb] at hb); (try (exfalso; first | omega | exact hb trivial)))) | (apply endS trivial; rotate_left; (· exact eva); (· rfl); try refine ⟨?_, rfl⟩) | fail)
  all_goals (try rfl)
abbrev rootT_ok (c : Contract) : Prop := ∀ (σ : Heap) (x : Nat), Ret c [.float .f32 x] σ fun v σ' => v = .float .f32 (rootT x) ∧ σ' = σ
abbrev impl_RootNumber_ok := rootT_ok
abbrev spec_l01Sqrt_ok := rootT_ok
theorem impl_RootNumber_law {C : Ctab} {i : FuncId} {c : Contract} (h1 : Has C i c math_Sqrt_ok) : impl_RootNumber_ok (gcC C (impl_RootNumber i) true) := by
  intro σ x
  obtain ⟨r, hr⟩ := root_some x
  unfold rootT
  rw [hr, Option.getD_some]
  refine ret_gc rfl rfl ?_
  repeat' (first | refine ff ?_ | ((first | refine sR ?_ ?_ | refine sC ?_ ?_) <;> (intro hb; (try rw [hb]); (try simp only [bb] at hb); (try (exfalso; first | omega | exact hb trivial)))) | (apply endS trivial; rotate_left; (· exact eva); (· rfl); try refine ⟨?_, rfl⟩) | fail)
  (apply EvR.aCall h1.at_; (· exact eva); (· exact  h1.ok _ (wide x)); (rintro _ _ ⟨rfl, rfl⟩; refine EvR.nrm ?_))
  repeat' (first | refine ff ?_ | ((first | refine sR ?_ ?_ | refine sC ?_ ?_) <;> (intro hb; (try rw [hb]); (try simp only [bb] at hb); (try (exfalso; first | omega | exact hb trivial)))) | (apply endS trivial; rotate_left; (· exact eva); (· rfl); try refine ⟨?_, rfl⟩) | fail)
  refine EvR.toN rfl hr ?_
  repeat' (first | refine ff ?_ | ((first | refine sR ?_ ?_ | refine sC ?_ ?_) <;> (intro hb; (try rw [hb]); (try simp only [bb] at hb); (try (exfalso; first | omega | exact hb trivial)))) | (apply endS trivial; rotate_left; (· exact eva); (· rfl); try refine ⟨?_, rfl⟩) | fail)
  all_goals (try rfl)
theorem spec_l01Sqrt_law {C : Ctab} {i1 i2 : FuncId} {c1 c2 : Contract} (h1 : Has C i1 c1 math_Sqrt_ok) (h2 : Has C i2 c2 spec_l01Narrow_ok) : spec_l01Sqrt_ok (gcC C (spec_l01Sqrt i1 i2) true) := by
  intro σ x
  obtain ⟨r, hr⟩ := root_some x
  unfold rootT
  rw [hr, Option.getD_some]
  refine ret_gc rfl rfl ?_
  repeat' (first | refine ff ?_ | ((first | refine sR ?_ ?_ | refine sC ?_ ?_) <;> (intro hb; (try rw [hb]); (try simp only [bb] at hb); (try (exfalso; first | omega | exact hb trivial)))) | (apply endS trivial; rotate_left; (· exact eva); (· rfl); try refine ⟨?_, rfl⟩) | fail)
  (apply EvR.aCall h1.at_; (· exact eva); (· exact  h1.ok _ (wide x)); (rintro _ _ ⟨rfl, rfl⟩; refine EvR.nrm ?_))
  repeat' (first | refine ff ?_ | ((first | refine sR ?_ ?_ | refine sC ?_ ?_) <;> (intro hb; (try rw [hb]); (try simp only [bb] at hb); (try (exfalso; first | omega | exact hb trivial)))) | (apply endS trivial; rotate_left; (· exact eva); (· rfl); try refine ⟨?_, rfl⟩) | fail)
  (apply EvR.aCall h2.at_; (· exact eva); (· exact  h2.ok _ _ r hr); (rintro _ _ ⟨rfl, rfl⟩; refine EvR.nrm ?_))
  repeat' (first | refine ff ?_ | ((first | refine sR ?_ ?_ | refine sC ?_ ?_) <;> (intro hb; (try rw [hb]); (try simp only [bb] at hb); (try (exfalso; first | omega | exact hb trivial)))) | (apply endS trivial; rotate_left; (· exact eva); (· rfl); try refine ⟨?_, rfl⟩) | fail)
  all_goals (try rfl)
end Go.Abs

