/- Plain law: the sine of turns in float64, and that it is made narrow. No condition beyond those written. -/
import Derived.Test.YtdlicidmkakooaaExactTravelFieldL122
namespace Go.Abs
set_option linter.unusedSimpArgs false
set_option linter.unusedVariables false
set_option maxHeartbeats 8000000
set_option maxRecDepth 4000

abbrev one64 : Nat := 4607182418800017408
abbrev half64 : Nat := 4602678819172646912
abbrev quart64 : Nat := 4598175219545276416
abbrev turn64 : Nat := 4618760256179416344
/-- The rest of a number, not below 0. -/
def fracV (y : Nat) (n : Int) : Nat := if flt .f64 (fbin .sub .f64 y (FloatKind.f64.nearest n)) 0 then fbin .add .f64 (fbin .sub .f64 y (FloatKind.f64.nearest n)) one64 else fbin .sub .f64 y (FloatKind.f64.nearest n)
def denV (k : Int) : Nat := FloatKind.f64.nearest (2 * k * (2 * k + 1))
def polyV (u : Nat) : Nat → Nat
  | 0 => one64
  | i + 1 => fbin .sub .f64 one64 (fbin .quo .f64 (fbin .mul .f64 u (polyV u i)) (denV (8 - (i : Int))))
def foldV (f : Nat) : Nat := if fge .f64 f half64 then fbin .sub .f64 f half64 else f
def backV (f : Nat) : Nat := if fgt .f64 f quart64 then fbin .sub .f64 half64 f else f
def angV (y : Nat) (n : Int) : Nat := fbin .mul .f64 (backV (foldV (fracV y n))) turn64
def bareV (y : Nat) (n : Int) : Nat := fbin .mul .f64 (angV y n) (polyV (fbin .mul .f64 (angV y n) (angV y n)) 8)
def sineV (y : Nat) (n : Int) : Nat := if fge .f64 (fracV y n) half64 then Op.negFloat .f64 (bareV y n) else bareV y n

theorem Mg_of {x m a K : Nat} {s : Bool} {e : Int} (h : Ieee.double.read x = .number s m e) (he : -1074 ≤ e) (hm : m ≤ 2 ^ a) (hk : a + (e + 1074).toNat ≤ K) : Mg x K :=
  ⟨s, m, e, h, he, Nat.le_trans (Nat.mul_le_mul_right _ hm) (by rw [← Nat.pow_add]; exact Nat.pow_le_pow_right (by decide) hk)⟩
theorem Mg_one : Mg one64 1074 := Mg_of (s := false) (m := 4503599627370496) (e := -52) (a := 52) (by decide +kernel) (by omega) (by decide) (by omega)
theorem Mg_half : Mg half64 1074 := Mg_of (s := false) (m := 4503599627370496) (e := -53) (a := 52) (by decide +kernel) (by omega) (by decide) (by omega)
theorem turn_read : Ieee.double.read turn64 = .number false 7074237752028440 (-50) := by decide +kernel
theorem Mg_turn : Mg turn64 1077 := Mg_of turn_read (a := 53) (by omega) (by decide) (by omega)
theorem den_ok : ∀ i : Nat, i < 8 → ∃ n g, Ieee.double.read (denV (8 - (i : Int))) = .number false n g ∧ -1074 ≤ g ∧ g ≤ 1000 ∧ n < 2 ^ 53 ∧ 4503599627370496 ≤ n ∧ -52 ≤ g := by
  have h : ((List.range 8).all fun i => match Ieee.double.read (denV (8 - (i : Int))) with | .number false n g => decide (-1074 ≤ g ∧ g ≤ 1000 ∧ n < 9007199254740992 ∧ 4503599627370496 ≤ n ∧ -52 ≤ g) | _ => false) = true := by decide +kernel
  intro i hi
  have h := List.all_eq_true.1 h i (List.mem_range.2 hi)
  cases hr : Ieee.double.read (denV (8 - (i : Int))) with
  | nan s t => rw [hr] at h; cases h
  | infinity s => rw [hr] at h; cases h
  | number s n g =>
    rw [hr] at h
    cases s
    · have h := of_decide_eq_true h
      exact ⟨n, g, rfl, h.1, h.2.1, h.2.2.1, h.2.2.2.1, h.2.2.2.2⟩
    · cases h
theorem Mg_poly {u : Nat} (hu : Mg u 1086) : ∀ i, i ≤ 8 → Mg (polyV u i) (1074 + 14 * i)
  | 0, _ => Mg_one
  | i + 1, hi => by
    have h1 := Mg_poly hu i (by omega)
    have h2 := Mg_mul (K := 1086 + 14 * i) hu h1 (by omega) (by omega) (by omega)
    obtain ⟨n, g, r1, r2, r3, r4, r5, r6⟩ := den_ok i (by omega)
    have h3 : Mg (fbin .quo .f64 (fbin .mul .f64 u (polyV u i)) (denV (8 - (i : Int)))) (1087 + 14 * i) := by
      obtain ⟨J, hJ⟩ : ∃ J : Nat, J = 1074 := ⟨_, rfl⟩
      refine Mg_quo (J := J) h2 r1 r2 r3 ?_ r4 (by omega) (by omega) (by omega)
      have e1 : (2 : Nat) ^ J ≤ 2 ^ 52 * 2 ^ (g + 1074).toNat := by
        rw [← Nat.pow_add]
        exact Nat.pow_le_pow_right (by decide) (by omega)
      exact Nat.le_trans e1 (Nat.mul_le_mul_right _ (by rw [show (2 : Nat) ^ 52 = 4503599627370496 from by decide]; exact r5))
    exact Mg_sub (i := 1087 + 14 * i) (Mg_mono Mg_one (by omega)) h3 (by omega) (by omega) (by omega)
theorem Mg_frac {y : Nat} {n : Int} (h : Mg (fbin .sub .f64 y (FloatKind.f64.nearest n)) 1074) : Mg (fracV y n) 1075 := by
  unfold fracV
  split
  · exact Mg_add h Mg_one (by omega) (by omega) (by omega)
  · exact Mg_mono h (by omega)
theorem Mg_fold {f : Nat} (h : Mg f 1075) : Mg (foldV f) 1076 := by
  unfold foldV
  split
  · exact Mg_sub h (Mg_mono Mg_half (by omega)) (by omega) (by omega) (by omega)
  · exact Mg_mono h (by omega)
theorem Mg_back {f : Nat} (h : Mg f 1076) : Mg (backV f) 1077 := by
  unfold backV
  split
  · exact Mg_sub (Mg_mono Mg_half (by omega)) h (by omega) (by omega) (by omega)
  · exact Mg_mono h (by omega)
theorem Mg_bare {y : Nat} {n : Int} (h : Mg (fbin .sub .f64 y (FloatKind.f64.nearest n)) 1074) : Mg (bareV y n) 1192 := by
  have h1 : Mg (angV y n) 1080 := Mg_mul (Mg_back (Mg_fold (Mg_frac h))) Mg_turn (by omega) (by omega) (by omega)
  have h2 : Mg (fbin .mul .f64 (angV y n) (angV y n)) 1086 := Mg_mul h1 h1 (by omega) (by omega) (by omega)
  exact Mg_mul h1 (Mg_poly h2 8 (by omega)) (by omega) (by omega) (by omega)
/-- The sine of a number of turns that is not great is made narrow. -/
theorem sine_narrow {y : Nat} {n : Int} (hneg : ∀ x, Mg x 1192 → Mg (Op.negFloat .f64 x) 1192) (h : Mg (fbin .sub .f64 y (FloatKind.f64.nearest n)) 1074) : ∃ r, f2f .f64 (sineV y n) .f32 = some r := by
  refine narrow_some (K := 1192) (by omega) ?_
  unfold sineV
  split
  · exact hneg _ (Mg_bare h)
  · exact Mg_bare h
end Go.Abs

