/- Plain law: the angle of a point in float64, and that it is made narrow. No condition beyond those written. -/
import Derived.Test.YtdlicidmkakooaaExactTravelFieldL128
namespace Go.Abs
set_option linter.unusedSimpArgs false
set_option linter.unusedVariables false
set_option maxHeartbeats 8000000
set_option maxRecDepth 4000

abbrev eight64 : Nat := 4620693217682128896
def sqrtV (x : Nat) : Nat := (Ieee.double.sqrt x).getD (nanOf .f64)
def rootA (t : Nat) : Nat := fbin .add .f64 one64 (fbin .mul .f64 t t)
def stepT (t : Nat) : Nat := fbin .quo .f64 t (fbin .add .f64 one64 (sqrtV (rootA t)))
def stepsT (t : Nat) : Nat → Nat
  | 0 => t
  | i + 1 => stepT (stepsT t i)
def kV (k : Int) : Nat := FloatKind.f64.nearest k
def atP (u : Nat) : Nat → Nat
  | 0 => 0
  | i + 1 => fbin .sub .f64 (fbin .quo .f64 one64 (kV (15 - 2 * (i : Int)))) (fbin .mul .f64 u (atP u i))
def angC (t : Nat) : Nat := fbin .quo .f64 (fbin .mul .f64 eight64 (fbin .mul .f64 t (atP (fbin .mul .f64 t t) 8))) turn64
def angO (over : Bool) (t : Nat) : Nat := if over then fbin .sub .f64 quart64 (angC t) else angC t
def angX (over left : Bool) (t : Nat) : Nat := if left then fbin .sub .f64 half64 (angO over t) else angO over t
def angY (over left below : Bool) (t : Nat) : Nat := if below then Op.negFloat .f64 (angX over left t) else angX over left t

theorem Lb_oneJ (J : Nat) (hJ : J = 1074) : Lb one64 J := by
  refine ⟨4503599627370496, -52, by decide +kernel, by omega, by omega, by decide, ?_⟩
  rw [show (4503599627370496 : Nat) = 2 ^ 52 from by decide, ← Nat.pow_add]
  exact Nat.pow_le_pow_right (by decide) (by omega)
theorem Lb_one : Lb one64 1074 := Lb_oneJ 1074 rfl
theorem Mg_zero : Mg 0 1075 := Mg_of (s := false) (m := 0) (e := -1074) (a := 0) (by decide +kernel) (by omega) (by decide) (by omega)
theorem Mg_quart : Mg quart64 1074 := Mg_of (s := false) (m := 4503599627370496) (e := -54) (a := 52) (by decide +kernel) (by omega) (by decide) (by omega)
theorem Mg_eight : Mg eight64 1077 := Mg_of (s := false) (m := 4503599627370496) (e := -49) (a := 52) (by decide +kernel) (by omega) (by decide) (by omega)
theorem sq_pos {t K : Nat} (h : Mg t K) (h1 : 1074 ≤ K) (h2 : K ≤ 1200) : ∃ n g, Ieee.double.read (fbin .mul .f64 t t) = .number false n g ∧ -1074 ≤ g := by
  obtain ⟨s, m, e, a1, a2, a3⟩ := h
  rw [fbin_mul6, a1, product_num6, Option.map_some, Option.getD_some, write_num6, Bool.xor_self]
  refine pos_near (K := 2 * K - 1074) (by omega) (by omega) (by omega) ?_
  obtain ⟨D, hD⟩ : ∃ D : Nat, D = 1852 := ⟨_, rfl⟩
  have e1 : (e + e + 4000).toNat = (e + 1074).toNat + (e + 1074).toNat + D := by omega
  rw [e1, Nat.pow_add, Nat.pow_add]
  have h4 := Nat.mul_le_mul a3 a3
  rw [← Nat.pow_add] at h4
  have h5 : m * m * (2 ^ (e + 1074).toNat * 2 ^ (e + 1074).toNat * 2 ^ D) = m * 2 ^ (e + 1074).toNat * (m * 2 ^ (e + 1074).toNat) * 2 ^ D := by
    generalize 2 ^ (e + 1074).toNat = A
    generalize 2 ^ D = E
    simp only [Nat.mul_assoc, Nat.mul_left_comm, Nat.mul_comm]
  rw [h5]
  refine Nat.le_trans (Nat.mul_le_mul_right _ h4) ?_
  rw [← Nat.pow_add]
  exact Nat.pow_le_pow_right (by decide) (by omega)
theorem step_ok {t K : Nat} (h : Mg t K) (h1 : 1075 ≤ K) (h2 : K ≤ 1200) : (∃ r, Ieee.double.sqrt (rootA t) = some r) ∧ Mg (stepT t) (K + 1) := by
  obtain ⟨n, g, p1, p2⟩ := sq_pos h (by omega) h2
  have hq : Mg (fbin .mul .f64 t t) (2 * K - 1074) := Mg_mul h h (by omega) (by omega) (by omega)
  have hxL : Lb (rootA t) 1074 := Lb_add (K := 2 * K - 1074) Lb_one p1 p2 (Mg_mono Mg_one (by omega)) hq (by omega) (by omega)
  have hxM : Mg (rootA t) (2 * K - 1073) := Mg_add (i := 2 * K - 1074) (Mg_mono Mg_one (by omega)) hq (by omega) (by omega) (by omega)
  obtain ⟨m, e, a1, a2, a3, a4, a5⟩ := hxL
  obtain ⟨s', m', e', b1, b2, b3⟩ := hxM
  rw [a1] at b1
  injection b1 with i1 i2 i3
  subst i1 i2 i3
  obtain ⟨r, r1, r2, n', g', r3, r4⟩ := sqrt_ok a1 a2 a3 a4 b3 (by omega) (by omega)
  refine ⟨⟨r, r1⟩, ?_⟩
  unfold stepT sqrtV
  rw [r1, Option.getD_some]
  have hdL : Lb (fbin .add .f64 one64 r) 1074 := Lb_add (K := 2 * K - 1072) Lb_one r3 r4 (Mg_mono Mg_one (by omega)) (Mg_mono r2 (by omega)) (by omega) (by omega)
  obtain ⟨m2, e2, c1, c2, c3, c4, c5⟩ := hdL
  obtain ⟨J, hJ⟩ : ∃ J : Nat, J = 1074 := ⟨_, rfl⟩
  rw [← hJ] at c5
  exact Mg_quo (J := J) h c1 c2 c3 c5 c4 (by omega) (by omega) (by omega)
theorem steps_ok {t : Nat} (h : Mg t 1075) : ∀ i, i ≤ 3 → Mg (stepsT t i) (1075 + i) ∧ ∃ r, Ieee.double.sqrt (rootA (stepsT t i)) = some r
  | 0, _ => ⟨h, (step_ok h (by omega) (by omega)).1⟩
  | i + 1, hi => by
    have h1 := (steps_ok h i (by omega)).1
    have h2 := (step_ok h1 (by omega) (by omega)).2
    exact ⟨h2, (step_ok (t := stepT (stepsT t i)) h2 (by omega) (by omega)).1⟩
theorem k_ok : ∀ i : Nat, i < 8 → ∃ n g, Ieee.double.read (kV (15 - 2 * (i : Int))) = .number false n g ∧ -1074 ≤ g ∧ g ≤ 1000 ∧ n < 2 ^ 53 ∧ 4503599627370496 ≤ n ∧ -52 ≤ g := by
  have h : ((List.range 8).all fun i => match Ieee.double.read (kV (15 - 2 * (i : Int))) with | .number false n g => decide (-1074 ≤ g ∧ g ≤ 1000 ∧ n < 9007199254740992 ∧ 4503599627370496 ≤ n ∧ -52 ≤ g) | _ => false) = true := by decide +kernel
  intro i hi
  have h := List.all_eq_true.1 h i (List.mem_range.2 hi)
  cases hr : Ieee.double.read (kV (15 - 2 * (i : Int))) with
  | nan s t => rw [hr] at h; cases h
  | infinity s => rw [hr] at h; cases h
  | number s n g =>
    rw [hr] at h
    cases s
    · have h := of_decide_eq_true h
      exact ⟨n, g, rfl, h.1, h.2.1, h.2.2.1, h.2.2.2.1, h.2.2.2.2⟩
    · cases h
theorem one_le_num {n : Nat} {g : Int} (h1 : 4503599627370496 ≤ n) (h2 : -52 ≤ g) (J : Nat) (hJ : J = 1074) : 2 ^ J ≤ n * 2 ^ (g + 1074).toNat := by
  have e1 : (2 : Nat) ^ J ≤ 2 ^ 52 * 2 ^ (g + 1074).toNat := by
    rw [← Nat.pow_add]
    exact Nat.pow_le_pow_right (by decide) (by omega)
  exact Nat.le_trans e1 (Nat.mul_le_mul_right _ (by rw [show (2 : Nat) ^ 52 = 4503599627370496 from by decide]; exact h1))
theorem Mg_at {u : Nat} (hu : Mg u 1082) : ∀ i, i ≤ 8 → Mg (atP u i) (1075 + 9 * i)
  | 0, _ => Mg_zero
  | i + 1, hi => by
    have h1 := Mg_at hu i (by omega)
    have h2 : Mg (fbin .mul .f64 u (atP u i)) (1083 + 9 * i) := Mg_mul hu h1 (by omega) (by omega) (by omega)
    obtain ⟨n, g, r1, r2, r3, r4, r5, r6⟩ := k_ok i (by omega)
    obtain ⟨J, hJ⟩ : ∃ J : Nat, J = 1074 := ⟨_, rfl⟩
    have h3 : Mg (fbin .quo .f64 one64 (kV (15 - 2 * (i : Int)))) 1075 := Mg_quo (J := J) Mg_one r1 r2 r3 (one_le_num r5 r6 J hJ) r4 (by omega) (by omega) (by omega)
    exact Mg_sub (i := 1083 + 9 * i) (Mg_mono h3 (by omega)) h2 (by omega) (by omega) (by omega)
theorem Mg_ang {t : Nat} (h : Mg t 1078) (over left below : Bool) : Mg (angY over left below t) 1157 := by
  have h1 : Mg (fbin .mul .f64 t t) 1082 := Mg_mul h h (by omega) (by omega) (by omega)
  have h2 := Mg_at h1 8 (by omega)
  have h3 : Mg (fbin .mul .f64 t (atP (fbin .mul .f64 t t) 8)) 1151 := Mg_mul h h2 (by omega) (by omega) (by omega)
  have h4 : Mg (fbin .mul .f64 eight64 (fbin .mul .f64 t (atP (fbin .mul .f64 t t) 8))) 1154 := Mg_mul Mg_eight h3 (by omega) (by omega) (by omega)
  obtain ⟨J, hJ⟩ : ∃ J : Nat, J = 1074 := ⟨_, rfl⟩
  have h5 : Mg (angC t) 1155 := Mg_quo (J := J) h4 turn_read (by omega) (by omega) (one_le_num (by decide) (by omega) J hJ) (by decide) (by omega) (by omega) (by omega)
  have h6 : Mg (angO over t) 1156 := by
    unfold angO; split
    · exact Mg_sub (i := 1155) (Mg_mono Mg_quart (by omega)) h5 (by omega) (by omega) (by omega)
    · exact Mg_mono h5 (by omega)
  have h7 : Mg (angX over left t) 1157 := by
    unfold angX; split
    · exact Mg_sub (i := 1156) (Mg_mono Mg_half (by omega)) h6 (by omega) (by omega) (by omega)
    · exact Mg_mono h6 (by omega)
  unfold angY; split
  · exact Mg_neg h7
  · exact h7
/-- The angle of a point whose ratio is at most 2 is made narrow. -/
theorem ang_narrow {t : Nat} (h : Mg t 1075) (over left below : Bool) : ∃ r, f2f .f64 (angY over left below (stepsT t 3)) .f32 = some r :=
  narrow_some (K := 1157) (by omega) (Mg_ang (steps_ok h 3 (by omega)).1 over left below)
end Go.Abs

