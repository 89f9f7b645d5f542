/- Plain law: how float64 numbers stand to 2 to the power 52, and their whole parts. No condition beyond those written. -/
import Derived.Test.YtdlicidmkakooaaExactTravelFieldL123
namespace Go.Abs
set_option linter.unusedSimpArgs false
set_option linter.unusedVariables false
set_option maxHeartbeats 8000000
set_option maxRecDepth 4000

abbrev big64 : Nat := 4841369599423283200
abbrev mbig64 : Nat := 14064741636278059008
theorem big_read : Ieee.double.read big64 = .number false 4503599627370496 0 := by decide +kernel
theorem mbig_read : Ieee.double.read mbig64 = .number true 4503599627370496 0 := by decide +kernel
/-- Numbers stand to each other as their values in least units. -/
theorem order_val {s t : Bool} {m n : Nat} {e g : Int} (he : -1074 ≤ e) (hg : -1074 ≤ g) : (Ieee.Datum.number s m e).order (.number t n g) = some (compare (Ieee.signed s m (e + 1074).toNat) (Ieee.signed t n (g + 1074).toNat)) := by
  show some (compare (Ieee.signed s m (e - min e g).toNat) (Ieee.signed t n (g - min e g).toNat)) = _
  have e1 : Ieee.signed s m (e + 1074).toNat = Ieee.signed s m (e - min e g).toNat * 2 ^ (min e g + 1074).toNat := by rw [signed_mul]; congr 1; omega
  have e2 : Ieee.signed t n (g + 1074).toNat = Ieee.signed t n (g - min e g).toNat * 2 ^ (min e g + 1074).toNat := by rw [signed_mul]; congr 1; omega
  rw [e1, e2]
  have hp : (0 : Int) < 2 ^ (min e g + 1074).toNat := Int.pow_pos (by decide)
  generalize (2 : Int) ^ (min e g + 1074).toNat = P at hp
  generalize Ieee.signed s m (e - min e g).toNat = A
  generalize Ieee.signed t n (g - min e g).toNat = B
  congr 1
  rcases Int.lt_trichotomy A B with h | h | h
  · rw [Int.compare_eq_lt.2 h, Int.compare_eq_lt.2 (Int.mul_lt_mul_of_pos_right h hp)]
  · subst h; rw [cmp_eq.2 rfl, cmp_eq.2 rfl]
  · rw [Int.compare_eq_gt.2 h, Int.compare_eq_gt.2 (Int.mul_lt_mul_of_pos_right h hp)]
theorem signed_if (s : Bool) (m a : Nat) : Ieee.signed s m a = if s then -((m * 2 ^ a : Nat) : Int) else ((m * 2 ^ a : Nat) : Int) := by
  unfold Ieee.signed; rw [Nat.shiftLeft_eq]
theorem cmp_ge {A B : Int} : ((compare A B == .gt) || (compare A B == .eq)) = decide (B ≤ A) := by
  rcases Int.lt_trichotomy A B with h | h | h
  · rw [Int.compare_eq_lt.2 h, decide_eq_false (by omega)]; rfl
  · subst h; rw [cmp_eq.2 rfl, decide_eq_true (by omega)]; rfl
  · rw [Int.compare_eq_gt.2 h, decide_eq_true (by omega)]; rfl
theorem cmp_le {A B : Int} : ((compare A B == .lt) || (compare A B == .eq)) = decide (A ≤ B) := by
  rcases Int.lt_trichotomy A B with h | h | h
  · rw [Int.compare_eq_lt.2 h, decide_eq_true (by omega)]; rfl
  · subst h; rw [cmp_eq.2 rfl, decide_eq_true (by omega)]; rfl
  · rw [Int.compare_eq_gt.2 h, decide_eq_false (by omega)]; rfl
section
variable {y : Nat} {s : Bool} {m : Nat} {e : Int}
theorem fge_big (hy : Ieee.double.read y = .number s m e) (he : -1074 ≤ e) : fge .f64 y big64 = decide (Ieee.signed false 4503599627370496 (0 + 1074 : Int).toNat ≤ Ieee.signed s m (e + 1074).toNat) := by
  have h : fge .f64 y big64 = (((Ieee.double.read y).order (Ieee.double.read big64) == some .gt) || ((Ieee.double.read y).order (Ieee.double.read big64) == some .eq)) := rfl
  rw [h, hy, big_read, order_val he (by omega)]
  exact cmp_ge
theorem fle_mbig (hy : Ieee.double.read y = .number s m e) (he : -1074 ≤ e) : fle .f64 y mbig64 = decide (Ieee.signed s m (e + 1074).toNat ≤ Ieee.signed true 4503599627370496 (0 + 1074 : Int).toNat) := by
  have h : fle .f64 y mbig64 = (((Ieee.double.read y).order (Ieee.double.read mbig64) == some .lt) || ((Ieee.double.read y).order (Ieee.double.read mbig64) == some .eq)) := rfl
  rw [h, hy, mbig_read, order_val he (by omega)]
  exact cmp_le
/-- A number is great by its magnitude, or by itself. -/
theorem great_abs {a : Nat} (hy : Ieee.double.read y = .number s m e) (ha : Ieee.double.read a = .number false m e) (he : -1074 ≤ e) : fge .f64 a big64 = (fge .f64 y big64 || fle .f64 y mbig64) := by
  rw [fge_big ha he, fge_big hy he, fle_mbig hy he, signed_if, signed_if, signed_if, signed_if]
  have hp : 0 < 4503599627370496 * 2 ^ (0 + 1074 : Int).toNat := Nat.mul_pos (by decide) (Nat.pow_pos (by decide))
  generalize 4503599627370496 * 2 ^ (0 + 1074 : Int).toNat = B at hp
  generalize m * 2 ^ (e + 1074).toNat = A
  rw [Bool.eq_iff_iff]
  cases s <;> simp <;> omega
theorem not_great (hy : Ieee.double.read y = .number s m e) (he : -1074 ≤ e) (h : (fge .f64 y big64 || fle .f64 y mbig64) = false) : ∀ D : Nat, D = 1126 → m * 2 ^ (e + 1074).toNat < 2 ^ D := by
  intro D hD
  rw [fge_big hy he, fle_mbig hy he, signed_if, signed_if, signed_if] at h
  have e1 : (2 : Nat) ^ D = 4503599627370496 * 2 ^ (0 + 1074 : Int).toNat := by
    rw [show (4503599627370496 : Nat) = 2 ^ 52 from by decide, ← Nat.pow_add]
    congr 1
  rw [e1]
  generalize 4503599627370496 * 2 ^ (0 + 1074 : Int).toNat = B at h
  generalize m * 2 ^ (e + 1074).toNat = A at h
  rw [Bool.or_eq_false_iff, decide_eq_false_iff_not, decide_eq_false_iff_not] at h
  cases s <;> simp at h <;> omega
end
/-- The magnitude does not depend on the sign. -/
theorem read_rung {x z : Nat} {s : Bool} {m : Nat} {e : Int} (h : x % 9223372036854775808 = z % 9223372036854775808) (hx : Ieee.double.read x = .number s m e) : Ieee.double.read z = .number (z / 9223372036854775808 % 2 == 1) m e := by
  obtain ⟨c1, c2, c3⟩ := double_consts
  unfold Ieee.Format.read at hx ⊢
  dsimp only at hx ⊢
  rw [c1, c2, c3] at hx ⊢
  rw [h] at hx
  split at hx
  · rename_i h1
    rw [if_pos h1]
    injection hx with a1 a2 a3
    rw [a2, a3]
  · rename_i h1
    rw [if_neg h1]
    split at hx
    · rename_i h2
      rw [if_pos h2]
      injection hx with a1 a2 a3
      rw [a2, a3]
    · split at hx <;> cases hx
theorem neg_mod (x : Nat) : (Op.negFloat .f64 x) % 9223372036854775808 = x % 9223372036854775808 := by
  unfold Op.negFloat
  have : (2 : Nat) ^ (FloatKind.f64.format.exponentBits + FloatKind.f64.format.fractionBits) = 2 ^ 63 := rfl
  rw [this, show (9223372036854775808 : Nat) = 2 ^ 63 from by decide, Nat.xor_mod_two_pow, Nat.mod_self, Nat.xor_zero]
theorem Mg_neg {x K : Nat} (h : Mg x K) : Mg (Op.negFloat .f64 x) K := by
  obtain ⟨s, m, e, h1, h2, h3⟩ := h
  exact ⟨_, m, e, read_rung (neg_mod x).symm h1, h2, h3⟩
/-- Of a number that is not great there is a whole part, and the sine is made narrow. -/
theorem sine_some {y : Nat} {s : Bool} {m : Nat} {e : Int} (hy : Ieee.double.read y = .number s m e) (he : -1074 ≤ e) (h : (fge .f64 y big64 || fle .f64 y mbig64) = false) : ∃ n r, floatToIntVal .f64 y .i64 = some n ∧ f2f .f64 (sineV y n) .f32 = some r := by
  obtain ⟨n, h1, h2⟩ := rest_bound hy he (not_great hy he h)
  obtain ⟨r, h3⟩ := sine_narrow (fun x hx => Mg_neg hx) h2
  exact ⟨n, r, h1, h3⟩
end Go.Abs

