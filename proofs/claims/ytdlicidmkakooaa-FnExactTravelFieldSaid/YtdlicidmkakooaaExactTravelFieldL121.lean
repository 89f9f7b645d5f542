/- Plain law: whole numbers in float64, and the rest of a number behind its whole part. No condition beyond those written. -/
import Derived.Test.YtdlicidmkakooaaExactTravelFieldL120
namespace Go.Abs
set_option linter.unusedSimpArgs false
set_option linter.unusedVariables false
set_option maxHeartbeats 8000000
set_option maxRecDepth 4000

/-- A whole number is exact. -/
theorem exact_int {s : Bool} {T : Nat} (h : T < 9007199254740992) : ∃ m e, Ieee.double.read (Ieee.double.nearest s T 0) = .number s m e ∧ -1074 ≤ e ∧ ∀ D : Nat, D = 1074 → m * 2 ^ (e + 1074).toNat = T * 2 ^ D := by
  obtain ⟨c1, c2, c3⟩ := double_consts
  unfold Ieee.Format.nearest
  rw [double_least, double_frac, c3, c1]
  rcases Nat.eq_zero_or_pos T with rfl | hT
  · rw [if_pos rfl, read_word64 (by decide), if_pos (by decide)]
    exact ⟨0, -1074, rfl, by omega, fun D _ => by rw [Nat.zero_mul, Nat.zero_mul]⟩
  rw [if_neg (by omega)]
  dsimp only
  obtain ⟨L, hL⟩ : ∃ L, T.log2 = L := ⟨_, rfl⟩
  have l1 : 2 ^ L ≤ T := by rw [← hL]; exact log2_le hT
  have l2 : T < 2 ^ (L + 1) := by rw [← hL]; exact log2_gt
  have hL52 : L ≤ 52 := by
    have : L < 53 := by rw [← hL]; exact (Nat.log2_lt (by omega)).2 (by rw [show (2 : Nat) ^ 53 = 9007199254740992 from by decide]; exact h)
    omega
  rw [hL, Int.max_eq_left (by omega)]
  rw [show (0 - (0 + (L : Int) - ((52 : Nat) : Int))).toNat = 52 - L from by omega, show (0 + (L : Int) - ((52 : Nat) : Int) - 0).toNat = 0 from by omega, show (0 + (L : Int) - ((52 : Nat) : Int) - -1074).toNat = L + 1022 from by omega]
  rw [cut_exact (by rw [Nat.zero_min, Nat.pow_zero, Nat.mod_one]), Nat.zero_min, Nat.pow_zero, Nat.div_one, Nat.shiftLeft_eq]
  have q1 : 4503599627370496 ≤ T * 2 ^ (52 - L) := by
    have h1 := Nat.mul_le_mul_right (2 ^ (52 - L)) l1
    rw [← Nat.pow_add, show L + (52 - L) = 52 from by omega] at h1
    exact h1
  have q2 : T * 2 ^ (52 - L) < 9007199254740992 := by
    have h1 := Nat.mul_lt_mul_of_pos_right l2 (Nat.pow_pos (n := 52 - L) (show 0 < 2 by decide))
    rw [← Nat.pow_add, show L + 1 + (52 - L) = 53 from by omega] at h1
    exact h1
  obtain ⟨Q, hQ⟩ : ∃ Q, T * 2 ^ (52 - L) = Q := ⟨_, rfl⟩
  have hQ2 : ∀ D : Nat, D = 1074 → Q * 2 ^ (L + 1022) = T * 2 ^ D := fun D hD => by
    rw [← hQ, Nat.mul_assoc, ← Nat.pow_add]; congr 2; omega
  rw [hQ] at q1 q2 ⊢
  obtain ⟨R, hR⟩ : ∃ R, (L + 1022) * 4503599627370496 + Q = R := ⟨_, rfl⟩
  have hR1 : R < 9218868437227405312 := by
    have h1 : (L + 1022) * 4503599627370496 ≤ 1074 * 4503599627370496 := Nat.mul_le_mul_right _ (by omega)
    have h2 : (1074 : Nat) * 4503599627370496 = 4836865999795912704 := by decide
    rw [h2] at h1
    rw [← hR]
    generalize (L + 1022) * 4503599627370496 = Z at h1
    omega
  have hR2 : R = Q - 4503599627370496 + 4503599627370496 * (L + 1023) := by
    rw [← hR, Nat.mul_comm 4503599627370496, show L + 1023 = L + 1022 + 1 from rfl, Nat.add_mul (L + 1022) 1, Nat.one_mul]
    generalize (L + 1022) * 4503599627370496 = Z
    omega
  have hdiv : R / 4503599627370496 = L + 1023 := by
    rw [hR2, Nat.add_mul_div_left _ _ (by decide), Nat.div_eq_of_lt (by omega), Nat.zero_add]
  have hmod : R % 4503599627370496 = Q - 4503599627370496 := by
    rw [hR2, Nat.add_mul_mod_self_left, Nat.mod_eq_of_lt (by omega)]
  have hge : ¬ R < 4503599627370496 := by
    rw [← hR]
    generalize (L + 1022) * 4503599627370496 = Z
    omega
  rw [hR, Nat.min_eq_left (Nat.le_of_lt hR1), read_word64 hR1, if_neg hge, hdiv, hmod]
  refine ⟨_, _, rfl, by omega, fun D hD => ?_⟩
  rw [show (-1074 + ((L + 1023 - 1 : Nat) : Int) + 1074).toNat = L + 1022 from by omega, show 4503599627370496 + (Q - 4503599627370496) = Q from by omega]
  exact hQ2 D hD

/-- The whole part of a number. -/
theorem toInt_num {s : Bool} {m : Nat} {e : Int} : (Ieee.Datum.number s m e).toInt .zero = some (Ieee.signed s ((m <<< e.toNat) / 2 ^ min (-e).toNat ((m <<< e.toNat).log2 + 2)) 0) := by
  unfold Ieee.Datum.toInt Ieee.Datum.integral
  dsimp only
  unfold Ieee.Toward.cut
  dsimp only
  rw [Nat.shiftLeft_eq 1, Nat.one_mul]
  rfl
theorem whole_part {m : Nat} {e : Int} (he : -1074 ≤ e) : ∃ T, (m <<< e.toNat) / 2 ^ min (-e).toNat ((m <<< e.toNat).log2 + 2) = T ∧ ∀ D : Nat, D = 1074 → T * 2 ^ D ≤ m * 2 ^ (e + 1074).toNat ∧ m * 2 ^ (e + 1074).toNat < (T + 1) * 2 ^ D := by
  refine ⟨_, rfl, fun D hD => ?_⟩
  rcases Int.le_total 0 e with h | h
  · rw [show (-e).toNat = 0 from by omega, Nat.zero_min, Nat.pow_zero, Nat.div_one, Nat.shiftLeft_eq]
    have h1 : m * 2 ^ (e + 1074).toNat = m * 2 ^ e.toNat * 2 ^ D := by rw [Nat.mul_assoc, ← Nat.pow_add]; congr 2; omega
    rw [h1]
    exact ⟨Nat.le_refl _, Nat.mul_lt_mul_of_pos_right (Nat.lt_succ_self _) (Nat.pow_pos (by decide))⟩
  · rw [show e.toNat = 0 from by omega, Nat.shiftLeft_zero]
    obtain ⟨d, hd⟩ : ∃ d, (-e).toNat = d := ⟨_, rfl⟩
    rw [hd]
    have e1 : (2 : Nat) ^ D = 2 ^ d * 2 ^ (e + 1074).toNat := by rw [← Nat.pow_add]; congr 1; omega
    have hdiv : m / 2 ^ min d (m.log2 + 2) = m / 2 ^ d := by
      rcases Nat.le_total d (m.log2 + 2) with hle | hge
      · rw [Nat.min_eq_left hle]
      · rw [Nat.min_eq_right hge]
        have a1 : m < 2 ^ (m.log2 + 2) := Nat.lt_of_lt_of_le log2_gt (Nat.pow_le_pow_right (by decide) (by omega))
        rw [Nat.div_eq_of_lt a1, Nat.div_eq_of_lt (Nat.lt_of_lt_of_le a1 (Nat.pow_le_pow_right (by decide) hge))]
    rw [hdiv, e1, ← Nat.mul_assoc, ← Nat.mul_assoc]
    have hp : 0 < (2 : Nat) ^ (e + 1074).toNat := Nat.pow_pos (by decide)
    exact ⟨Nat.mul_le_mul_right _ (Nat.div_mul_le_self _ _), Nat.mul_lt_mul_of_pos_right (by rw [Nat.add_mul, Nat.one_mul]; exact Nat.lt_div_mul_add (Nat.pow_pos (by decide))) hp⟩
theorem signed_mul (s : Bool) (m a b : Nat) : Ieee.signed s m a * 2 ^ b = Ieee.signed s m (a + b) := by
  unfold Ieee.signed
  rw [Nat.shiftLeft_eq, Nat.shiftLeft_eq, Nat.pow_add, ← Nat.mul_assoc]
  cases s <;> simp [Int.neg_mul]
/-- The rest of a number behind its whole part is not greater than 1. -/
theorem rest_bound {y : Nat} {s : Bool} {m : Nat} {e : Int} (hy : Ieee.double.read y = .number s m e) (he : -1074 ≤ e) (hb : ∀ D : Nat, D = 1126 → m * 2 ^ (e + 1074).toNat < 2 ^ D) : ∃ n : Int, floatToIntVal .f64 y .i64 = some n ∧ Mg (fbin .sub .f64 y (FloatKind.f64.nearest n)) 1074 := by
  obtain ⟨T, hT, hD⟩ := whole_part (m := m) he
  obtain ⟨D, hD0⟩ : ∃ D : Nat, D = 1074 := ⟨_, rfl⟩
  obtain ⟨t1, t2⟩ := hD D hD0
  have hTb : T < 4503599627370496 := by
    have h1 := Nat.lt_of_le_of_lt t1 (hb (52 + D) (by omega))
    rw [Nat.pow_add] at h1
    exact Nat.lt_of_mul_lt_mul_right h1
  obtain ⟨n, hn⟩ : ∃ n, n = Ieee.signed s T 0 := ⟨_, rfl⟩
  have hnT : n = if s then -(T : Int) else (T : Int) := by rw [hn]; unfold Ieee.signed; rw [Nat.shiftLeft_zero]
  have hfi : floatToIntVal .f64 y .i64 = some n := by
    unfold floatToIntVal
    have hd : FloatKind.f64.decode y = .number s m e := hy
    rw [hd, toInt_num, hT, ← hn]
    dsimp only
    rw [if_pos]
    have a1 : IntKind.i64.min = -9223372036854775808 := by decide
    have a2 : IntKind.i64.max = 9223372036854775807 := by decide
    rw [a1, a2, hnT]
    cases s <;> simp <;> omega
  refine ⟨n, hfi, ?_⟩
  have hnear : FloatKind.f64.nearest n = Ieee.double.nearest (decide (n < 0)) n.natAbs 0 := rfl
  have habs : n.natAbs = T := by rw [hnT]; cases s <;> simp
  rw [hnear, habs]
  obtain ⟨m2, e2, r1, r2, r3⟩ := exact_int (s := decide (n < 0)) (T := T) (by omega)
  have r3 := r3 D hD0
  rw [fbin_sub6, hy, r1, show (Ieee.Datum.number (decide (n < 0)) m2 e2).opposite = .number (!decide (n < 0)) m2 e2 from rfl, sum_num6, Option.map_some, Option.getD_some, write_num6]
  refine Mg_near (by omega) (by omega) (by omega) ?_
  -- the exact rest
  have hb1 : Ieee.signed s m (e - min e e2).toNat * 2 ^ (min e e2 + 1074).toNat = if s then -((m * 2 ^ (e + 1074).toNat : Nat) : Int) else ((m * 2 ^ (e + 1074).toNat : Nat) : Int) := by
    rw [signed_mul, show (e - min e e2).toNat + (min e e2 + 1074).toNat = (e + 1074).toNat from by omega]
    unfold Ieee.signed; rw [Nat.shiftLeft_eq]
  have hb2 : Ieee.signed (!decide (n < 0)) m2 (e2 - min e e2).toNat * 2 ^ (min e e2 + 1074).toNat = if s then ((T * 2 ^ D : Nat) : Int) else -((T * 2 ^ D : Nat) : Int) := by
    rw [signed_mul, show (e2 - min e e2).toNat + (min e e2 + 1074).toNat = (e2 + 1074).toNat from by omega]
    unfold Ieee.signed; rw [Nat.shiftLeft_eq, r3]
    rcases Nat.eq_zero_or_pos T with h0 | h0
    · subst h0; simp
    · have hne : decide (n < 0) = s := by
        rw [hnT]; cases s
        · simp
        · simp; omega
      rw [hne]; cases s <;> rfl
  have hsum : ((Ieee.signed s m (e - min e e2).toNat + Ieee.signed (!decide (n < 0)) m2 (e2 - min e e2).toNat).natAbs * 2 ^ (min e e2 + 1074).toNat : Nat) ≤ 2 ^ D := by
    have h1 : ((Ieee.signed s m (e - min e e2).toNat + Ieee.signed (!decide (n < 0)) m2 (e2 - min e e2).toNat) * 2 ^ (min e e2 + 1074).toNat).natAbs ≤ 2 ^ D := by
      rw [Int.add_mul, hb1, hb2]
      rw [Nat.add_mul, Nat.one_mul] at t2
      generalize m * 2 ^ (e + 1074).toNat = A at t1 t2 ⊢
      generalize T * 2 ^ D = B at t1 t2 ⊢
      generalize 2 ^ D = E at t2 ⊢
      cases s <;> simp <;> omega
    rw [Int.natAbs_mul] at h1
    have h2 : ((2 : Int) ^ (min e e2 + 1074).toNat).natAbs = 2 ^ (min e e2 + 1074).toNat := by rw [Int.natAbs_pow]; rfl
    rw [h2] at h1
    exact h1
  obtain ⟨E, hE⟩ : ∃ E : Nat, E = 2926 := ⟨_, rfl⟩
  have e3 : (min e e2 + 4000).toNat = (min e e2 + 1074).toNat + E := by omega
  rw [e3, Nat.pow_add, ← Nat.mul_assoc]
  refine Nat.le_trans (Nat.mul_le_mul_right _ hsum) ?_
  rw [← Nat.pow_add, hD0, hE]
  exact Nat.le_refl _
end Go.Abs

