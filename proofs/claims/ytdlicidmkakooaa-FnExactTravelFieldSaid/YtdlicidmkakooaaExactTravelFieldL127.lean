/- Plain law: quotients of a number and a greater one, sums not below 1, and roots in float64. No condition beyond those written. -/
import Derived.Test.YtdlicidmkakooaaExactTravelFieldL125
namespace Go.Abs
set_option linter.unusedSimpArgs false
set_option linter.unusedVariables false
set_option maxHeartbeats 8000000
set_option maxRecDepth 4000

/-- A quotient by a number that is not less is not greater than 2. -/
theorem Mg_ratio {x y m n : Nat} {s t : Bool} {e g : Int} (hx : Ieee.double.read x = .number s m e) (hy : Ieee.double.read y = .number t n g) (a2 : -1074 ≤ e) (b2 : -1074 ≤ g) (b4 : g ≤ 1000) (h0 : n < 2 ^ 53) (hn : n ≠ 0) (hxy : m * 2 ^ (e + 1074).toNat ≤ n * 2 ^ (g + 1074).toNat) : Mg (fbin .quo .f64 x y) 1075 := by
  rw [fbin_quo6, hx, hy, double_frac, quot_num _ _ _ _ _ _ _ hn, Option.map_some, Option.getD_some, write_num6]
  have hln : n.log2 < 53 := (Nat.log2_lt hn).2 h0
  obtain ⟨w, hw⟩ : ∃ w, 52 + 2 + n.log2 - m.log2 = w := ⟨_, rfl⟩
  rw [hw]
  refine Mg_near (by omega) (by omega) (by omega) ?_
  rcases Nat.eq_zero_or_pos m with rfl | hm
  · rw [Nat.zero_shiftLeft, Nat.zero_div, Nat.zero_mod, show 2 * 0 + ((0 : Nat) != 0).toNat = 0 from rfl, Nat.zero_mul]
    exact Nat.zero_le _
  obtain ⟨D, hD⟩ : ∃ D, m <<< w = D := ⟨_, rfl⟩
  have hD2 : D = m * 2 ^ w := by rw [← hD, Nat.shiftLeft_eq]
  have hDn : n ≤ D := by
    have s1 : n < 2 ^ (n.log2 + 1) := log2_gt
    have s2 : (2 : Nat) ^ (n.log2 + 1) ≤ 2 ^ (m.log2 + w) := Nat.pow_le_pow_right (by decide) (by omega)
    have s3 : (2 : Nat) ^ (m.log2 + w) ≤ m * 2 ^ w := by rw [Nat.pow_add]; exact Nat.mul_le_mul_right _ (log2_le hm)
    rw [hD2]; omega
  rw [hD]
  obtain ⟨N, hN⟩ : ∃ N, 2 * (D / n) + (D % n != 0).toNat = N := ⟨_, rfl⟩
  have hNn : N * n ≤ 4 * D := by
    have q1 : 1 ≤ D / n := (Nat.le_div_iff_mul_le (by omega)).2 (by rw [Nat.one_mul]; exact hDn)
    have q2 : N ≤ 4 * (D / n) := by
      have := Bool.toNat_le (D % n != 0)
      omega
    have q3 : D / n * n ≤ D := Nat.div_mul_le_self _ _
    calc N * n ≤ 4 * (D / n) * n := Nat.mul_le_mul_right _ q2
      _ = 4 * (D / n * n) := Nat.mul_assoc _ _ _
      _ ≤ 4 * D := Nat.mul_le_mul_left _ q3
  rw [hN]
  obtain ⟨u, hu⟩ : ∃ u, (e - g - (w : Int) - 1 + 4000).toNat = u := ⟨_, rfl⟩
  obtain ⟨v, hv⟩ : ∃ v, (g + 1074).toNat = v := ⟨_, rfl⟩
  obtain ⟨E, hE⟩ : ∃ E : Nat, E = 4001 := ⟨_, rfl⟩
  rw [hu]
  rw [hv] at hxy
  have hpos : 0 < n * 2 ^ v := Nat.mul_pos (by omega) (Nat.pow_pos (by decide))
  have key : N * 2 ^ u * (n * 2 ^ v) ≤ 2 ^ E * (n * 2 ^ v) := by
    have k2 : N * 2 ^ u * (n * 2 ^ v) = N * n * (2 ^ u * 2 ^ v) := by
      generalize 2 ^ u = A
      generalize 2 ^ v = B
      simp only [Nat.mul_assoc, Nat.mul_left_comm, Nat.mul_comm]
    have k3 : N * n * (2 ^ u * 2 ^ v) ≤ 4 * D * (2 ^ u * 2 ^ v) := Nat.mul_le_mul_right _ hNn
    have k4 : 4 * D * (2 ^ u * 2 ^ v) = m * 2 ^ (e + 1074).toNat * 2 ^ E := by
      rw [hD2, show (4 : Nat) = 2 ^ 2 from rfl, Nat.mul_left_comm (2 ^ 2) m, Nat.mul_assoc m, Nat.mul_assoc m, ← Nat.pow_add, ← Nat.pow_add, ← Nat.pow_add, ← Nat.pow_add]
      congr 2
      omega
    have k5 : m * 2 ^ (e + 1074).toNat * 2 ^ E ≤ n * 2 ^ v * 2 ^ E := Nat.mul_le_mul_right _ hxy
    rw [k4] at k3
    rw [k2]
    refine Nat.le_trans k3 (Nat.le_trans k5 ?_)
    rw [Nat.mul_comm]
    exact Nat.le_refl _
  have h5 := Nat.le_of_mul_le_mul_right key hpos
  have e5 : (1075 + 2926 : Nat) = E := by omega
  rw [e5]
  exact h5
/-- A number not less than a power of two is written as one. -/
theorem near_lower {M J : Nat} {p : Int} (hp : -4000 ≤ p) (hJ : 52 ≤ J) (h : 2 ^ (J + 2926) ≤ M * 2 ^ (p + 4000).toNat) : ∃ r, (J - 51) * 4503599627370496 ≤ r ∧ Ieee.double.nearest false M p = Ieee.double.word false (min r 9218868437227405312) := by
  obtain ⟨c1, c2, c3⟩ := double_consts
  unfold Ieee.Format.nearest
  rw [double_least, double_frac, c3, c1]
  have hM : 0 < M := by
    rcases Nat.eq_zero_or_pos M with rfl | h'
    · rw [Nat.zero_mul] at h
      have := Nat.pow_pos (n := J + 2926) (show 0 < 2 by decide)
      omega
    · exact h'
  rw [if_neg (by omega)]
  dsimp only
  refine ⟨_, ?_, rfl⟩
  obtain ⟨L, hL⟩ : ∃ L, M.log2 = L := ⟨_, rfl⟩
  have l1 : 2 ^ L ≤ M := by rw [← hL]; exact log2_le hM
  have l2 : M < 2 ^ (L + 1) := by rw [← hL]; exact log2_gt
  obtain ⟨P, hP⟩ := Int.eq_ofNat_of_zero_le (show 0 ≤ p + 4000 by omega)
  have hPn : (p + 4000).toNat = P := by omega
  rw [hPn] at h
  have e1 : J + 2926 ≤ L + P := by
    have h1 : (2 : Nat) ^ (J + 2926) < 2 ^ (L + 1 + P) := by
      rw [Nat.pow_add 2 (L + 1)]
      exact Nat.lt_of_le_of_lt h (Nat.mul_lt_mul_of_pos_right l2 (Nat.pow_pos (by decide)))
    have := (Nat.pow_lt_pow_iff_right (by decide : 1 < 2)).1 h1
    omega
  rw [hL, Int.max_eq_left (by omega)]
  rw [show (p - (p + (L : Int) - ((52 : Nat) : Int))).toNat = 52 - L from by omega, show (p + (L : Int) - ((52 : Nat) : Int) - p).toNat = L - 52 from by omega]
  have hkept : 4503599627370496 ≤ Ieee.Toward.even.cut false (M <<< (52 - L)) (L - 52) := by
    rcases Nat.le_total L 52 with hl | hl
    · rw [show L - 52 = 0 from by omega, cut_exact (by rw [Nat.zero_min, Nat.pow_zero, Nat.mod_one]), Nat.zero_min, Nat.pow_zero, Nat.div_one, Nat.shiftLeft_eq]
      have h1 := Nat.mul_le_mul_right (2 ^ (52 - L)) l1
      rw [← Nat.pow_add, show L + (52 - L) = 52 from by omega] at h1
      exact h1
    · rw [show 52 - L = 0 from by omega, Nat.shiftLeft_zero]
      have hmin : min (L - 52) (M.log2 + 2) = L - 52 := by rw [hL]; omega
      have e52 : (2 : Nat) ^ L = 4503599627370496 * 2 ^ (L - 52) := by rw [show (4503599627370496 : Nat) = 2 ^ 52 from by decide, ← Nat.pow_add, show 52 + (L - 52) = L from by omega]
      have hpos : 0 < (2 : Nat) ^ (L - 52) := Nat.pow_pos (by decide)
      have h2 : 4503599627370496 ≤ M / 2 ^ (L - 52) := (Nat.le_div_iff_mul_le hpos).2 (by rw [← e52]; exact l1)
      unfold Ieee.Toward.cut
      rw [Nat.shiftLeft_eq, Nat.one_mul, hmin]
      dsimp only
      exact Nat.le_trans h2 (Nat.le_add_right _ _)
  generalize Ieee.Toward.even.cut false (M <<< (52 - L)) (L - 52) = kept at hkept ⊢
  obtain ⟨T, hT⟩ : ∃ T, (p + (L : Int) - ((52 : Nat) : Int) - -1074).toNat = T := ⟨_, rfl⟩
  rw [hT]
  obtain ⟨I, rfl⟩ : ∃ I, J = I + 52 := ⟨J - 52, by omega⟩
  have hT2 : I ≤ T := by omega
  rw [show I + 52 - 51 = I + 1 from by omega, Nat.add_mul, Nat.one_mul]
  exact Nat.add_le_add (Nat.mul_le_mul_right _ hT2) hkept
/-- Numbers not below a power of two. -/
def Lb (x J : Nat) : Prop := ∃ m e, Ieee.double.read x = .number false m e ∧ -1074 ≤ e ∧ e ≤ 1000 ∧ m < 2 ^ 53 ∧ 2 ^ J ≤ m * 2 ^ (e + 1074).toNat
/-- What is written of a number between powers of two. -/
theorem Lb_near {M J K : Nat} {p : Int} (hp : -4000 ≤ p) (hJ : 52 ≤ J) (hK : K ≤ 2000) (h : 2 ^ (J + 2926) ≤ M * 2 ^ (p + 4000).toNat) (h2 : M * 2 ^ (p + 4000).toNat ≤ 2 ^ (K + 2926)) : Lb (Ieee.double.nearest false M p) J := by
  have hJK : J ≤ K := by
    have := pow_le_inj (Nat.le_trans h h2)
    omega
  obtain ⟨r, r1, r2⟩ := near_lower hp hJ h
  obtain ⟨r', q1, q2⟩ := near_bound (s := false) hp (by omega) h2
  have h3 : (K - 51) * 4503599627370496 ≤ 1949 * 4503599627370496 := Nat.mul_le_mul_right _ (by omega)
  have h4 : (1949 : Nat) * 4503599627370496 = 8777515673745096704 := by decide
  rw [h4] at h3
  have hr : min r 9218868437227405312 = r' := by
    have e1 : Ieee.double.word false (min r 9218868437227405312) = Ieee.double.word false (min r' 9218868437227405312) := by rw [← r2, ← q2]
    have wf : ∀ z, Ieee.double.word false z = z := fun z => if_neg (by decide)
    rw [wf, wf, Nat.min_eq_left (show r' ≤ 9218868437227405312 by omega)] at e1
    exact e1
  have hrr : r = r' := by omega
  subst hrr
  have hge : ¬ r < 4503599627370496 := by
    have h5 : 1 * 4503599627370496 ≤ (J - 51) * 4503599627370496 := Nat.mul_le_mul_right _ (by omega)
    rw [Nat.one_mul] at h5
    omega
  unfold Lb
  rw [r2, Nat.min_eq_left (by omega), read_word64 (by omega), if_neg hge]
  obtain ⟨q, hq⟩ : ∃ q, r / 4503599627370496 = q := ⟨_, rfl⟩
  have hqJ : J - 51 ≤ q := by rw [← hq]; exact (Nat.le_div_iff_mul_le (by decide)).2 r1
  have hqK : q ≤ 1949 := by rw [← hq]; exact Nat.div_le_of_le_mul (by rw [Nat.mul_comm]; exact Nat.le_trans (Nat.le_trans q1 h3) (Nat.le_of_eq h4.symm))
  obtain ⟨t, ht⟩ : ∃ t, r % 4503599627370496 = t := ⟨_, rfl⟩
  have htl : t < 4503599627370496 := by rw [← ht]; exact Nat.mod_lt _ (by decide)
  rw [hq, ht]
  refine ⟨_, _, rfl, by omega, by omega, by rw [show (2 : Nat) ^ 53 = 9007199254740992 from by decide]; omega, ?_⟩
  rw [show (-1074 + ((q - 1 : Nat) : Int) + 1074).toNat = q - 1 from by omega]
  have h6 : (2 : Nat) ^ J = 2 ^ 52 * 2 ^ (J - 52) := by rw [← Nat.pow_add]; congr 1; omega
  rw [h6]
  exact Nat.mul_le_mul (by rw [show (2 : Nat) ^ 52 = 4503599627370496 from by decide]; omega) (Nat.pow_le_pow_right (by decide) (by omega))
/-- A number not below 0 that is added leaves a number as great. -/
theorem Lb_add {x y J K n : Nat} {g : Int} (hx : Lb x J) (hy : Ieee.double.read y = .number false n g) (hg : -1074 ≤ g) (hxK : Mg x K) (hyK : Mg y K) (hJ : 52 ≤ J) (hK : K ≤ 1999) : Lb (fbin .add .f64 x y) J := by
  obtain ⟨m, e, a1, a2, a4, a5, a3⟩ := hx
  obtain ⟨s', m', e', b1, b2, b3⟩ := hxK
  rw [a1] at b1
  injection b1 with i1 i2 i3
  subst i1 i2 i3
  obtain ⟨t', n', g', d1, d2, d3⟩ := hyK
  rw [hy] at d1
  injection d1 with j1 j2 j3
  subst j1 j2 j3
  rw [fbin_add6, a1, hy, sum_num6, Option.map_some, Option.getD_some, write_num6]
  have hs : ∀ a b : Nat, Ieee.signed false a b = ((a * 2 ^ b : Nat) : Int) := fun a b => by rw [signed_if]; rfl
  rw [hs, hs]
  obtain ⟨A, hA⟩ : ∃ A, m * 2 ^ (e - min e g).toNat = A := ⟨_, rfl⟩
  obtain ⟨B, hB⟩ : ∃ B, n * 2 ^ (g - min e g).toNat = B := ⟨_, rfl⟩
  rw [hA, hB]
  have hneg : (if (A : Int) + (B : Int) = 0 then false && false else decide ((A : Int) + (B : Int) < 0)) = false := by
    split
    · rfl
    · exact decide_eq_false (by omega)
  rw [hneg, show ((A : Int) + (B : Int)).natAbs = A + B from by omega]
  obtain ⟨D, hD⟩ : ∃ D : Nat, D = 2926 := ⟨_, rfl⟩
  have e1 : A * 2 ^ (min e g + 4000).toNat = m * 2 ^ (e + 1074).toNat * 2 ^ D := by
    rw [← hA, Nat.mul_assoc, Nat.mul_assoc, ← Nat.pow_add, ← Nat.pow_add]; congr 2; omega
  have e2 : B * 2 ^ (min e g + 4000).toNat = n * 2 ^ (g + 1074).toNat * 2 ^ D := by
    rw [← hB, Nat.mul_assoc, Nat.mul_assoc, ← Nat.pow_add, ← Nat.pow_add]; congr 2; omega
  refine Lb_near (K := K + 1) (by omega) hJ (by omega) ?_ ?_
  · rw [Nat.add_mul, e1, ← hD, Nat.pow_add]
    exact Nat.le_trans (Nat.mul_le_mul_right _ a3) (Nat.le_add_right _ _)
  · rw [Nat.add_mul, e1, e2, ← Nat.add_mul]
    refine Nat.le_trans (Nat.mul_le_mul_right _ (Nat.add_le_add b3 d3)) ?_
    rw [← Nat.two_mul, ← Nat.pow_succ', ← Nat.pow_add]
    exact Nat.pow_le_pow_right (by decide) (by omega)
end Go.Abs

