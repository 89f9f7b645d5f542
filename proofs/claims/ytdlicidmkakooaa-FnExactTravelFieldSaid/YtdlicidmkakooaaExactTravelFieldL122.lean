/- Plain law: quotients and narrow numbers. No condition beyond those written. -/
import Derived.Test.YtdlicidmkakooaaExactTravelFieldL121
namespace Go.Abs
set_option linter.unusedSimpArgs false
set_option linter.unusedVariables false
set_option maxHeartbeats 8000000
set_option maxRecDepth 4000

theorem single_frac : Ieee.single.fractionBits = 23 := rfl
/-- A number not greater than a power of two is written as one. -/
theorem near_bound32 {s : Bool} {M K : Nat} {p : Int} (hp : -4000 ≤ p) (hK1 : 23 ≤ K) (h : M * 2 ^ (p + 4000).toNat ≤ 2 ^ (K + 3851)) : ∃ r, r ≤ (K - 22) * 8388608 ∧ Ieee.single.nearest s M p = Ieee.single.word s (min r 2139095040) := by
  obtain ⟨c1, c2, c3, c4⟩ := single_consts
  unfold Ieee.Format.nearest
  rw [c3, single_frac, c1, c2]
  rcases Nat.eq_zero_or_pos M with rfl | hM
  · rw [if_pos rfl]; exact ⟨0, Nat.zero_le _, rfl⟩
  rw [if_neg (by omega)]
  dsimp only
  refine ⟨_, ?_, rfl⟩
  obtain ⟨L, hL⟩ : ∃ L, M.log2 = L := ⟨_, rfl⟩
  have l1 : 2 ^ L ≤ M := by rw [← hL]; exact log2_le hM
  have l2 : M < 2 ^ (L + 1) := by rw [← hL]; exact log2_gt
  obtain ⟨P, hP⟩ := Int.eq_ofNat_of_zero_le (show 0 ≤ p + 4000 by omega)
  have hPn : (p + 4000).toNat = P := by omega
  rw [hPn] at h
  have e1 : L + P ≤ K + 3851 := by
    refine pow_le_inj ?_
    rw [Nat.pow_add]
    exact Nat.le_trans (Nat.mul_le_mul_right _ l1) h
  rw [hL]
  have hpow : ∀ a b : Nat, a ≤ b → (2 : Nat) ^ a ≤ 2 ^ b := fun a b h => Nat.pow_le_pow_right (by decide) h
  by_cases hq : (-149 : Int) ≤ p + (L : Int) - ((23 : Nat) : Int)
  · -- a normal number
    rw [Int.max_eq_left hq]
    have hkept : Ieee.Toward.even.cut s (M <<< (p - (p + (L : Int) - ((23 : Nat) : Int))).toNat) (p + (L : Int) - ((23 : Nat) : Int) - p).toNat ≤ 16777216 ∧ (M = 2 ^ L → Ieee.Toward.even.cut s (M <<< (p - (p + (L : Int) - ((23 : Nat) : Int))).toNat) (p + (L : Int) - ((23 : Nat) : Int) - p).toNat ≤ 8388608) := by
      rw [show (p - (p + (L : Int) - ((23 : Nat) : Int))).toNat = 23 - L from by omega, show (p + (L : Int) - ((23 : Nat) : Int) - p).toNat = L - 23 from by omega]
      rcases Nat.le_total L 23 with hl | hl
      · rw [show L - 23 = 0 from by omega]
        have hc : Ieee.Toward.even.cut s (M <<< (23 - L)) 0 = M <<< (23 - L) := by
          rw [cut_exact (by rw [Nat.zero_min, Nat.pow_zero, Nat.mod_one]), Nat.zero_min, Nat.pow_zero, Nat.div_one]
        rw [hc, Nat.shiftLeft_eq]
        have e24 : (2 : Nat) ^ (L + 1) * 2 ^ (23 - L) = 16777216 := by rw [← Nat.pow_add, show L + 1 + (23 - L) = 24 from by omega]
        have e23 : (2 : Nat) ^ L * 2 ^ (23 - L) = 8388608 := by rw [← Nat.pow_add, show L + (23 - L) = 23 from by omega]
        refine ⟨?_, fun hm => ?_⟩
        · rw [← e24]; exact Nat.mul_le_mul_right _ (Nat.le_of_lt l2)
        · rw [hm, e23]; exact Nat.le_refl _
      · rw [show 23 - L = 0 from by omega, Nat.shiftLeft_zero]
        have hmin : min (L - 23) (M.log2 + 2) = L - 23 := by rw [hL]; omega
        have e24 : (2 : Nat) ^ (L + 1) = 16777216 * 2 ^ (L - 23) := by rw [show (16777216 : Nat) = 2 ^ 24 from by decide, ← Nat.pow_add, show 24 + (L - 23) = L + 1 from by omega]
        have e23 : (2 : Nat) ^ L = 8388608 * 2 ^ (L - 23) := by rw [show (8388608 : Nat) = 2 ^ 23 from by decide, ← Nat.pow_add, show 23 + (L - 23) = L from by omega]
        have hpos : 0 < (2 : Nat) ^ (L - 23) := Nat.pow_pos (by decide)
        refine ⟨?_, fun hm => ?_⟩
        · have h1 := cut_le (s := s) (n := M) (d := L - 23)
          rw [hmin] at h1
          have h2 : M / 2 ^ (L - 23) < 16777216 := by rw [Nat.div_lt_iff_lt_mul hpos, ← e24]; exact l2
          omega
        · rw [cut_exact (by rw [hmin, hm, e23]; exact Nat.mul_mod_left _ _), hmin, hm, e23, Nat.mul_div_cancel _ hpos]
          exact Nat.le_refl _
    obtain ⟨k1, k2⟩ := hkept
    generalize Ieee.Toward.even.cut s (M <<< (p - (p + (L : Int) - ((23 : Nat) : Int))).toNat) (p + (L : Int) - ((23 : Nat) : Int) - p).toNat = kept at k1 k2 ⊢
    obtain ⟨T, hT⟩ : ∃ T, (p + (L : Int) - ((23 : Nat) : Int) - -149).toNat = T := ⟨_, rfl⟩
    rw [hT]
    have hTK : T = L + P - 3874 := by omega
    rcases Nat.lt_or_ge (L + P) (K + 3851) with hlt | hge
    · obtain ⟨J, rfl⟩ : ∃ J, K = J + 24 := ⟨K - 24, by omega⟩
      have hT2 : T ≤ J := by omega
      have h3 : T * 8388608 ≤ J * 8388608 := Nat.mul_le_mul_right _ hT2
      rw [show J + 24 - 22 = J + 2 from by omega, Nat.add_mul]
      exact Nat.add_le_add h3 (Nat.le_trans k1 (by decide))
    · have heq : L + P = K + 3851 := by omega
      have hM2 : M = 2 ^ L := by
        have h3 : M * 2 ^ P ≤ 2 ^ L * 2 ^ P := by rw [← Nat.pow_add, heq]; exact h
        have h4 := Nat.le_of_mul_le_mul_right h3 (Nat.pow_pos (by decide))
        omega
      have k3 := k2 hM2
      obtain ⟨J, rfl⟩ : ∃ J, K = J + 23 := ⟨K - 23, by omega⟩
      have hT2 : T = J := by omega
      rw [hT2, show J + 23 - 22 = J + 1 from by omega, Nat.add_mul]
      exact Nat.add_le_add_left (Nat.le_trans k3 (by decide)) _
  · rw [Int.max_eq_right (by omega)]
    have h0 : (-149 - -149 : Int).toNat = 0 := by decide
    rw [h0, Nat.zero_mul, Nat.zero_add]
    have hkept : Ieee.Toward.even.cut s (M <<< (p - -149).toNat) (-149 - p).toNat ≤ 8388608 := by
      rcases Int.le_total (-149) p with hge | hle
      · rw [show (-149 - p).toNat = 0 from by omega, cut_exact (by rw [Nat.zero_min, Nat.pow_zero, Nat.mod_one]), Nat.zero_min, Nat.pow_zero, Nat.div_one, Nat.shiftLeft_eq]
        have h5 : M * 2 ^ (p - -149).toNat ≤ 2 ^ (L + 1) * 2 ^ (p - -149).toNat := Nat.mul_le_mul_right _ (Nat.le_of_lt l2)
        rw [← Nat.pow_add] at h5
        exact Nat.le_trans h5 (Nat.le_trans (hpow _ 23 (by omega)) (by decide))
      · rw [show (p - -149).toNat = 0 from by omega, Nat.shiftLeft_zero]
        have h1 := cut_le (s := s) (n := M) (d := (-149 - p).toNat)
        have hpos : 0 < (2 : Nat) ^ min (-149 - p).toNat (M.log2 + 2) := Nat.pow_pos (by decide)
        have h2 : M / 2 ^ min (-149 - p).toNat (M.log2 + 2) < 8388608 := by
          rw [Nat.div_lt_iff_lt_mul hpos, show (8388608 : Nat) = 2 ^ 23 from by decide, ← Nat.pow_add]
          exact Nat.lt_of_lt_of_le l2 (hpow _ _ (by rw [hL]; omega))
        omega
    exact Nat.le_trans hkept (by rw [show (8388608 : Nat) = 1 * 8388608 from by decide]; exact Nat.mul_le_mul_right _ (by omega))

theorem read_word32 {s : Bool} {r : Nat} (hr : r < 2139095040) : (Ieee.single.read (Ieee.single.word s r)).isInfinity = false := by
  obtain ⟨c1, c2, c3, c4⟩ := single_consts
  unfold Ieee.Format.read
  dsimp only
  have e1 : Ieee.single.word s r % 2147483648 = r := by
    unfold Ieee.Format.word
    rw [c4]
    cases s
    · simp only [Bool.false_eq_true, if_false]; omega
    · simp only [if_true]; omega
  rw [c1, c2, c3, c4, e1]
  split
  · rfl
  · first | rfl | (rw [if_pos hr]; rfl)
/-- A number that is not great is made narrow. -/
theorem narrow_some {x K : Nat} (hK : K ≤ 1201) (hx : Mg x K) : ∃ r, f2f .f64 x .f32 = some r := by
  obtain ⟨s, m, e, h1, h2, h3⟩ := hx
  have hd : FloatKind.f64.decode x = .number s m e := h1
  unfold f2f
  have hn : isNaN .f64 x = false := by unfold isNaN; rw [hd]; rfl
  rw [hn]
  simp only [Bool.false_eq_true, if_false]
  unfold floatToFloatBits
  rw [if_neg (by decide), hd]
  dsimp only
  obtain ⟨E, hE⟩ : ∃ E : Nat, E = 2926 := ⟨_, rfl⟩
  obtain ⟨Q, hQ⟩ : ∃ Q : Nat, Q = 276 := ⟨_, rfl⟩
  obtain ⟨r, r1, r2⟩ := near_bound32 (s := s) (M := m) (K := Q) (p := e) (by omega) (by omega) (by
    have e3 : (e + 4000).toNat = (e + 1074).toNat + E := by omega
    rw [e3, Nat.pow_add, ← Nat.mul_assoc]
    refine Nat.le_trans (Nat.mul_le_mul_right _ h3) ?_
    rw [← Nat.pow_add]
    exact Nat.pow_le_pow_right (by decide) (by omega))
  rw [hQ] at r1
  have hw : FloatKind.f32.encode (.number s m e) = Ieee.single.word s (min r 2139095040) := r2
  have hr : r < 2139095040 := by
    have : (276 - 22) * 8388608 = 2130706432 := by decide
    omega
  rw [hw, Nat.min_eq_left (Nat.le_of_lt hr)]
  have hi : (FloatKind.f32.decode (Ieee.single.word s r)).isInfinity = false := read_word32 hr
  rw [hi]
  exact ⟨_, rfl⟩
theorem fbin_quo6 (x y : Nat) : fbin .quo .f64 x y = (((Ieee.double.read x).quotient (Ieee.double.fractionBits + 2) (Ieee.double.read y)).map Ieee.double.write).getD (nanOf .f64) := rfl
theorem quot_num (d : Nat) (s t : Bool) (m n : Nat) (i j : Int) (hn : n ≠ 0) : (Ieee.Datum.number s m i).quotient d (.number t n j) = some (.number (s ^^ t) (2 * ((m <<< (d + n.log2 - m.log2)) / n) + ((m <<< (d + n.log2 - m.log2)) % n != 0).toNat) (i - j - ((d + n.log2 - m.log2 : Nat) : Int) - 1)) := if_neg hn
/-- Quotients. -/
theorem Mg_quo {x y i J K : Nat} {t : Bool} {n : Nat} {g : Int} (hx : Mg x i) (hy : Ieee.double.read y = .number t n g) (b2 : -1074 ≤ g) (b4 : g ≤ 1000) (b3 : 2 ^ J ≤ n * 2 ^ (g + 1074).toNat) (h0 : n < 2 ^ 53) (h1 : i + 1075 ≤ K + J) (h2 : 52 ≤ K) (h3 : K ≤ 2097) : Mg (fbin .quo .f64 x y) K := by
  obtain ⟨s, m, e, a1, a2, a3⟩ := hx
  have hn : n ≠ 0 := by
    rintro rfl
    rw [Nat.zero_mul] at b3
    have := Nat.pow_pos (n := J) (show 0 < 2 by decide)
    omega
  rw [fbin_quo6, a1, hy, double_frac, quot_num _ _ _ _ _ _ _ hn, Option.map_some, Option.getD_some, write_num6]
  have hln : n.log2 < 53 := (Nat.log2_lt hn).2 h0
  obtain ⟨w, hw⟩ : ∃ w, 52 + 2 + n.log2 - m.log2 = w := ⟨_, rfl⟩
  rw [hw]
  refine Mg_near (by omega) h2 h3 ?_
  rcases Nat.eq_zero_or_pos m with rfl | hm
  · rw [Nat.zero_shiftLeft, Nat.zero_div, Nat.zero_mod]
    simp
  obtain ⟨D, hD⟩ : ∃ D, m <<< w = D := ⟨_, rfl⟩
  have hD2 : D = m * 2 ^ w := by rw [← hD, Nat.shiftLeft_eq]
  have hDn : n ≤ D := by
    have s1 : n < 2 ^ (n.log2 + 1) := log2_gt
    have s2 : (2 : Nat) ^ (n.log2 + 1) ≤ 2 ^ (m.log2 + w) := Nat.pow_le_pow_right (by decide) (by omega)
    have s3 : (2 : Nat) ^ (m.log2 + w) ≤ m * 2 ^ w := by rw [Nat.pow_add]; exact Nat.mul_le_mul_right _ (log2_le hm)
    rw [hD2]; omega
  rw [hD]
  obtain ⟨N, hN⟩ : ∃ N, 2 * (D / n) + (D % n != 0).toNat = N := ⟨_, rfl⟩
  have hNn : N * n ≤ 4 * D := by
    have q1 : 1 ≤ D / n := (Nat.le_div_iff_mul_le (by omega)).2 (by rw [Nat.one_mul]; exact hDn)
    have q2 : N ≤ 4 * (D / n) := by
      have := Bool.toNat_le (D % n != 0)
      omega
    have q3 : D / n * n ≤ D := Nat.div_mul_le_self _ _
    calc N * n ≤ 4 * (D / n) * n := Nat.mul_le_mul_right _ q2
      _ = 4 * (D / n * n) := Nat.mul_assoc _ _ _
      _ ≤ 4 * D := Nat.mul_le_mul_left _ q3
  rw [hN]
  obtain ⟨u, hu⟩ : ∃ u, (e - g - (w : Int) - 1 + 4000).toNat = u := ⟨_, rfl⟩
  obtain ⟨v, hv⟩ : ∃ v, (g + 1074).toNat = v := ⟨_, rfl⟩
  obtain ⟨E, hE⟩ : ∃ E : Nat, E = 4001 := ⟨_, rfl⟩
  rw [hu]
  rw [hv] at b3
  have key : N * 2 ^ u * 2 ^ J ≤ 2 ^ (K + 2926) * 2 ^ J := by
    have k1 : N * 2 ^ u * 2 ^ J ≤ N * 2 ^ u * (n * 2 ^ v) := Nat.mul_le_mul_left _ b3
    have k2 : N * 2 ^ u * (n * 2 ^ v) = N * n * (2 ^ u * 2 ^ v) := by
      generalize 2 ^ u = A
      generalize 2 ^ v = B
      simp only [Nat.mul_assoc, Nat.mul_left_comm, Nat.mul_comm]
    have k3 : N * n * (2 ^ u * 2 ^ v) ≤ 4 * D * (2 ^ u * 2 ^ v) := Nat.mul_le_mul_right _ hNn
    have k4 : 4 * D * (2 ^ u * 2 ^ v) = m * 2 ^ (e + 1074).toNat * 2 ^ E := by
      rw [hD2, show (4 : Nat) = 2 ^ 2 from rfl, Nat.mul_left_comm (2 ^ 2) m, Nat.mul_assoc m, Nat.mul_assoc m, ← Nat.pow_add, ← Nat.pow_add, ← Nat.pow_add, ← Nat.pow_add]
      congr 2
      omega
    have k5 : m * 2 ^ (e + 1074).toNat * 2 ^ E ≤ 2 ^ i * 2 ^ E := Nat.mul_le_mul_right _ a3
    have k6 : 2 ^ i * 2 ^ E ≤ 2 ^ (K + 2926) * 2 ^ J := by
      rw [← Nat.pow_add, ← Nat.pow_add]
      exact Nat.pow_le_pow_right (by decide) (by omega)
    rw [k2] at k1
    rw [k4] at k3
    exact Nat.le_trans k1 (Nat.le_trans k3 (Nat.le_trans k5 k6))
  exact Nat.le_of_mul_le_mul_right key (Nat.pow_pos (by decide))
end Go.Abs

