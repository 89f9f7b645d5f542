/- Plain law: how great float64 numbers become. No condition beyond those written. -/
import Derived.Test.YtdlicidmkakooaaExactTravelFieldWvX2
namespace Go.Abs
set_option linter.unusedSimpArgs false
set_option linter.unusedVariables false
set_option maxHeartbeats 8000000
set_option maxRecDepth 4000

theorem double_least : Ieee.double.leastPlace = -1074 := by decide +kernel
theorem double_frac : Ieee.double.fractionBits = 52 := rfl
/-- What is cut is not greater than the whole and one. -/
theorem cut_le {s : Bool} {n d : Nat} : Ieee.Toward.even.cut s n d ≤ n / 2 ^ min d (n.log2 + 2) + 1 := by
  unfold Ieee.Toward.cut
  rw [Nat.shiftLeft_eq, Nat.one_mul]
  dsimp only
  exact Nat.add_le_add_left (Bool.toNat_le _) _
theorem cut_exact {s : Bool} {n d : Nat} (h : n % 2 ^ min d (n.log2 + 2) = 0) : Ieee.Toward.even.cut s n d = n / 2 ^ min d (n.log2 + 2) := by
  unfold Ieee.Toward.cut
  rw [Nat.shiftLeft_eq, Nat.one_mul]
  dsimp only
  rw [h]
  have hp : 0 < 2 ^ min d (n.log2 + 2) := Nat.pow_pos (by decide)
  have h1 : decide (2 ^ min d (n.log2 + 2) < 2 * 0) = false := decide_eq_false (by omega)
  have h2 : (2 ^ min d (n.log2 + 2) == 2 * 0) = false := by rw [beq_eq_false_iff_ne]; omega
  rw [h1, h2]
  rfl
theorem log2_le {n : Nat} (h : 0 < n) : 2 ^ n.log2 ≤ n := Nat.log2_self_le (by omega)
theorem log2_gt {n : Nat} : n < 2 ^ (n.log2 + 1) := Nat.lt_log2_self
theorem pow_le_inj {a b : Nat} (h : 2 ^ a ≤ 2 ^ b) : a ≤ b := (Nat.pow_le_pow_iff_right (by decide)).1 h
/-- A number not greater than a power of two is written as one. -/
theorem near_bound {s : Bool} {M K : Nat} {p : Int} (hp : -4000 ≤ p) (hK1 : 52 ≤ K) (h : M * 2 ^ (p + 4000).toNat ≤ 2 ^ (K + 2926)) : ∃ r, r ≤ (K - 51) * 4503599627370496 ∧ Ieee.double.nearest s M p = Ieee.double.word s (min r 9218868437227405312) := by
  obtain ⟨c1, c2, c3⟩ := double_consts
  unfold Ieee.Format.nearest
  rw [double_least, double_frac, c3, c1]
  rcases Nat.eq_zero_or_pos M with rfl | hM
  · rw [if_pos rfl]; exact ⟨0, Nat.zero_le _, rfl⟩
  rw [if_neg (by omega)]
  dsimp only
  refine ⟨_, ?_, rfl⟩
  obtain ⟨L, hL⟩ : ∃ L, M.log2 = L := ⟨_, rfl⟩
  have l1 : 2 ^ L ≤ M := by rw [← hL]; exact log2_le hM
  have l2 : M < 2 ^ (L + 1) := by rw [← hL]; exact log2_gt
  obtain ⟨P, hP⟩ := Int.eq_ofNat_of_zero_le (show 0 ≤ p + 4000 by omega)
  have hPn : (p + 4000).toNat = P := by omega
  rw [hPn] at h
  have e1 : L + P ≤ K + 2926 := by
    refine pow_le_inj ?_
    rw [Nat.pow_add]
    exact Nat.le_trans (Nat.mul_le_mul_right _ l1) h
  rw [hL]
  have hpow : ∀ a b : Nat, a ≤ b → (2 : Nat) ^ a ≤ 2 ^ b := fun a b h => Nat.pow_le_pow_right (by decide) h
  by_cases hq : (-1074 : Int) ≤ p + (L : Int) - ((52 : Nat) : Int)
  · -- a normal number
    rw [Int.max_eq_left hq]
    have hkept : Ieee.Toward.even.cut s (M <<< (p - (p + (L : Int) - ((52 : Nat) : Int))).toNat) (p + (L : Int) - ((52 : Nat) : Int) - p).toNat ≤ 9007199254740992 ∧ (M = 2 ^ L → Ieee.Toward.even.cut s (M <<< (p - (p + (L : Int) - ((52 : Nat) : Int))).toNat) (p + (L : Int) - ((52 : Nat) : Int) - p).toNat ≤ 4503599627370496) := by
      rw [show (p - (p + (L : Int) - ((52 : Nat) : Int))).toNat = 52 - L from by omega, show (p + (L : Int) - ((52 : Nat) : Int) - p).toNat = L - 52 from by omega]
      rcases Nat.le_total L 52 with hl | hl
      · rw [show L - 52 = 0 from by omega]
        have hc : Ieee.Toward.even.cut s (M <<< (52 - L)) 0 = M <<< (52 - L) := by
          rw [cut_exact (by rw [Nat.zero_min, Nat.pow_zero, Nat.mod_one]), Nat.zero_min, Nat.pow_zero, Nat.div_one]
        rw [hc, Nat.shiftLeft_eq]
        have e53 : (2 : Nat) ^ (L + 1) * 2 ^ (52 - L) = 9007199254740992 := by rw [← Nat.pow_add, show L + 1 + (52 - L) = 53 from by omega]
        have e52 : (2 : Nat) ^ L * 2 ^ (52 - L) = 4503599627370496 := by rw [← Nat.pow_add, show L + (52 - L) = 52 from by omega]
        refine ⟨?_, fun hm => ?_⟩
        · rw [← e53]; exact Nat.mul_le_mul_right _ (Nat.le_of_lt l2)
        · rw [hm, e52]; exact Nat.le_refl _
      · rw [show 52 - L = 0 from by omega, Nat.shiftLeft_zero]
        have hmin : min (L - 52) (M.log2 + 2) = L - 52 := by rw [hL]; omega
        have e53 : (2 : Nat) ^ (L + 1) = 9007199254740992 * 2 ^ (L - 52) := by rw [show (9007199254740992 : Nat) = 2 ^ 53 from by decide, ← Nat.pow_add, show 53 + (L - 52) = L + 1 from by omega]
        have e52 : (2 : Nat) ^ L = 4503599627370496 * 2 ^ (L - 52) := by rw [show (4503599627370496 : Nat) = 2 ^ 52 from by decide, ← Nat.pow_add, show 52 + (L - 52) = L from by omega]
        have hpos : 0 < (2 : Nat) ^ (L - 52) := Nat.pow_pos (by decide)
        refine ⟨?_, fun hm => ?_⟩
        · have h1 := cut_le (s := s) (n := M) (d := L - 52)
          rw [hmin] at h1
          have h2 : M / 2 ^ (L - 52) < 9007199254740992 := by rw [Nat.div_lt_iff_lt_mul hpos, ← e53]; exact l2
          omega
        · rw [cut_exact (by rw [hmin, hm, e52]; exact Nat.mul_mod_left _ _), hmin, hm, e52, Nat.mul_div_cancel _ hpos]
          exact Nat.le_refl _
    obtain ⟨k1, k2⟩ := hkept
    generalize Ieee.Toward.even.cut s (M <<< (p - (p + (L : Int) - ((52 : Nat) : Int))).toNat) (p + (L : Int) - ((52 : Nat) : Int) - p).toNat = kept at k1 k2 ⊢
    obtain ⟨T, hT⟩ : ∃ T, (p + (L : Int) - ((52 : Nat) : Int) - -1074).toNat = T := ⟨_, rfl⟩
    rw [hT]
    have hTK : T = L + P - 2978 := by omega
    rcases Nat.lt_or_ge (L + P) (K + 2926) with hlt | hge
    · obtain ⟨J, rfl⟩ : ∃ J, K = J + 53 := ⟨K - 53, by omega⟩
      have hT2 : T ≤ J := by omega
      have h3 : T * 4503599627370496 ≤ J * 4503599627370496 := Nat.mul_le_mul_right _ hT2
      rw [show J + 53 - 51 = J + 2 from by omega, Nat.add_mul]
      exact Nat.add_le_add h3 (Nat.le_trans k1 (by decide))
    · have heq : L + P = K + 2926 := by omega
      have hM2 : M = 2 ^ L := by
        have h3 : M * 2 ^ P ≤ 2 ^ L * 2 ^ P := by rw [← Nat.pow_add, heq]; exact h
        have h4 := Nat.le_of_mul_le_mul_right h3 (Nat.pow_pos (by decide))
        omega
      have k3 := k2 hM2
      obtain ⟨J, rfl⟩ : ∃ J, K = J + 52 := ⟨K - 52, by omega⟩
      have hT2 : T = J := by omega
      rw [hT2, show J + 52 - 51 = J + 1 from by omega, Nat.add_mul]
      exact Nat.add_le_add_left (Nat.le_trans k3 (by decide)) _
  · rw [Int.max_eq_right (by omega)]
    have h0 : (-1074 - -1074 : Int).toNat = 0 := by decide
    rw [h0, Nat.zero_mul, Nat.zero_add]
    have hkept : Ieee.Toward.even.cut s (M <<< (p - -1074).toNat) (-1074 - p).toNat ≤ 4503599627370496 := by
      rcases Int.le_total (-1074) p with hge | hle
      · rw [show (-1074 - p).toNat = 0 from by omega, cut_exact (by rw [Nat.zero_min, Nat.pow_zero, Nat.mod_one]), Nat.zero_min, Nat.pow_zero, Nat.div_one, Nat.shiftLeft_eq]
        have h5 : M * 2 ^ (p - -1074).toNat ≤ 2 ^ (L + 1) * 2 ^ (p - -1074).toNat := Nat.mul_le_mul_right _ (Nat.le_of_lt l2)
        rw [← Nat.pow_add] at h5
        exact Nat.le_trans h5 (Nat.le_trans (hpow _ 52 (by omega)) (by decide))
      · rw [show (p - -1074).toNat = 0 from by omega, Nat.shiftLeft_zero]
        have h1 := cut_le (s := s) (n := M) (d := (-1074 - p).toNat)
        have hpos : 0 < (2 : Nat) ^ min (-1074 - p).toNat (M.log2 + 2) := Nat.pow_pos (by decide)
        have h2 : M / 2 ^ min (-1074 - p).toNat (M.log2 + 2) < 4503599627370496 := by
          rw [Nat.div_lt_iff_lt_mul hpos, show (4503599627370496 : Nat) = 2 ^ 52 from by decide, ← Nat.pow_add]
          exact Nat.lt_of_lt_of_le l2 (hpow _ _ (by rw [hL]; omega))
        omega
    exact Nat.le_trans hkept (by rw [show (4503599627370496 : Nat) = 1 * 4503599627370496 from by decide]; exact Nat.mul_le_mul_right _ (by omega))
/-- Numbers of which the magnitude is bounded: by 2 to the power K - 1074. -/
def Mg (x K : Nat) : Prop := ∃ s m e, Ieee.double.read x = .number s m e ∧ -1074 ≤ e ∧ m * 2 ^ (e + 1074).toNat ≤ 2 ^ K
theorem read_word64 {s : Bool} {r : Nat} (hr : r < 9218868437227405312) : Ieee.double.read (Ieee.double.word s r) = if r < 4503599627370496 then .number s r (-1074) else .number s (4503599627370496 + r % 4503599627370496) (-1074 + ((r / 4503599627370496 - 1 : Nat) : Int)) := by
  obtain ⟨c1, c2, c3⟩ := double_consts
  unfold Ieee.Format.read
  dsimp only
  have e1 : Ieee.double.word s r % 9223372036854775808 = r ∧ (Ieee.double.word s r / 9223372036854775808 % 2 == 1) = s := by
    unfold Ieee.Format.word
    rw [c2]
    cases s
    · exact ⟨by simp only [Bool.false_eq_true, if_false]; omega, by simp only [Bool.false_eq_true, if_false]; rw [Nat.div_eq_of_lt (by omega)]; rfl⟩
    · refine ⟨by simp only [if_true]; omega, ?_⟩
      simp only [if_true]
      rw [show (9223372036854775808 + r) / 9223372036854775808 = 1 from by omega]; rfl
  rw [c1, c2, c3, double_least, e1.1, e1.2]
  split
  · rfl
  · first | rfl | rw [if_pos hr]
/-- The magnitude of what is written. -/
theorem Mg_near {s : Bool} {M K : Nat} {p : Int} (hp : -4000 ≤ p) (hK1 : 52 ≤ K) (hK2 : K ≤ 2097) (h : M * 2 ^ (p + 4000).toNat ≤ 2 ^ (K + 2926)) : Mg (Ieee.double.nearest s M p) K := by
  obtain ⟨r, h1, h2⟩ := near_bound (s := s) hp hK1 h
  have h3 : (K - 51) * 4503599627370496 ≤ 2046 * 4503599627370496 := Nat.mul_le_mul_right _ (by omega)
  have h4 : (2046 : Nat) * 4503599627370496 = 9214364837600034816 := by decide
  rw [h4] at h3
  rw [h2, Nat.min_eq_left (by omega)]
  unfold Mg
  rw [read_word64 (by omega)]
  split
  · rename_i hlt
    refine ⟨s, r, -1074, rfl, by omega, ?_⟩
    rw [show (-1074 + 1074 : Int).toNat = 0 from by decide, Nat.pow_zero, Nat.mul_one]
    exact Nat.le_trans (Nat.le_of_lt hlt) (Nat.le_trans (Nat.le_of_eq (by decide : (4503599627370496 : Nat) = 2 ^ 52)) (Nat.pow_le_pow_right (by decide) hK1))
  · rename_i hge
    obtain ⟨q, hq⟩ : ∃ q, r / 4503599627370496 = q := ⟨_, rfl⟩
    have hq1 : 1 ≤ q := by rw [← hq]; exact (Nat.le_div_iff_mul_le (by decide)).2 (by rw [Nat.one_mul]; exact Nat.le_of_not_lt hge)
    have hqK : q ≤ K - 51 := by rw [← hq]; exact Nat.div_le_of_le_mul (by rw [Nat.mul_comm]; exact h1)
    obtain ⟨t, ht⟩ : ∃ t, r % 4503599627370496 = t := ⟨_, rfl⟩
    have htl : t < 4503599627370496 := by rw [← ht]; exact Nat.mod_lt _ (by decide)
    have hrq : 4503599627370496 * q + t = r := by rw [← hq, ← ht]; exact Nat.div_add_mod _ _
    rw [hq, ht]
    refine ⟨s, 4503599627370496 + t, -1074 + ((q - 1 : Nat) : Int), rfl, by omega, ?_⟩
    rw [show (-1074 + ((q - 1 : Nat) : Int) + 1074).toNat = q - 1 from by omega]
    rcases Nat.lt_or_ge q (K - 51) with hlt | hge2
    · have h5 : (4503599627370496 + t) * 2 ^ (q - 1) ≤ 2 ^ 53 * 2 ^ (q - 1) := Nat.mul_le_mul_right _ (by rw [show (2 : Nat) ^ 53 = 9007199254740992 from by decide]; omega)
      rw [← Nat.pow_add] at h5
      exact Nat.le_trans h5 (Nat.pow_le_pow_right (by decide) (by omega))
    · have hqe : q = K - 51 := by omega
      have ht0 : t = 0 := by
        rw [← hqe, Nat.mul_comm, ← hrq] at h1
        omega
      rw [ht0, Nat.add_zero, show (4503599627370496 : Nat) = 2 ^ 52 from by decide, ← Nat.pow_add]
      exact Nat.pow_le_pow_right (by decide) (by omega)
theorem Mg_mono {x i j : Nat} (h : Mg x i) (hij : i ≤ j) : Mg x j := by
  obtain ⟨s, m, e, h1, h2, h3⟩ := h
  exact ⟨s, m, e, h1, h2, Nat.le_trans h3 (Nat.pow_le_pow_right (by decide) hij)⟩
theorem product_num6 (s t : Bool) (m n : Nat) (i j : Int) : (Ieee.Datum.number s m i).product (.number t n j) = some (.number (s ^^ t) (m * n) (i + j)) := rfl
theorem write_num6 (f : Ieee.Format) (s : Bool) (m : Nat) (i : Int) : f.write (.number s m i) = f.nearest s m i := rfl
theorem sum_num6 (s t : Bool) (m n : Nat) (i j : Int) : (Ieee.Datum.number s m i).sum (.number t n j) = some (.number (if Ieee.signed s m (i - min i j).toNat + Ieee.signed t n (j - min i j).toNat = 0 then s && t else decide (Ieee.signed s m (i - min i j).toNat + Ieee.signed t n (j - min i j).toNat < 0)) (Ieee.signed s m (i - min i j).toNat + Ieee.signed t n (j - min i j).toNat).natAbs (min i j)) := rfl
theorem fbin_mul6 (x y : Nat) : fbin .mul .f64 x y = (((Ieee.double.read x).product (Ieee.double.read y)).map Ieee.double.write).getD (nanOf .f64) := rfl
theorem fbin_add6 (x y : Nat) : fbin .add .f64 x y = (((Ieee.double.read x).sum (Ieee.double.read y)).map Ieee.double.write).getD (nanOf .f64) := rfl
theorem fbin_sub6 (x y : Nat) : fbin .sub .f64 x y = (((Ieee.double.read x).sum (Ieee.double.read y).opposite).map Ieee.double.write).getD (nanOf .f64) := rfl
/-- Products. -/
theorem Mg_mul {x y i j K : Nat} (hx : Mg x i) (hy : Mg y j) (h1 : i + j ≤ K + 1074) (h2 : 52 ≤ K) (h3 : K ≤ 2097) : Mg (fbin .mul .f64 x y) K := by
  obtain ⟨s, m, e, a1, a2, a3⟩ := hx
  obtain ⟨t, n, g, b1, b2, b3⟩ := hy
  rw [fbin_mul6, a1, b1, product_num6, Option.map_some, Option.getD_some, write_num6]
  refine Mg_near (by omega) h2 h3 ?_
  obtain ⟨D, hD⟩ : ∃ D : Nat, D = 1852 := ⟨_, rfl⟩
  have e1 : (e + g + 4000).toNat = (e + 1074).toNat + (g + 1074).toNat + D := by omega
  rw [e1, Nat.pow_add, Nat.pow_add]
  have h4 := Nat.mul_le_mul a3 b3
  rw [← Nat.pow_add] at h4
  have h5 : m * n * (2 ^ (e + 1074).toNat * 2 ^ (g + 1074).toNat * 2 ^ D) = m * 2 ^ (e + 1074).toNat * (n * 2 ^ (g + 1074).toNat) * 2 ^ D := by
    generalize 2 ^ (e + 1074).toNat = A
    generalize 2 ^ (g + 1074).toNat = B
    generalize 2 ^ D = E
    simp only [Nat.mul_assoc, Nat.mul_left_comm, Nat.mul_comm]
  rw [h5]
  refine Nat.le_trans (Nat.mul_le_mul_right _ h4) ?_
  rw [← Nat.pow_add]
  exact Nat.pow_le_pow_right (by decide) (by omega)
theorem abs_signed (s : Bool) (m a : Nat) : (Ieee.signed s m a).natAbs = m * 2 ^ a := by
  unfold Ieee.signed
  rw [Nat.shiftLeft_eq]
  cases s
  · simp only [Bool.false_eq_true, if_false]; exact Int.natAbs_natCast _
  · simp only [if_true]; rw [Int.natAbs_neg]; exact Int.natAbs_natCast _
theorem Mg_sum {s t : Bool} {m n i K : Nat} {e g : Int} (a2 : -1074 ≤ e) (a3 : m * 2 ^ (e + 1074).toNat ≤ 2 ^ i) (b2 : -1074 ≤ g) (b3 : n * 2 ^ (g + 1074).toNat ≤ 2 ^ i) (h1 : i + 1 ≤ K) (h2 : 52 ≤ K) (h3 : K ≤ 2097) : Mg ((((Ieee.Datum.number s m e).sum (.number t n g)).map Ieee.double.write).getD (nanOf .f64)) K := by
  rw [sum_num6, Option.map_some, Option.getD_some, write_num6]
  refine Mg_near (by omega) h2 h3 ?_
  have h4 : (Ieee.signed s m (e - min e g).toNat + Ieee.signed t n (g - min e g).toNat).natAbs ≤ m * 2 ^ (e - min e g).toNat + n * 2 ^ (g - min e g).toNat := by
    refine Nat.le_trans (Int.natAbs_add_le _ _) ?_
    rw [abs_signed, abs_signed]; exact Nat.le_refl _
  refine Nat.le_trans (Nat.mul_le_mul_right _ h4) ?_
  rw [Nat.add_mul]
  obtain ⟨D, hD⟩ : ∃ D : Nat, D = 2926 := ⟨_, rfl⟩
  have e1 : m * 2 ^ (e - min e g).toNat * 2 ^ (min e g + 4000).toNat = m * 2 ^ (e + 1074).toNat * 2 ^ D := by
    rw [Nat.mul_assoc, Nat.mul_assoc, ← Nat.pow_add, ← Nat.pow_add]; congr 2; omega
  have e2 : n * 2 ^ (g - min e g).toNat * 2 ^ (min e g + 4000).toNat = n * 2 ^ (g + 1074).toNat * 2 ^ D := by
    rw [Nat.mul_assoc, Nat.mul_assoc, ← Nat.pow_add, ← Nat.pow_add]; congr 2; omega
  rw [e1, e2, ← Nat.add_mul]
  refine Nat.le_trans (Nat.mul_le_mul_right _ (Nat.add_le_add a3 b3)) ?_
  rw [← Nat.two_mul, ← Nat.pow_succ', ← Nat.pow_add]
  exact Nat.pow_le_pow_right (by decide) (by omega)
theorem Mg_add {x y i K : Nat} (hx : Mg x i) (hy : Mg y i) (h1 : i + 1 ≤ K) (h2 : 52 ≤ K) (h3 : K ≤ 2097) : Mg (fbin .add .f64 x y) K := by
  obtain ⟨s, m, e, a1, a2, a3⟩ := hx
  obtain ⟨t, n, g, b1, b2, b3⟩ := hy
  rw [fbin_add6, a1, b1]
  exact Mg_sum a2 a3 b2 b3 h1 h2 h3
theorem Mg_sub {x y i K : Nat} (hx : Mg x i) (hy : Mg y i) (h1 : i + 1 ≤ K) (h2 : 52 ≤ K) (h3 : K ≤ 2097) : Mg (fbin .sub .f64 x y) K := by
  obtain ⟨s, m, e, a1, a2, a3⟩ := hx
  obtain ⟨t, n, g, b1, b2, b3⟩ := hy
  rw [fbin_sub6, a1, b1, show (Ieee.Datum.number t n g).opposite = .number (!t) n g from rfl]
  exact Mg_sum a2 a3 b2 b3 h1 h2 h3
end Go.Abs

