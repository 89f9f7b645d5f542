/- Plain law: roots in float64. No condition beyond those written. -/
import Derived.Test.YtdlicidmkakooaaExactTravelFieldL127
namespace Go.Abs
set_option linter.unusedSimpArgs false
set_option linter.unusedVariables false
set_option maxHeartbeats 8000000
set_option maxRecDepth 4000

/-- What is written of a number that has no sign. -/
theorem pos_near {M K : Nat} {p : Int} (hp : -4000 ≤ p) (hK1 : 52 ≤ K) (hK2 : K ≤ 2097) (h : M * 2 ^ (p + 4000).toNat ≤ 2 ^ (K + 2926)) : ∃ n g, Ieee.double.read (Ieee.double.nearest false M p) = .number false n g ∧ -1074 ≤ g := by
  obtain ⟨r, h1, h2⟩ := near_bound (s := false) hp hK1 h
  have h3 : (K - 51) * 4503599627370496 ≤ 2046 * 4503599627370496 := Nat.mul_le_mul_right _ (by omega)
  have h4 : (2046 : Nat) * 4503599627370496 = 9214364837600034816 := by decide
  rw [h4] at h3
  rw [h2, Nat.min_eq_left (by omega), read_word64 (by omega)]
  split
  · exact ⟨_, _, rfl, by omega⟩
  · exact ⟨_, _, rfl, by omega⟩
theorem rootFrom_sq (n : Nat) : ∀ todo root, root * root ≤ n → Ieee.Datum.rootFrom n todo root * Ieee.Datum.rootFrom n todo root ≤ n
  | 0, root, h => h
  | todo + 1, root, h => by
    unfold Ieee.Datum.rootFrom
    dsimp only
    split
    · rename_i h1; exact rootFrom_sq n todo _ h1
    · exact rootFrom_sq n todo _ h
theorem sqrt_read {x : Nat} {s : Bool} {m : Nat} {e : Int} (hx : Ieee.double.read x = .number s m e) : Ieee.double.sqrt x = ((Ieee.Datum.number s m e).root (Ieee.double.fractionBits + 2)).map Ieee.double.write := by
  unfold Ieee.Format.sqrt; rw [hx]
theorem root_zero (d : Nat) (s : Bool) (i : Int) : (Ieee.Datum.number s 0 i).root d = some (.number s 0 i) := rfl
theorem root_num {d m : Nat} {i : Int} (hm : m ≠ 0) : (Ieee.Datum.number false m i).root d = some (.number false (2 * Ieee.Datum.rootFrom (m <<< (2 * d - m.log2 + ((i - ((2 * d - m.log2 : Nat) : Int)) % 2).toNat)) ((m <<< (2 * d - m.log2 + ((i - ((2 * d - m.log2 : Nat) : Int)) % 2).toNat)).log2 / 2 + 1) 0 + (Ieee.Datum.rootFrom (m <<< (2 * d - m.log2 + ((i - ((2 * d - m.log2 : Nat) : Int)) % 2).toNat)) ((m <<< (2 * d - m.log2 + ((i - ((2 * d - m.log2 : Nat) : Int)) % 2).toNat)).log2 / 2 + 1) 0 * Ieee.Datum.rootFrom (m <<< (2 * d - m.log2 + ((i - ((2 * d - m.log2 : Nat) : Int)) % 2).toNat)) ((m <<< (2 * d - m.log2 + ((i - ((2 * d - m.log2 : Nat) : Int)) % 2).toNat)).log2 / 2 + 1) 0 != m <<< (2 * d - m.log2 + ((i - ((2 * d - m.log2 : Nat) : Int)) % 2).toNat)).toNat) ((i - ((2 * d - m.log2 + ((i - ((2 * d - m.log2 : Nat) : Int)) % 2).toNat : Nat) : Int)) / 2 - 1)) := by
  show (if m = 0 then _ else _) = _
  rw [if_neg hm]
  rfl
/-- The root of a number not below 0. -/
theorem sqrt_ok {x m K : Nat} {e : Int} (hx : Ieee.double.read x = .number false m e) (he : -1074 ≤ e) (he2 : e ≤ 1000) (hm : m < 2 ^ 53) (hK : m * 2 ^ (e + 1074).toNat ≤ 2 ^ K) (hK1 : 1074 ≤ K) (hK2 : K ≤ 2000) : ∃ r, Ieee.double.sqrt x = some r ∧ Mg r (K + 1) ∧ ∃ n g, Ieee.double.read r = .number false n g ∧ -1074 ≤ g := by
  rw [sqrt_read hx, double_frac]
  rcases Nat.eq_zero_or_pos m with rfl | hm0
  · rw [root_zero, Option.map_some, write_num6]
    refine ⟨_, rfl, ?_, ?_⟩
    · exact Mg_near (by omega) (by omega) (by omega) (by rw [Nat.zero_mul]; exact Nat.zero_le _)
    · exact pos_near (K := 52) (by omega) (by omega) (by omega) (by rw [Nat.zero_mul]; exact Nat.zero_le _)
  rw [root_num (by omega), Option.map_some, write_num6]
  have hlm : m.log2 < 53 := (Nat.log2_lt (by omega)).2 hm
  obtain ⟨a, ha⟩ : ∃ a, 2 * (52 + 2) - m.log2 = a := ⟨_, rfl⟩
  rw [ha]
  obtain ⟨b, hb⟩ : ∃ b, ((e - (a : Int)) % 2).toNat = b := ⟨_, rfl⟩
  rw [hb]
  have hb2 : b ≤ 1 := by omega
  obtain ⟨h, hh⟩ : ∃ h : Int, (e - ((a + b : Nat) : Int)) / 2 = h := ⟨_, rfl⟩
  have heven : e - ((a + b : Nat) : Int) = 2 * h := by omega
  rw [hh]
  obtain ⟨n, hn⟩ : ∃ n, m <<< (a + b) = n := ⟨_, rfl⟩
  rw [hn]
  have hn2 : n = m * 2 ^ (a + b) := by rw [← hn, Nat.shiftLeft_eq]
  have hsq := rootFrom_sq n (n.log2 / 2 + 1) 0 (by omega)
  generalize Ieee.Datum.rootFrom n (n.log2 / 2 + 1) 0 = w at hsq ⊢
  have hbit : 2 * w + (w * w != n).toNat ≤ 2 * w + 1 := Nat.add_le_add_left (Bool.toNat_le _) _
  generalize 2 * w + (w * w != n).toNat = N at hbit ⊢
  -- the bound of the root
  have hee : e + 1074 ≤ K := by
    have h1 : (2 : Nat) ^ (e + 1074).toNat ≤ 2 ^ K := Nat.le_trans (Nat.le_mul_of_pos_left _ hm0) hK
    have := pow_le_inj h1
    omega
  obtain ⟨u, hu⟩ : ∃ u, (h + 4000).toNat = u := ⟨_, rfl⟩
  have hw : w * 2 ^ u ≤ 2 ^ (K + 2926) := by
    have h1 : w * 2 ^ u * (w * 2 ^ u) ≤ 2 ^ (K + 2926) * 2 ^ (K + 2926) := by
      have e1 : w * 2 ^ u * (w * 2 ^ u) = w * w * 2 ^ (u + u) := by
        rw [Nat.pow_add]
        generalize 2 ^ u = A
        simp only [Nat.mul_assoc, Nat.mul_left_comm, Nat.mul_comm]
      have e2 : w * w * 2 ^ (u + u) ≤ n * 2 ^ (u + u) := Nat.mul_le_mul_right _ hsq
      obtain ⟨D, hD⟩ : ∃ D : Nat, D = 6926 := ⟨_, rfl⟩
      have e3 : n * 2 ^ (u + u) = m * 2 ^ (e + 1074).toNat * 2 ^ D := by
        rw [hn2, Nat.mul_assoc, Nat.mul_assoc, ← Nat.pow_add, ← Nat.pow_add]; congr 2; omega
      rw [e1]
      refine Nat.le_trans e2 ?_
      rw [e3]
      refine Nat.le_trans (Nat.mul_le_mul_right _ hK) ?_
      rw [← Nat.pow_add, ← Nat.pow_add]
      exact Nat.pow_le_pow_right (by decide) (by omega)
    exact Nat.mul_self_le_mul_self_iff.1 h1
  have hNb : N * 2 ^ (h - 1 + 4000).toNat ≤ 2 ^ (K + 1 + 2926) := by
    obtain ⟨v, hv⟩ : ∃ v, (h - 1 + 4000).toNat = v := ⟨_, rfl⟩
    have huv : u = v + 1 := by omega
    rw [hv]
    refine Nat.le_trans (Nat.mul_le_mul_right _ hbit) ?_
    have e1 : (2 * w + 1) * 2 ^ v = w * 2 ^ u + 2 ^ v := by
      rw [huv, Nat.pow_succ, Nat.add_mul, Nat.one_mul]
      congr 1
      generalize 2 ^ v = A
      simp only [Nat.mul_assoc, Nat.mul_left_comm, Nat.mul_comm]
    have e2 : (2 : Nat) ^ v ≤ 2 ^ (K + 2926) := Nat.pow_le_pow_right (by decide) (by omega)
    have e3 : (2 : Nat) ^ (K + 1 + 2926) = 2 ^ (K + 2926) + 2 ^ (K + 2926) := by
      rw [show K + 1 + 2926 = (K + 2926) + 1 from by omega, Nat.pow_succ, Nat.mul_two]
    rw [e1, e3]
    exact Nat.add_le_add hw e2
  exact ⟨_, rfl, Mg_near (by omega) (by omega) (by omega) hNb, pos_near (K := K + 1) (by omega) (by omega) (by omega) hNb⟩
/-- The same with half the power. -/
theorem sqrt_half {x m H : Nat} {e : Int} (hx : Ieee.double.read x = .number false m e) (he : -1074 ≤ e) (he2 : e ≤ 1000) (hm : m < 2 ^ 53) (hK : m * 2 ^ (e + 1074).toNat ≤ 2 ^ (1074 + 2 * H)) (hK2 : H ≤ 500) : ∃ r, Ieee.double.sqrt x = some r ∧ Mg r (1074 + H + 1) ∧ ∃ n g, Ieee.double.read r = .number false n g ∧ -1074 ≤ g := by
  rw [sqrt_read hx, double_frac]
  rcases Nat.eq_zero_or_pos m with rfl | hm0
  · rw [root_zero, Option.map_some, write_num6]
    refine ⟨_, rfl, ?_, ?_⟩
    · exact Mg_near (by omega) (by omega) (by omega) (by rw [Nat.zero_mul]; exact Nat.zero_le _)
    · exact pos_near (K := 52) (by omega) (by omega) (by omega) (by rw [Nat.zero_mul]; exact Nat.zero_le _)
  rw [root_num (by omega), Option.map_some, write_num6]
  have hlm : m.log2 < 53 := (Nat.log2_lt (by omega)).2 hm
  obtain ⟨a, ha⟩ : ∃ a, 2 * (52 + 2) - m.log2 = a := ⟨_, rfl⟩
  rw [ha]
  obtain ⟨b, hb⟩ : ∃ b, ((e - (a : Int)) % 2).toNat = b := ⟨_, rfl⟩
  rw [hb]
  have hb2 : b ≤ 1 := by omega
  obtain ⟨h, hh⟩ : ∃ h : Int, (e - ((a + b : Nat) : Int)) / 2 = h := ⟨_, rfl⟩
  have heven : e - ((a + b : Nat) : Int) = 2 * h := by omega
  rw [hh]
  obtain ⟨n, hn⟩ : ∃ n, m <<< (a + b) = n := ⟨_, rfl⟩
  rw [hn]
  have hn2 : n = m * 2 ^ (a + b) := by rw [← hn, Nat.shiftLeft_eq]
  have hsq := rootFrom_sq n (n.log2 / 2 + 1) 0 (by omega)
  generalize Ieee.Datum.rootFrom n (n.log2 / 2 + 1) 0 = w at hsq ⊢
  have hbit : 2 * w + (w * w != n).toNat ≤ 2 * w + 1 := Nat.add_le_add_left (Bool.toNat_le _) _
  generalize 2 * w + (w * w != n).toNat = N at hbit ⊢
  -- the bound of the root
  have hee : e ≤ 2 * (H : Int) := by
    have h1 : (2 : Nat) ^ (e + 1074).toNat ≤ 2 ^ (1074 + 2 * H) := Nat.le_trans (Nat.le_mul_of_pos_left _ hm0) hK
    have := pow_le_inj h1
    omega
  obtain ⟨u, hu⟩ : ∃ u, (h + 4000).toNat = u := ⟨_, rfl⟩
  have hw : w * 2 ^ u ≤ 2 ^ (1074 + H + 2926) := by
    have h1 : w * 2 ^ u * (w * 2 ^ u) ≤ 2 ^ (1074 + H + 2926) * 2 ^ (1074 + H + 2926) := by
      have e1 : w * 2 ^ u * (w * 2 ^ u) = w * w * 2 ^ (u + u) := by
        rw [Nat.pow_add]
        generalize 2 ^ u = A
        simp only [Nat.mul_assoc, Nat.mul_left_comm, Nat.mul_comm]
      have e2 : w * w * 2 ^ (u + u) ≤ n * 2 ^ (u + u) := Nat.mul_le_mul_right _ hsq
      obtain ⟨D, hD⟩ : ∃ D : Nat, D = 6926 := ⟨_, rfl⟩
      have e3 : n * 2 ^ (u + u) = m * 2 ^ (e + 1074).toNat * 2 ^ D := by
        rw [hn2, Nat.mul_assoc, Nat.mul_assoc, ← Nat.pow_add, ← Nat.pow_add]; congr 2; omega
      rw [e1]
      refine Nat.le_trans e2 ?_
      rw [e3]
      refine Nat.le_trans (Nat.mul_le_mul_right _ hK) ?_
      rw [← Nat.pow_add, ← Nat.pow_add]
      exact Nat.pow_le_pow_right (by decide) (by omega)
    exact Nat.mul_self_le_mul_self_iff.1 h1
  have hNb : N * 2 ^ (h - 1 + 4000).toNat ≤ 2 ^ (1074 + H + 1 + 2926) := by
    obtain ⟨v, hv⟩ : ∃ v, (h - 1 + 4000).toNat = v := ⟨_, rfl⟩
    have huv : u = v + 1 := by omega
    rw [hv]
    refine Nat.le_trans (Nat.mul_le_mul_right _ hbit) ?_
    have e1 : (2 * w + 1) * 2 ^ v = w * 2 ^ u + 2 ^ v := by
      rw [huv, Nat.pow_succ, Nat.add_mul, Nat.one_mul]
      congr 1
      generalize 2 ^ v = A
      simp only [Nat.mul_assoc, Nat.mul_left_comm, Nat.mul_comm]
    have e2 : (2 : Nat) ^ v ≤ 2 ^ (1074 + H + 2926) := Nat.pow_le_pow_right (by decide) (by omega)
    have e3 : (2 : Nat) ^ (1074 + H + 1 + 2926) = 2 ^ (1074 + H + 2926) + 2 ^ (1074 + H + 2926) := by
      rw [show 1074 + H + 1 + 2926 = (1074 + H + 2926) + 1 from by omega, Nat.pow_succ, Nat.mul_two]
    rw [e1, e3]
    exact Nat.add_le_add hw e2
  exact ⟨_, rfl, Mg_near (by omega) (by omega) (by omega) hNb, pos_near (K := 1074 + H + 1) (by omega) (by omega) (by omega) hNb⟩
end Go.Abs

