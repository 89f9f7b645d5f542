/- Plain law: the half of a float32 number is its product with 1/2; sheets of one speed without losses. No condition beyond those written. -/
import Derived.Test.YtdlicidmkakooaaExactTravelFieldL136
import Derived.Test.YtdlicidmkakooaaExactTravelFieldL36
namespace Go.Abs
set_option linter.unusedSimpArgs false
set_option linter.unusedVariables false
set_option maxHeartbeats 8000000
set_option maxRecDepth 4000

theorem log2_scale {m : Nat} (hm : 0 < m) (k : Nat) : (m * 2 ^ k).log2 = m.log2 + k := by
  have h1 := log2_le hm
  have h2 := log2_gt (n := m)
  have hp : 0 < (2 : Nat) ^ k := Nat.pow_pos (by decide)
  have hne : m * 2 ^ k ≠ 0 := Nat.ne_of_gt (Nat.mul_pos hm hp)
  have a1 : m.log2 + k ≤ (m * 2 ^ k).log2 := (Nat.le_log2 hne).2 (by rw [Nat.pow_add]; exact Nat.mul_le_mul_right _ h1)
  have a2 : (m * 2 ^ k).log2 < m.log2 + k + 1 := (Nat.log2_lt hne).2 (by
    rw [show m.log2 + k + 1 = m.log2 + 1 + k from by omega, Nat.pow_add 2 (m.log2 + 1)]
    exact Nat.mul_lt_mul_of_pos_right h2 hp)
  omega
theorem cut_scale {s : Bool} {m : Nat} (hm : 0 < m) (k b : Nat) : Ieee.Toward.even.cut s (m * 2 ^ k) (b + k) = Ieee.Toward.even.cut s m b := by
  unfold Ieee.Toward.cut
  rw [log2_scale hm, Nat.shiftLeft_eq, Nat.one_mul, Nat.shiftLeft_eq, Nat.one_mul, show min (b + k) (m.log2 + k + 2) = min b (m.log2 + 2) + k from by omega]
  obtain ⟨g, hg⟩ : ∃ g, (2 : Nat) ^ min b (m.log2 + 2) = g := ⟨_, rfl⟩
  have hk : 0 < (2 : Nat) ^ k := Nat.pow_pos (by decide)
  rw [Nat.pow_add, hg]
  dsimp only
  rw [Nat.mul_div_mul_right _ _ hk, Nat.mul_mod_mul_right]
  have e1 : decide (g * 2 ^ k < 2 * (m % g * 2 ^ k)) = decide (g < 2 * (m % g)) := by
    rw [← Nat.mul_assoc]
    exact decide_eq_decide.2 (Nat.mul_lt_mul_right hk)
  have e2 : (g * 2 ^ k == 2 * (m % g * 2 ^ k)) = (g == 2 * (m % g)) := by
    rw [← Nat.mul_assoc]
    rw [Bool.eq_iff_iff, beq_iff_eq, beq_iff_eq]
    exact ⟨fun h => Nat.eq_of_mul_eq_mul_right hk h, fun h => congrArg (· * 2 ^ k) h⟩
  rw [e1, e2]
theorem cut_none (s : Bool) (n : Nat) : Ieee.Toward.even.cut s n 0 = n := by
  rw [cut_exact (by rw [Nat.zero_min, Nat.pow_zero, Nat.mod_one]), Nat.zero_min, Nat.pow_zero, Nat.div_one]
/-- What is written depends on the value alone. -/
theorem near_scale (f : Ieee.Format) (s : Bool) (m k : Nat) (p : Int) : f.nearest s (m * 2 ^ k) (p - (k : Int)) = f.nearest s m p := by
  unfold Ieee.Format.nearest
  rcases Nat.eq_zero_or_pos m with rfl | hm
  · rw [Nat.zero_mul]; simp
  have hp : 0 < (2 : Nat) ^ k := Nat.pow_pos (by decide)
  have hne : m * 2 ^ k ≠ 0 := Nat.ne_of_gt (Nat.mul_pos hm hp)
  rw [if_neg hne, if_neg (by omega), log2_scale hm]
  have e0 : p - (k : Int) + ((m.log2 + k : Nat) : Int) - (f.fractionBits : Int) = p + (m.log2 : Int) - (f.fractionBits : Int) := by omega
  rw [e0]
  dsimp only
  generalize max (p + (m.log2 : Int) - (f.fractionBits : Int)) f.leastPlace = last
  suffices h : Ieee.Toward.even.cut s ((m * 2 ^ k) <<< (p - (k : Int) - last).toNat) (last - (p - (k : Int))).toNat = Ieee.Toward.even.cut s (m <<< (p - last).toNat) (last - p).toNat by rw [h]
  rw [Nat.shiftLeft_eq, Nat.shiftLeft_eq]
  rcases Int.le_total last p with hl | hl
  · obtain ⟨a, ha⟩ := Int.eq_ofNat_of_zero_le (show 0 ≤ p - last by omega)
    rw [show (last - p).toNat = 0 from by omega, show (p - last).toNat = a from by omega, cut_none]
    rcases Nat.le_total k a with hk | hk
    · rw [show (last - (p - (k : Int))).toNat = 0 from by omega, cut_none, show (p - (k : Int) - last).toNat = a - k from by omega, Nat.mul_assoc, ← Nat.pow_add, show k + (a - k) = a from by omega]
    · rw [show (p - (k : Int) - last).toNat = 0 from by omega, show (last - (p - (k : Int))).toNat = 0 + (k - a) from by omega, Nat.pow_zero, Nat.mul_one, show k = a + (k - a) from by omega, Nat.pow_add, ← Nat.mul_assoc, show a + (k - a) - a = k - a from by omega, cut_scale (Nat.mul_pos hm (Nat.pow_pos (by decide))), cut_none]
  · rw [show (p - last).toNat = 0 from by omega, show (p - (k : Int) - last).toNat = 0 from by omega, Nat.pow_zero, Nat.mul_one, Nat.mul_one, show (last - (p - (k : Int))).toNat = (last - p).toNat + k from by omega, cut_scale hm]
theorem two_read : Ieee.single.read 1073741824 = .number false 8388608 (-22) := by decide +kernel
theorem half_read : Ieee.single.read 1056964608 = .number false 8388608 (-24) := by decide +kernel
theorem fbin_quo2 (x y : Nat) : fbin .quo .f32 x y = (((Ieee.single.read x).quotient 25 (Ieee.single.read y)).map Ieee.single.write).getD (nanOf .f32) := rfl
theorem fbin_mul2 (x y : Nat) : fbin .mul .f32 x y = (((Ieee.single.read x).product (Ieee.single.read y)).map Ieee.single.write).getD (nanOf .f32) := rfl
/-- Half of a number. -/
theorem half_eq (x : Nat) : fbin .quo .f32 x 1073741824 = fbin .mul .f32 x 1056964608 := by
  rw [fbin_quo2, fbin_mul2, two_read, half_read]
  cases hx : Ieee.single.read x with
  | nan s t => rfl
  | infinity s => rfl
  | number s m e =>
    rw [quot_num _ _ _ _ _ _ _ (by decide), product_num6, Option.map_some, Option.map_some, Option.getD_some, Option.getD_some, write_num6, write_num6]
    rw [show (8388608 : Nat).log2 = 23 from by decide +kernel]
    have hm : m < 2 ^ 24 := (read_single x hx).1
    have hl : m.log2 < 24 := by
      rcases Nat.eq_zero_or_pos m with rfl | hm0
      · decide
      · exact (Nat.log2_lt (by omega)).2 hm
    obtain ⟨w, hw⟩ : ∃ w, 25 + 23 - m.log2 = w + 23 := ⟨25 - m.log2, by omega⟩
    rw [hw, Nat.shiftLeft_eq, Nat.pow_add, show (2 : Nat) ^ 23 = 8388608 from by decide, ← Nat.mul_assoc, Nat.mul_div_cancel _ (by decide), Nat.mul_mod_left]
    rw [show ((0 : Nat) != 0).toNat = 0 from rfl, Nat.add_zero, show 2 * (m * 2 ^ w) = m * 2 ^ (w + 1) from by rw [Nat.pow_succ]; simp only [Nat.mul_left_comm, Nat.mul_comm], show m * 8388608 = m * 2 ^ 23 from by rw [show (2 : Nat) ^ 23 = 8388608 from by decide]]
    have e1 : e - -22 - ((w + 23 : Nat) : Int) - 1 = (e - 1) - ((w + 1 : Nat) : Int) := by omega
    have e2 : e + -24 = (e - 1) - ((23 : Nat) : Int) := by omega
    rw [e1, e2, near_scale, near_scale]
end Go.Abs

