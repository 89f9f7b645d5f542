/- Plain law: the ratio of which an angle is made is at most 2. No condition beyond those written. -/
import Derived.Test.YtdlicidmkakooaaExactTravelFieldL131
namespace Go.Abs
set_option linter.unusedSimpArgs false
set_option linter.unusedVariables false
set_option maxHeartbeats 8000000
set_option maxRecDepth 4000

theorem wide_shape {x : Nat} {s : Bool} {m : Nat} {e : Int} (hr : Ieee.single.read x = .number s m e) : ∃ m' e', Ieee.double.read (wide x) = .number s m' e' ∧ -1074 ≤ e' ∧ e' ≤ 1000 ∧ m' < 2 ^ 53 ∧ (m = 0 ↔ m' = 0) := by
  obtain ⟨m', e', hy', he1, hz⟩ := wide_pos hr
  have hM := wide_Mg hr
  obtain ⟨r, h1, h2⟩ := wide_num hr
  have hy := read_word64 (s := s) h1
  rw [← h2, hy'] at hy
  have hm53 : (2 : Nat) ^ 53 = 9007199254740992 := by decide
  obtain ⟨s1, m1, e1, b1, b2, b3⟩ := hM
  rw [hy'] at b1
  injection b1 with i1 i2 i3
  subst i1 i2 i3
  refine ⟨m', e', hy', he1, ?_, ?_, hz⟩
  · by_cases hc : r < 4503599627370496
    · rw [if_pos hc] at hy
      injection hy with j1 j2 j3
      omega
    · rw [if_neg hc] at hy
      injection hy with j1 j2 j3
      have h8 : (2 : Nat) ^ 52 * 2 ^ (e' + 1074).toNat ≤ 2 ^ 1202 := by
        refine Nat.le_trans (Nat.mul_le_mul_right _ ?_) b3
        rw [j2, show (2 : Nat) ^ 52 = 4503599627370496 from by decide]; omega
      rw [← Nat.pow_add] at h8
      have := pow_le_inj h8
      omega
  · by_cases hc : r < 4503599627370496
    · rw [if_pos hc] at hy
      injection hy with j1 j2 j3
      rw [hm53]; omega
    · rw [if_neg hc] at hy
      injection hy with j1 j2 j3
      have hmod : r % 4503599627370496 < 4503599627370496 := Nat.mod_lt _ (by decide)
      rw [hm53]; omega
theorem fgt_val {a b m n : Nat} {e g : Int} (ha : Ieee.double.read a = .number false m e) (hb : Ieee.double.read b = .number false n g) (he : -1074 ≤ e) (hg : -1074 ≤ g) : fgt .f64 a b = decide (n * 2 ^ (g + 1074).toNat < m * 2 ^ (e + 1074).toNat) := by
  have h : fgt .f64 a b = ((Ieee.double.read a).order (Ieee.double.read b) == some .gt) := rfl
  rw [h, ha, hb, order_val he hg, signed_if, signed_if]
  simp only [Bool.false_eq_true, if_false]
  generalize m * 2 ^ (e + 1074).toNat = A
  generalize n * 2 ^ (g + 1074).toNat = B
  rcases Int.lt_trichotomy (A : Int) (B : Int) with h | h | h
  · rw [Int.compare_eq_lt.2 h, decide_eq_false (by omega)]; rfl
  · rw [h, cmp_eq.2 rfl, decide_eq_false (by omega)]; rfl
  · rw [Int.compare_eq_gt.2 h, decide_eq_true (by omega)]; rfl
/-- The ratio of which an angle is made. -/
def ratioV (a b : Nat) : Nat := if fgt .f64 a b = true then fbin .quo .f64 b a else fbin .quo .f64 a b
theorem ratio_ok {a b m n : Nat} {e g : Int} (ha : Ieee.double.read a = .number false m e) (hb : Ieee.double.read b = .number false n g) (he : -1074 ≤ e) (hg : -1074 ≤ g) (he2 : e ≤ 1000) (hg2 : g ≤ 1000) (hm : m < 2 ^ 53) (hn : n < 2 ^ 53) (hz : ¬ (m = 0 ∧ n = 0)) : Mg (ratioV a b) 1075 := by
  unfold ratioV
  rw [fgt_val ha hb he hg]
  have hpe : 0 < (2 : Nat) ^ (e + 1074).toNat := Nat.pow_pos (by decide)
  by_cases h : n * 2 ^ (g + 1074).toNat < m * 2 ^ (e + 1074).toNat
  · rw [decide_eq_true h, if_pos rfl]
    refine Mg_ratio hb ha hg he he2 hm ?_ (Nat.le_of_lt h)
    rintro rfl
    rw [Nat.zero_mul] at h
    omega
  · rw [decide_eq_false h, if_neg (by decide)]
    refine Mg_ratio ha hb he hg hg2 hn ?_ (Nat.le_of_not_lt h)
    rintro rfl
    rw [Nat.zero_mul] at h
    have : 0 < m := by omega
    exact h (Nat.mul_pos this hpe)
end Go.Abs

