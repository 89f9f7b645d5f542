/- Facts on floats: two 32-bit numbers that are equal and of one sign have the same bits; the sign of a 32-bit number that is made wide; equality goes both ways. No condition beyond those written. -/
import Derived.Test.YtdlicidmkakooaaExactTravelFieldWvMF
namespace Go.Abs

def sgn32 (x : Nat) : Bool := decide (2147483648 ≤ x)
def sgn64 (x : Nat) : Bool := decide (9223372036854775808 ≤ x)

theorem single_consts : Ieee.single.binade = 8388608 ∧ Ieee.single.infRung = 2139095040 ∧ Ieee.single.leastPlace = -149 ∧ Ieee.single.signWeight = 2147483648 := by decide +kernel
theorem sgn_div {x : Nat} (hx : x < 4294967296) : (x / 2147483648 % 2 == 1) = sgn32 x := by
  unfold sgn32
  rw [Bool.eq_iff_iff, beq_iff_eq, decide_eq_true_eq]; omega

theorem single_number {x : Nat} {s : Bool} {m : Nat} {e : Int} (hx : x < 4294967296) (h : Ieee.single.read x = .number s m e) :
    s = sgn32 x ∧ (x % 2147483648 < 8388608 ∧ m = x % 2147483648 ∧ e = -149 ∨ 8388608 ≤ x % 2147483648 ∧ x % 2147483648 < 2139095040 ∧ m = 8388608 + x % 2147483648 % 8388608 ∧ e = -149 + ((x % 2147483648 / 8388608 - 1 : Nat) : Int)) := by
  obtain ⟨c1, c2, c3, c4⟩ := single_consts
  unfold Ieee.Format.read at h
  dsimp only at h
  rw [c1, c2, c3, c4, sgn_div hx] at h
  split at h
  · rename_i hr
    injection h with h1 h2 h3
    exact ⟨h1.symm, .inl ⟨hr, h2.symm, h3.symm⟩⟩
  · rename_i hr
    split at h
    · rename_i hr2
      injection h with h1 h2 h3
      exact ⟨h1.symm, .inr ⟨by omega, hr2, h2.symm, h3.symm⟩⟩
    · split at h <;> cases h
theorem single_infinity {x : Nat} {s : Bool} (hx : x < 4294967296) (h : Ieee.single.read x = .infinity s) : s = sgn32 x ∧ x % 2147483648 = 2139095040 := by
  obtain ⟨c1, c2, c3, c4⟩ := single_consts
  unfold Ieee.Format.read at h
  dsimp only at h
  rw [c1, c2, c3, c4, sgn_div hx] at h
  split at h
  · cases h
  · split at h
    · cases h
    · split at h
      · rename_i hr
        injection h with h1
        exact ⟨h1.symm, hr⟩
      · cases h

theorem shl_eq {m n : Nat} {i j : Int} (hij : i ≤ j) (h : m <<< (i - min i j).toNat = n <<< (j - min i j).toNat) : m = n * 2 ^ (j - i).toNat := by
  rw [Int.min_eq_left hij, Int.sub_self] at h
  simpa [Nat.shiftLeft_eq] using h
theorem signed_eq {s : Bool} {m n p q : Nat} (h : Ieee.signed s m p = Ieee.signed s n q) : m <<< p = n <<< q := by
  unfold Ieee.signed at h
  cases s
  · rw [if_neg (by simp), if_neg (by simp)] at h
    exact Int.ofNat_inj.1 h
  · rw [if_pos rfl, if_pos rfl] at h
    exact Int.ofNat_inj.1 (Int.neg_inj.1 h)
theorem cmp_eq {a b : Int} : compare a b = .eq ↔ a = b := by
  constructor
  · exact fun h => Std.LawfulEqCmp.eq_of_compare h
  · rintro rfl; exact Std.ReflCmp.compare_self
theorem rung_lt {a b m n : Nat} {i j : Int} (hij : i ≤ j) (hm : m = n * 2 ^ (j - i).toNat)
    (ha : a < 8388608 ∧ m = a ∧ i = -149 ∨ 8388608 ≤ a ∧ a < 2139095040 ∧ m = 8388608 + a % 8388608 ∧ i = -149 + ((a / 8388608 - 1 : Nat) : Int))
    (hb : b < 8388608 ∧ n = b ∧ j = -149 ∨ 8388608 ≤ b ∧ b < 2139095040 ∧ n = 8388608 + b % 8388608 ∧ j = -149 + ((b / 8388608 - 1 : Nat) : Int)) : a = b := by
  rcases Int.lt_or_eq_of_le hij with hlt | heq
  · exfalso
    have h1 : 1 ≤ (j - i).toNat := by omega
    have h2 : 2 ≤ 2 ^ (j - i).toNat := by
      calc 2 = 2 ^ 1 := rfl
        _ ≤ 2 ^ (j - i).toNat := Nat.pow_le_pow_right (by omega) h1
    have h3 : n * 2 ≤ n * 2 ^ (j - i).toNat := Nat.mul_le_mul_left _ h2
    have h4 : m < 16777216 := by omega
    have h5 : 8388608 ≤ n := by omega
    omega
  · have h0 : (j - i).toNat = 0 := by omega
    rw [h0] at hm
    have hm' : m = n := by simpa using hm
    omega
theorem same_bits {a b : Nat} (ha : a < 4294967296) (hb : b < 4294967296) (hna : isNaN .f32 a = false) (hnb : isNaN .f32 b = false) : (feq .f32 a b && (sgn32 a == sgn32 b)) = decide (a = b) := by
  by_cases hab : a = b
  · subst hab
    rw [feq_self, hna, decide_eq_true rfl]; simp
  · rw [decide_eq_false hab, Bool.and_eq_false_iff]
    by_cases hs : sgn32 a = sgn32 b
    · left
      cases hf : feq .f32 a b with
      | false => rfl
      | true =>
        exfalso
        apply hab
        have hmod : a % 2147483648 = b % 2147483648 → a = b := by
          intro h
          unfold sgn32 at hs
          have hs' := decide_eq_decide.1 hs
          omega
        apply hmod
        unfold feq at hf
        rw [beq_iff_eq] at hf
        have hf' : (Ieee.single.read a).order (Ieee.single.read b) = some .eq := hf
        unfold isNaN at hna hnb
        have ra : FloatKind.f32.decode a = Ieee.single.read a := rfl
        have rb : FloatKind.f32.decode b = Ieee.single.read b := rfl
        rw [ra] at hna
        rw [rb] at hnb
        cases h1 : Ieee.single.read a with
        | nan s t => rw [h1] at hna; simp [Ieee.Datum.isNaN] at hna
        | infinity s =>
          obtain ⟨_, e1⟩ := single_infinity ha h1
          cases h2 : Ieee.single.read b with
          | nan s t => rw [h2] at hnb; simp [Ieee.Datum.isNaN] at hnb
          | infinity t =>
            obtain ⟨_, e2⟩ := single_infinity hb h2
            omega
          | number t n j =>
            rw [h1, h2] at hf'
            simp only [Ieee.Datum.order, Option.some.injEq] at hf'
            cases s <;> simp at hf'
        | number s m i =>
          obtain ⟨s1, e1⟩ := single_number ha h1
          cases h2 : Ieee.single.read b with
          | nan s t => rw [h2] at hnb; simp [Ieee.Datum.isNaN] at hnb
          | infinity t =>
            rw [h1, h2] at hf'
            simp only [Ieee.Datum.order, Option.some.injEq] at hf'
            cases t <;> simp at hf'
          | number t n j =>
            obtain ⟨s2, e2⟩ := single_number hb h2
            rw [h1, h2] at hf'
            simp only [Ieee.Datum.order, Option.some.injEq] at hf'
            have hst : s = t := by rw [s1, s2, hs]
            subst hst
            have he : Ieee.signed s m (i - min i j).toNat = Ieee.signed s n (j - min i j).toNat := cmp_eq.1 hf'
            have hsh := signed_eq he
            rcases Int.le_total i j with hij | hij
            · exact rung_lt hij (shl_eq hij hsh) e1 e2
            · rw [Int.min_comm] at hsh
              exact (rung_lt hij (shl_eq hij hsh.symm) e2 e1).symm
    · right
      simpa using hs

/-- The sign of a number that is made wide. -/
theorem wide_word {x : Nat} (hx : x < 4294967296) (hn : isNaN .f32 x = false) : ∃ r, r ≤ Ieee.double.infRung ∧ wide x = Ieee.double.word (sgn32 x) r := by
  have hw := f2f_wide x
  unfold f2f at hw
  rw [if_neg (by rw [hn]; simp)] at hw
  unfold floatToFloatBits at hw
  rw [if_neg (by decide)] at hw
  have hr : FloatKind.f32.decode x = Ieee.single.read x := rfl
  unfold isNaN at hn
  rw [hr] at hn hw
  cases h : Ieee.single.read x with
  | nan s t => rw [h] at hn; simp [Ieee.Datum.isNaN] at hn
  | infinity s =>
    obtain ⟨e1, _⟩ := single_infinity hx h
    rw [h] at hw
    dsimp only at hw
    rw [Option.some.injEq] at hw
    have h6 : FloatKind.f64.encode (.infinity s) = Ieee.double.word s Ieee.double.infRung := rfl
    exact ⟨Ieee.double.infRung, Nat.le_refl _, by rw [← hw, h6, e1]⟩
  | number s m e =>
    obtain ⟨h1, h2, h3⟩ := read_single x h
    obtain ⟨r, h4, h5⟩ := nearest_double s m e h1 h2 h3
    obtain ⟨e1, _⟩ := single_number hx h
    have h6 : FloatKind.f64.encode (.number s m e) = Ieee.double.word s r := h4
    have h7 : (FloatKind.f64.decode (FloatKind.f64.encode (.number s m e))).isInfinity = false := by
      rw [h6]; exact read_fin s r h5
    rw [h] at hw
    dsimp only at hw
    rw [h7] at hw
    simp only [Bool.false_eq_true, if_false, Option.some.injEq] at hw
    exact ⟨r, Nat.le_of_lt h5, by rw [← hw, h6, e1]⟩
theorem double_consts : Ieee.double.infRung = 9218868437227405312 ∧ Ieee.double.signWeight = 9223372036854775808 ∧ Ieee.double.binade = 4503599627370496 := by decide +kernel
theorem wide_sign {x : Nat} (hx : x < 4294967296) (hn : isNaN .f32 x = false) : wide x < 18446744073709551616 ∧ sgn64 (wide x) = sgn32 x ∧ isNaN .f64 (wide x) = false := by
  obtain ⟨r, h1, h2⟩ := wide_word hx hn
  obtain ⟨c1, c2, c3⟩ := double_consts
  rw [c1] at h1
  have hv : wide x = (if sgn32 x = true then 9223372036854775808 + r else r) := by rw [h2, Ieee.Format.word, c2]
  have hm : wide x % 9223372036854775808 = r := by rw [hv]; split <;> omega
  refine ⟨by rw [hv]; split <;> omega, ?_, ?_⟩
  · unfold sgn64
    rw [hv]
    cases hs : sgn32 x
    · simp; omega
    · simp
  · unfold isNaN
    have hr : FloatKind.f64.decode (wide x) = Ieee.double.read (wide x) := rfl
    rw [hr]
    unfold Ieee.Format.read
    dsimp only
    rw [c1, c2, c3, hm]
    split
    · rfl
    · split
      · rfl
      · split
        · rfl
        · omega
end Go.Abs

