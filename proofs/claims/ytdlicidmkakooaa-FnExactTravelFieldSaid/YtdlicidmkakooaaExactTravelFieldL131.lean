/- Plain law: a float32 that is made wide stands to 0 as it did. No condition beyond those written. -/
import Derived.Test.YtdlicidmkakooaaExactTravelFieldL130
namespace Go.Abs
set_option linter.unusedSimpArgs false
set_option linter.unusedVariables false
set_option maxHeartbeats 8000000
set_option maxRecDepth 4000

theorem cut_sign (s : Bool) (n d : Nat) : Ieee.Toward.even.cut s n d = Ieee.Toward.even.cut false n d := by cases s <;> rfl
theorem near_sign (M : Nat) (p : Int) : ∃ R, ∀ s, Ieee.double.nearest s M p = Ieee.double.word s R := by
  unfold Ieee.Format.nearest
  rcases Nat.eq_zero_or_pos M with rfl | hM
  · exact ⟨0, fun s => by rw [if_pos rfl]⟩
  · obtain ⟨l, hl⟩ : ∃ l, max (p + (M.log2 : Int) - (Ieee.double.fractionBits : Int)) Ieee.double.leastPlace = l := ⟨_, rfl⟩
    refine ⟨min ((l - Ieee.double.leastPlace).toNat * Ieee.double.binade + Ieee.Toward.even.cut false (M <<< (p - l).toNat) (l - p).toNat) Ieee.double.infRung, fun s => ?_⟩
    rw [if_neg (by omega)]
    dsimp only
    rw [hl, cut_sign s]
/-- A number that is not 0 is made wide as one. -/
theorem wide_pos {x : Nat} {s : Bool} {m : Nat} {e : Int} (hr : Ieee.single.read x = .number s m e) : ∃ m' e', Ieee.double.read (wide x) = .number s m' e' ∧ -1074 ≤ e' ∧ (m = 0 ↔ m' = 0) := by
  have hw := f2f_wide x
  have hd : FloatKind.f32.decode x = .number s m e := hr
  unfold f2f at hw
  rw [if_neg (by unfold isNaN; rw [hd]; simp [Ieee.Datum.isNaN])] at hw
  unfold floatToFloatBits at hw
  rw [if_neg (by decide), hd] at hw
  obtain ⟨h1, h2, h3⟩ := read_single x hr
  obtain ⟨r, h4, h5⟩ := nearest_double s m e h1 h2 h3
  have h6 : FloatKind.f64.encode (.number s m e) = Ieee.double.nearest s m e := rfl
  have h7 : (FloatKind.f64.decode (FloatKind.f64.encode (.number s m e))).isInfinity = false := by
    rw [h6, h4]; exact read_fin s r h5
  dsimp only at hw
  rw [h7] at hw
  simp only [Bool.false_eq_true, if_false, Option.some.injEq] at hw
  rw [← hw, h6]
  rcases Nat.eq_zero_or_pos m with rfl | hm
  · rw [near_zero64, read_word64 (by decide), if_pos (by decide)]
    exact ⟨0, -1074, rfl, by omega, by simp⟩
  · obtain ⟨R, hR⟩ := near_sign m e
    obtain ⟨D, hD⟩ : ∃ D : Nat, D = 925 := ⟨_, rfl⟩
    obtain ⟨q, q1, q2⟩ := near_lower (M := m) (J := D) (p := e) (by omega) (by omega) (by
      have e1 : (2 : Nat) ^ (D + 2926) ≤ 2 ^ (e + 4000).toNat := Nat.pow_le_pow_right (by decide) (by omega)
      exact Nat.le_trans e1 (Nat.le_mul_of_pos_left _ hm))
    have hRq : R = min q 9218868437227405312 := by
      have h8 := hR false
      rw [q2, word_false64, word_false64] at h8
      exact h8.symm
    have hRr : R = r := by
      have h8 := hR s
      rw [h4] at h8
      have hinj : ∀ a b : Nat, Ieee.double.word s a = Ieee.double.word s b → a = b := fun a b h => by
        unfold Ieee.Format.word at h
        cases s
        · simpa using h
        · simpa using h
      exact (hinj _ _ h8).symm
    have hRlt : R < 9218868437227405312 := by rw [hRr]; rw [double_consts.1] at h5; exact h5
    have hge : ¬ R < 4503599627370496 := by
      have h9 : 1 * 4503599627370496 ≤ (D - 51) * 4503599627370496 := Nat.mul_le_mul_right _ (by omega)
      rw [Nat.one_mul] at h9
      omega
    rw [hR s, read_word64 hRlt, if_neg hge]
    exact ⟨_, _, rfl, by omega, ⟨fun h => by omega, fun h => by omega⟩⟩
theorem zero_read64 : Ieee.double.read 0 = .number false 0 (-1074) := by decide +kernel
theorem zero_read32 : Ieee.single.read 0 = .number false 0 (-149) := by decide +kernel
theorem signed_zero (k : Nat) : Ieee.signed false 0 k = 0 := by unfold Ieee.signed; simp
theorem ord_zero (s : Bool) (m : Nat) (e p : Int) : (Ieee.Datum.number s m e).order (.number false 0 p) = some (if m = 0 then .eq else if s then .lt else .gt) := by
  show some (compare (Ieee.signed s m (e - min e p).toNat) (Ieee.signed false 0 (p - min e p).toNat)) = _
  rw [signed_zero, signed_if]
  congr 1
  have hp : 0 < (2 : Nat) ^ (e - min e p).toNat := Nat.pow_pos (by decide)
  rcases Nat.eq_zero_or_pos m with rfl | hm
  · rw [if_pos rfl, Nat.zero_mul]; cases s <;> rfl
  · have h2 : (if m = 0 then Ordering.eq else if s = true then .lt else .gt) = if s = true then .lt else .gt := if_neg (by omega)
    rw [h2]
    have h1 : 0 < m * 2 ^ (e - min e p).toNat := Nat.mul_pos hm hp
    generalize m * 2 ^ (e - min e p).toNat = A at h1
    cases s
    · simp only [Bool.false_eq_true, if_false]; exact Int.compare_eq_gt.2 (by omega)
    · simp only [if_true]; exact Int.compare_eq_lt.2 (by omega)
/-- A wide number stands to 0 as the number does. -/
theorem wide_zero {x : Nat} (h : finB x = true) : feq .f64 (wide x) 0 = feq .f32 x 0 ∧ flt .f64 (wide x) 0 = flt .f32 x 0 := by
  obtain ⟨s, m, e, hr⟩ := fin_number h
  obtain ⟨m', e', hy, _, hz⟩ := wide_pos hr
  have a1 : feq .f64 (wide x) 0 = ((Ieee.double.read (wide x)).order (Ieee.double.read 0) == some .eq) := rfl
  have a2 : feq .f32 x 0 = ((Ieee.single.read x).order (Ieee.single.read 0) == some .eq) := rfl
  have a3 : flt .f64 (wide x) 0 = ((Ieee.double.read (wide x)).order (Ieee.double.read 0) == some .lt) := rfl
  have a4 : flt .f32 x 0 = ((Ieee.single.read x).order (Ieee.single.read 0) == some .lt) := rfl
  rw [a1, a2, a3, a4, hy, hr, zero_read64, zero_read32, ord_zero, ord_zero]
  by_cases hm : m = 0
  · rw [if_pos hm, if_pos (hz.1 hm)]; exact ⟨rfl, rfl⟩
  · rw [if_neg hm, if_neg (fun h => hm (hz.2 h))]; exact ⟨rfl, rfl⟩
end Go.Abs

