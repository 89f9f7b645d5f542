/- Films of fields that run: sizes. Conditions: as at each theorem. -/
import Derived.Test.YtoijdkmkfhefjaaExactFilmOfL80
namespace Go.Abs
theorem foFs_fit {w h : Int} {wr : Bool} {sp lo : List Nat} {f : Fld} {n k : Int} (hok : foOk w h wr sp lo f n k = true) : fitsF (foFs w h wr sp lo f n k) ∧ sumF (foFs w h wr sp lo f n k) ≤ 4194304 := by
  simp only [foOk, Bool.and_eq_true] at hok
  obtain ⟨h1, _, h2⟩ := hok
  obtain ⟨hs, t1, t2, t3⟩ := isField_len h1
  obtain ⟨a1, a2, a3, a4, q1, q2⟩ := isSheet_sides hs
  obtain ⟨W, rfl⟩ := Int.eq_ofNat_of_zero_le (show 0 ≤ w by omega)
  obtain ⟨H, rfl⟩ := Int.eq_ofNat_of_zero_le (show 0 ≤ h by omega)
  have hWH : ((W * H : Nat) : Int) = (W : Int) * (H : Int) := Int.natCast_mul _ _
  have hN2 : W * H ≤ 256 := Nat.mul_le_mul (show W ≤ 16 by omega) (show H ≤ 16 by omega)
  have hk := inR_true h2
  have fl : ∀ i, lenF (W * H) (foG W H wr sp lo f n i) := foG_len n ⟨by omega, by omega, by omega⟩
  unfold foFs
  refine ⟨⟨by rw [framesF_len]; omega, framesF_all fun i _ => ?_⟩, ?_⟩
  · obtain ⟨u1, u2, u3⟩ := fl i
    exact ⟨by omega, by omega, by omega⟩
  · rw [sumF_frames fl]
    have : k.toNat * (3 * (W * H)) ≤ 16 * (3 * 256) := Nat.mul_le_mul (by omega) (by omega)
    omega
end Go.Abs

