/- Plain law: how long what is recovered is. No condition beyond those written. -/
import Derived.Test.YtaacdckenhnocaaExactRecoverFilmL108
import Derived.Test.YtaacdckenhnocaaExactRecoverFilmL72
namespace Go.Abs
set_option linter.unusedSimpArgs false
set_option linter.unusedVariables false

theorem sh_lens (s : List UInt8) : (shSp s).length ≤ 1048576 ∧ (shLo s).length ≤ 1048576 := by
  have hN2 := shN_le s
  have n1 : (shSp s).length = shN s := numsAt_length _ _ _
  have n2 : (shLo s).length = shN s := numsAt_length _ _ _
  exact ⟨by omega, by omega⟩
def lenN (N : Nat) (f : Fld) : Prop := f.e.length ≤ N ∧ f.x.length ≤ N ∧ f.y.length ≤ N
theorem recF_lens (W H : Nat) (wr : Bool) (sp lo : List Nat) (N : Nat) (s : List UInt8) : ∀ (k : Nat) (last : List Nat) (p : Nat) (fs : List Fld) (m : Nat), last.length ≤ 3 * N → fs.length ≤ m → (∀ f ∈ fs, lenN N f) →
    (recF W H wr sp lo N s k last p fs).1.length ≤ m + k ∧ ∀ f ∈ (recF W H wr sp lo N s k last p fs).1, lenN N f
  | 0, last, p, fs, m, hl, hm, hf => ⟨hm, hf⟩
  | k + 1, last, p, fs, m, hl, hm, hf => by
    unfold recF
    cases hA : frAt last s p with
    | none => exact ⟨by show fs.length ≤ _; omega, hf⟩
    | some now =>
      dsimp only
      split
      · have h1 := (frAt_some hA).1
        have h2 := recF_lens W H wr sp lo N s k now (frEnd s p + 2) (fs ++ [fldOf N now]) (m + 1) (by omega) (by simp; omega) fun f hf' => by
          rcases List.mem_append.1 hf' with h | h
          · exact hf f h
          · rw [List.mem_singleton] at h; subst h
            exact ⟨by show (now.take N).length ≤ N; rw [List.length_take]; omega, by show ((now.take (2 * N)).drop N).length ≤ N; rw [List.length_drop, List.length_take]; omega, by show (now.drop (2 * N)).length ≤ N; rw [List.length_drop]; omega⟩
        exact ⟨by omega, h2.2⟩
      · exact ⟨by show fs.length ≤ _; omega, hf⟩
theorem sumF_lenN {N : Nat} : ∀ fs : List Fld, (∀ f ∈ fs, lenN N f) → sumF fs ≤ fs.length * (3 * N)
  | [], _ => by simp [sumF]
  | f :: fs, h => by
    have h1 := h f (by simp)
    have h2 := sumF_lenN fs fun g hg => h g (by simp [hg])
    obtain ⟨u1, u2, u3⟩ := h1
    simp only [sumF, List.length_cons, Nat.add_mul]
    omega
theorem rcAll_fit (s : List UInt8) : fitsF (rcAll s).1 ∧ sumF (rcAll s).1 ≤ 4194304 := by
  have hN2 := shN_le s
  obtain ⟨h1, h2⟩ := recF_lens (byAt s 4) (byAt s 5) (shWr s) (shSp s) (shLo s) (shN s) s 16 (List.replicate (3 * shN s) 0) (shEnd s) [] 0 (by rw [List.length_replicate]; exact Nat.le_refl _) (by simp) (by simp)
  have h3 := sumF_lenN _ h2
  unfold rcAll
  refine ⟨⟨by omega, fun f hf => ?_⟩, ?_⟩
  · obtain ⟨u1, u2, u3⟩ := h2 f hf
    exact ⟨by omega, by omega, by omega⟩
  · have h4 := Nat.mul_le_mul h1 (show 3 * shN s ≤ 196000 by omega)
    omega
end Go.Abs

