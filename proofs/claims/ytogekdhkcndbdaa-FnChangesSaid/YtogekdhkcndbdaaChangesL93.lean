/- Laws of functions: the frames of films as bytes. Conditions: the laws of what they call. -/
import Derived.Test.YtogekdhkcndbdaaWvH3
import Derived.Test.YtogekdhkcndbdaaChangesL12
import Derived.Test.YtogekdhkcndbdaaChangesL37
import Derived.Test.YtogekdhkcndbdaaChangesL66
import Derived.Test.YtogekdhkcndbdaaChangesL38
import Derived.Test.YtogekdhkcndbdaaChangesL69
import Derived.Test.YtogekdhkcndbdaaChangesL71
import Derived.Test.YtogekdhkcndbdaaChangesL26
import Derived.Test.YtogekdhkcndbdaaChangesL34
namespace Go.Abs

set_option linter.unusedSimpArgs false
set_option linter.unusedVariables false
set_option maxHeartbeats 8000000
set_option maxRecDepth 20000
theorem chg_len (x : Nat → Nat) (n : Nat) : ∀ f a, (chg x n f a).length ≤ 6 * (n - a)
  | 0, a => by simp [chg]
  | f + 1, a => by
    by_cases h : a < n
    · obtain ⟨Z, hZ⟩ : ∃ Z, runZ (isZ x) n 255 a = Z := ⟨_, rfl⟩
      obtain ⟨O, hO⟩ : ∃ O, runZ (notZ x) n 255 (a + Z) = O := ⟨_, rfl⟩
      have hp := run_progress x h
      have b1 := runZ_le (isZ x) n 255 a
      have b2 := runZ_le (notZ x) n 255 (a + Z)
      rw [hZ, hO] at hp
      rw [hZ] at b1
      rw [hO] at b2
      rw [chg_step h hZ hO]
      have := chg_len x n f (a + Z + O)
      simp only [List.length_append, List.length_cons, words_length]
      omega
    · rw [chg_end h]; simp
end Go.Abs

