/- Laws of functions: the bytes of a change, by the program. Conditions: the laws of what they call. -/
import Derived.Test.YtaacdckenhnocaaExactLoadSheetL36
namespace Go.Abs

set_option linter.unusedSimpArgs false
set_option linter.unusedVariables false
set_option maxHeartbeats 8000000
set_option maxRecDepth 20000
def words (x : Nat → Nat) (a o : Nat) : List UInt8 := (List.range o).flatMap fun k => lowB (x (a + k)) 4
theorem words_succ (x : Nat → Nat) (a o : Nat) : words x a (o + 1) = words x a o ++ lowB (x (a + o)) 4 := by simp [words, List.range_succ]
theorem words_length (x : Nat → Nat) (a : Nat) : ∀ o, (words x a o).length = 4 * o
  | 0 => rfl
  | o + 1 => by rw [words_succ, List.length_append, words_length x a o, lowB_length]; omega
end Go.Abs

