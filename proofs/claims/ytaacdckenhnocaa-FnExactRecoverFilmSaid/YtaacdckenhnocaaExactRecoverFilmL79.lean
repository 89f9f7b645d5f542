/- Laws of functions, some texts put together. Conditions: the laws of what they call. -/
import Derived.Test.YtaacdckenhnocaaExactRecoverFilmL78
import Derived.Test.YtaacdckenhnocaaExactRecoverFilmL30
import Derived.Test.YtaacdckenhnocaaExactRecoverFilmL26
import Derived.Test.YtaacdckenhnocaaExactRecoverFilmL46
import Derived.Test.YtaacdckenhnocaaExactRecoverFilmL02
namespace Go.Abs

set_option linter.unusedSimpArgs false
set_option linter.unusedVariables false
set_option maxHeartbeats 8000000
set_option maxRecDepth 20000
theorem RInv.setOut {H H' : Heap} {lo b : Nat} {R : Rws} (h : RInv H lo R) (hb : b ∉ R.map Prod.fst) (hk : ∀ o, o ≠ b → o < H.length → H'[o]? = H[o]?) : RInv H' lo R :=
  ⟨fun p hp => by rw [hk p.1 (fun hc => hb (by rw [← hc]; exact List.mem_map_of_mem hp)) (h.lt hp)]; exact h.own p hp, h.low, h.nod⟩
end Go.Abs


namespace Go.Abs

set_option linter.unusedSimpArgs false
set_option linter.unusedVariables false
set_option maxHeartbeats 8000000
set_option maxRecDepth 20000
def okSp (xs : List Nat) : Prop := ∀ x ∈ xs, share x 0x3f000000 = true ∧ x < 4294967296
def okLo (xs : List Nat) : Prop := ∀ x ∈ xs, share x 0x3f800000 = true ∧ x < 4294967296
theorem okSp.snoc {xs : List Nat} {x : Nat} (h : okSp xs) (h1 : share x 0x3f000000 = true) (h2 : x < 4294967296) : okSp (xs ++ [x]) := fun y hy => by
  rcases List.mem_append.1 hy with hy | hy
  · exact h y hy
  · rw [List.mem_singleton] at hy; subst hy; exact ⟨h1, h2⟩
theorem okLo.snoc {xs : List Nat} {x : Nat} (h : okLo xs) (h1 : share x 0x3f800000 = true) (h2 : x < 4294967296) : okLo (xs ++ [x]) := fun y hy => by
  rcases List.mem_append.1 hy with hy | hy
  · exact h y hy
  · rw [List.mem_singleton] at hy; subst hy; exact ⟨h1, h2⟩
/-- The value of a row that grows out of nothing. -/
def fvN (b : Nat) : Nat → Value
  | 0 => .slice none 0 0
  | i + 1 => slV b (i + 1)
end Go.Abs

