/- Laws of functions, some texts put together. Conditions: the laws of what they call. -/
import Derived.Test.YtdlicidmkakooaaOutlinedL36
import Derived.Test.YtdlicidmkakooaaOutlinedL48
import Derived.Test.YtdlicidmkakooaaOutlinedL88
import Derived.Test.YtdlicidmkakooaaOutlinedWvH3
import Derived.Test.YtdlicidmkakooaaOutlinedL12
import Derived.Test.YtdlicidmkakooaaOutlinedL57
import Derived.Test.YtdlicidmkakooaaOutlinedL71
namespace Go.Abs

set_option linter.unusedSimpArgs false
set_option linter.unusedVariables false
set_option maxHeartbeats 8000000
set_option maxRecDepth 20000
/-- Numbers some of which are changed. -/
def full (a u : List Nat) : List Nat := u ++ a.drop u.length
end Go.Abs


namespace Go.Abs
set_option maxHeartbeats 4000000

/-- The numbers to which the bytes lead. -/
def mixed (a : List Nat) (x : Nat → Nat) (i : Nat) : List Nat := (List.range i).map fun k => if x k = 0 then a.getD k 0 else bitsC (a.getD k 0) ^^^ x k
end Go.Abs


namespace Go.Abs

set_option linter.unusedSimpArgs false
set_option linter.unusedVariables false
set_option maxHeartbeats 8000000
set_option maxRecDepth 20000


abbrev bytesK : Bool × List CK := (false, [.rowI .u8])
theorem bytes_abs {σ : Heap} {v : Value} (h : argAbs σ false [.rowI .u8] v) : ∃ xs : List UInt8, Row σ 1 v xs.length (b8s xs) ∧ xs.length ≤ 9223372036854775807 := by
  obtain ⟨cs, h1, h2⟩ := h
  obtain ⟨_, _, rfl, ⟨xs, hs, hs2, hs3⟩, g1⟩ := absAll_cons h1
  cases absAll_nil g1
  rw [maxLen_eq] at hs2
  simp only [Bool.false_eq_true, if_false, List.cons.injEq, and_true] at h2
  subst h2
  refine ⟨xs.map fun x => UInt8.ofNat x.toNat, ?_, by rw [List.length_map]; exact hs2⟩
  have e : b8s (xs.map fun x => UInt8.ofNat x.toNat) = xs.map (.int .u8) := by
    unfold b8s
    rw [List.map_map]
    apply List.map_congr_left
    intro x hx
    have := hs3 x hx
    unfold inK at this
    simp [IntKind.min, IntKind.max, IntKind.bits, IntKind.signed] at this
    simp
    omega
  rw [List.length_map, e]
  exact hs
end Go.Abs

