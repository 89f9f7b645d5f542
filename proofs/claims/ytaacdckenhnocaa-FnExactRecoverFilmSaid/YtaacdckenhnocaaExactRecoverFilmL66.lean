/- Laws of functions: whether a film is one, by the reference; elements of rows told by their places. Conditions: the laws of what they call. -/
import Derived.Test.YtaacdckenhnocaaExactRecoverFilmL64
import Derived.Test.YtaacdckenhnocaaExactRecoverFilmL30
import Derived.Test.YtaacdckenhnocaaExactRecoverFilmL26
namespace Go.Abs

set_option linter.unusedSimpArgs false
set_option linter.unusedVariables false
set_option maxHeartbeats 8000000
set_option maxRecDepth 20000


/-- The place of an element of a row. -/
def PtE (σ : Heap) (b o c : Nat) (cs : List Value) : Prop := ∃ cells e r, σ[b]? = some (⟨cells, e, r⟩ : AObj) ∧ e ≠ 0 ∧ cells.length = c ∧ (cells.drop o).take cs.length = cs
theorem PtE.ext {σ : Heap} {b o c : Nat} {cs : List Value} (h : PtE σ b o c cs) (t : Heap) : PtE (σ ++ t) b o c cs := by
  obtain ⟨cells, e, r, h1, h2⟩ := h
  exact ⟨cells, e, r, by rw [List.getElem?_append_left (List.getElem?_eq_some_iff.1 h1).1]; exact h1, h2⟩
theorem PtE.load1R {σ : Heap} {b o c k : Nat} {cs : List Value} {l : Heap} (h : PtE σ b o c cs) (hk : k < cs.length) : aLoad1 (σ ++ l) (.pointer (some ⟨b, o + k, some c⟩)) = cs[k]? := by
  obtain ⟨cells, e, r, h1, h2, h3, h4⟩ := h.ext l
  rw [load1_obj h1 h3 h2, ← h4, List.getElem?_take, if_pos hk, List.getElem?_drop]
theorem PtE.loadNR {σ : Heap} {b o c n : Nat} {cs : List Value} {l : Heap} (h : PtE σ b o c cs) (hk : cs.length = n) (hn : 0 < n) : aLoadN (σ ++ l) n (.pointer (some ⟨b, o, some c⟩)) = some (.agg cs.toArray) := by
  obtain ⟨cells, e, r, h1, h2, h3, h4⟩ := h.ext l
  subst hk
  have hlen : o + cs.length ≤ cells.length := by
    have := congrArg List.length h4
    rw [List.length_take, List.length_drop] at this
    omega
  simp only [aLoadN, h1]
  rw [if_pos (by simp [ptrOk, h3, h2]; exact ⟨by cases e with | zero => exact absurd rfl h2 | succ n => rfl, by omega⟩), h4]
attribute [push_cast] PtE.load1R PtE.loadNR
theorem PtAt.first {σ : Heap} {b o : Nat} {cs ds : List Value} (h : PtAt σ b o (cs ++ ds)) : PtAt σ b o cs := by
  obtain ⟨cells, r, h1, h2⟩ := h
  refine ⟨cells, r, h1, ?_⟩
  have := congrArg (List.take cs.length) h2
  rw [List.take_take, List.take_left] at this
  have hl := congrArg List.length h2
  rw [List.length_take, List.length_append, List.length_drop] at hl
  rw [← this]
  congr 1
  rw [List.length_append]
  simp only [List.length_take, List.length_drop]
  omega
end Go.Abs

