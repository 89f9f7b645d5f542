/- Films as arguments of rows, their sizes, and what stays of a heap. Conditions: as at each theorem. -/
import Derived.Test.YtogekdhkcndbdaaChangesL68
namespace Go.Abs
set_option linter.unusedSimpArgs false
set_option linter.unusedVariables false

/-! ### A heap that another begins with -/
def Pre (A S : Heap) : Prop := ∃ X, S = A ++ X
theorem Pre.len {A S : Heap} (h : Pre A S) : A.length ≤ S.length := by obtain ⟨X, rfl⟩ := h; simp
theorem PtAt.same {H H' : Heap} {b o : Nat} {cs : List Value} (h : PtAt H b o cs) (he : H'[b]? = H[b]?) : PtAt H' b o cs := by
  obtain ⟨cells, r, h1, h2⟩ := h
  exact ⟨cells, r, by rw [he]; exact h1, h2⟩
theorem FilmO.lows {H : Heap} {lo s l b : Nat} {R : Rws} {sp ls : List Nat} {fs : List Fld} (h : FilmO H lo s l b R sp ls fs) : ∀ p ∈ (s, sp) :: (l, ls) :: R, lo ≤ p.1 := h.inv.low
section
variable {C : Ctab} {F : Frame}
/-- A new base. -/
theorem EvR.base {Q} {ops : List SOper} {H : Heap} (h : ∀ S, S = H → EvR C ops F (S ++ []) Q) : EvR C ops F H Q := by
  have := h H rfl
  rwa [List.append_nil] at this
end
end Go.Abs

