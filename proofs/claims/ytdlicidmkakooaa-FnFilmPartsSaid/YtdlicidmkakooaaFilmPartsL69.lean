/- Films as arguments of rows, their sizes, and what stays of a heap. Conditions: as at each theorem. -/
import Derived.Test.YtdlicidmkakooaaFilmPartsL68
namespace Go.Abs
set_option linter.unusedSimpArgs false
set_option linter.unusedVariables false

theorem noFlsR (σ : Heap) : FlsR σ (.slice none 0 0) [] := ⟨_, ⟨rfl, rfl, rfl⟩, trivial⟩
/-! ### A heap that another begins with -/
def Pre (A S : Heap) : Prop := ∃ X, S = A ++ X
theorem Pre.refl (A : Heap) : Pre A A := ⟨[], by simp⟩
theorem Pre.app {A S : Heap} (h : Pre A S) (t : Heap) : Pre A (S ++ t) := by obtain ⟨X, rfl⟩ := h; exact ⟨X ++ t, by rw [List.append_assoc]⟩
theorem Pre.trans {A B S : Heap} (h : Pre A B) (h' : Pre B S) : Pre A S := by obtain ⟨X, rfl⟩ := h; obtain ⟨Y, rfl⟩ := h'; exact ⟨X ++ Y, by rw [List.append_assoc]⟩
theorem Pre.len {A S : Heap} (h : Pre A S) : A.length ≤ S.length := by obtain ⟨X, rfl⟩ := h; simp
theorem Pre.get {A S : Heap} (h : Pre A S) {i : Nat} {x : AObj} (hx : A[i]? = some x) : S[i]? = some x := by
  obtain ⟨X, rfl⟩ := h
  rw [List.getElem?_append_left (List.getElem?_eq_some_iff.1 hx).1]; exact hx
theorem PtAt.pre {A S : Heap} (hp : Pre A S) {b o : Nat} {cs : List Value} (h : PtAt A b o cs) : PtAt S b o cs := by obtain ⟨X, rfl⟩ := hp; exact h.ext X
theorem ShR.pre {A S : Heap} (hp : Pre A S) {sv lv : Value} {sp lo : List Nat} (h : ShR A sv lv sp lo) : ShR S sv lv sp lo := by obtain ⟨X, rfl⟩ := hp; exact ⟨h.s.ext X, h.l.ext X⟩
theorem FlsR.pre {A S : Heap} (hp : Pre A S) {v : Value} {fs : List Fld} (h : FlsR A v fs) : FlsR S v fs := by obtain ⟨X, rfl⟩ := hp; exact h.ext X
theorem FilmO.pre {A S : Heap} (hp : Pre A S) {lo s l b : Nat} {R : Rws} {sp ls : List Nat} {fs : List Fld} (h : FilmO A lo s l b R sp ls fs) : FilmO S lo s l b R sp ls fs := by obtain ⟨X, rfl⟩ := hp; exact h.ext X
theorem FilmO.fls {H : Heap} {lo s l b : Nat} {R : Rws} {sp ls : List Nat} {fs : List Fld} (h : FilmO H lo s l b R sp ls fs) : FlsR H (slV b fs.length) fs := h.flds.read
theorem PtAt.same {H H' : Heap} {b o : Nat} {cs : List Value} (h : PtAt H b o cs) (he : H'[b]? = H[b]?) : PtAt H' b o cs := by
  obtain ⟨cells, r, h1, h2⟩ := h
  exact ⟨cells, r, by rw [he]; exact h1, h2⟩
section
variable {C : Ctab} {F : Frame}
/-- A new base. -/
theorem EvR.base {Q} {ops : List SOper} {H : Heap} (h : ∀ S, S = H → EvR C ops F (S ++ []) Q) : EvR C ops F H Q := by
  have := h H rfl
  rwa [List.append_nil] at this
end
/-- The heaps of ahead and of behind a call that tells no more get names. -/
theorem EvR.base2 {C : Ctab} {F : Frame} {Q} {ops : List SOper} {A T : Heap} (h : ∀ B S, B = A → S = A ++ T → Pre B S → EvR C ops F (S ++ []) Q) : EvR C ops F (A ++ T) Q := by
  have := h A _ rfl rfl ⟨T, rfl⟩
  rwa [List.append_nil] at this
end Go.Abs

