/- Laws of functions, some texts put together. Conditions: the laws of what they call. -/
import Derived.Test.YtdlicidmkakooaaExactTravelFieldL27
import Derived.Test.YtdlicidmkakooaaExactTravelFieldL34
namespace Go.Abs
set_option linter.unusedSimpArgs false
set_option linter.unusedVariables false

/-! ### A heap that another begins with -/
def Pre (A S : Heap) : Prop := ∃ X, S = A ++ X
theorem Pre.refl (A : Heap) : Pre A A := ⟨[], by simp⟩
theorem Pre.app {A S : Heap} (h : Pre A S) (t : Heap) : Pre A (S ++ t) := by obtain ⟨X, rfl⟩ := h; exact ⟨X ++ t, by rw [List.append_assoc]⟩
theorem Pre.trans {A B S : Heap} (h : Pre A B) (h' : Pre B S) : Pre A S := by obtain ⟨X, rfl⟩ := h; obtain ⟨Y, rfl⟩ := h'; exact ⟨X ++ Y, by rw [List.append_assoc]⟩
theorem Pre.len {A S : Heap} (h : Pre A S) : A.length ≤ S.length := by obtain ⟨X, rfl⟩ := h; simp
theorem Pre.get {A S : Heap} (h : Pre A S) {i : Nat} {x : AObj} (hx : A[i]? = some x) : S[i]? = some x := by
  obtain ⟨X, rfl⟩ := h
  rw [List.getElem?_append_left (List.getElem?_eq_some_iff.1 hx).1]; exact hx
theorem PtAt.pre {A S : Heap} (hp : Pre A S) {b o : Nat} {cs : List Value} (h : PtAt A b o cs) : PtAt S b o cs := by obtain ⟨X, rfl⟩ := hp; exact h.ext X
theorem ShR.pre {A S : Heap} (hp : Pre A S) {sv lv : Value} {sp lo : List Nat} (h : ShR A sv lv sp lo) : ShR S sv lv sp lo := by obtain ⟨X, rfl⟩ := hp; exact ⟨h.s.ext X, h.l.ext X⟩
theorem FlsR.pre {A S : Heap} (hp : Pre A S) {v : Value} {fs : List Fld} (h : FlsR A v fs) : FlsR S v fs := by obtain ⟨X, rfl⟩ := hp; exact h.ext X
theorem FilmO.pre {A S : Heap} (hp : Pre A S) {lo s l b : Nat} {R : Rws} {sp ls : List Nat} {fs : List Fld} (h : FilmO A lo s l b R sp ls fs) : FilmO S lo s l b R sp ls fs := by obtain ⟨X, rfl⟩ := hp; exact h.ext X
theorem PtAt.same {H H' : Heap} {b o : Nat} {cs : List Value} (h : PtAt H b o cs) (he : H'[b]? = H[b]?) : PtAt H' b o cs := by
  obtain ⟨cells, r, h1, h2⟩ := h
  exact ⟨cells, r, by rw [he]; exact h1, h2⟩
/-- Marks in rows that came later leave what stood before. -/
theorem Pre.mark {A S : Heap} {R : Rws} (h : Pre A S) (k : Int) (hR : ∀ p ∈ R, A.length ≤ p.1) : Pre A (markH S k R) := by
  have hl := markH_len R S k
  refine ⟨(markH S k R).drop A.length, ?_⟩
  apply List.ext_getElem?
  intro i
  rcases Nat.lt_or_ge i A.length with hi | hi
  · rw [List.getElem?_append_left hi, markH_out]
    · obtain ⟨X, rfl⟩ := h
      rw [List.getElem?_append_left hi]
    · intro hc
      obtain ⟨p, hp, rfl⟩ := List.mem_map.1 hc
      have := hR p hp
      omega
  · rw [List.getElem?_append_right hi, List.getElem?_drop]
    congr 1
    omega
section
variable {C : Ctab} {F : Frame}
/-- A new base. -/
theorem EvR.base {Q} {ops : List SOper} {H : Heap} (h : ∀ S, S = H → EvR C ops F (S ++ []) Q) : EvR C ops F H Q := by
  have := h H rfl
  rwa [List.append_nil] at this
end
end Go.Abs


namespace Go.Abs
theorem FlR.pre {A S : Heap} (hp : Pre A S) {ev xv yv : Value} {e x y : List Nat} (h : FlR A ev xv yv e x y) : FlR S ev xv yv e x y := by obtain ⟨X, rfl⟩ := hp; exact h.ext X
theorem RInv.pre {A S : Heap} (hp : Pre A S) {lo : Nat} {R : Rws} (h : RInv A lo R) : RInv S lo R := by obtain ⟨X, rfl⟩ := hp; exact h.ext X
end Go.Abs


namespace Go.Abs

set_option linter.unusedSimpArgs false
set_option linter.unusedVariables false
set_option maxHeartbeats 8000000
set_option maxRecDepth 20000
section
variable {C : Ctab} {F : Frame} {τ l : Heap}
theorem EvR.heap {Q} {ops : List SOper} {H H' : Heap} (h : EvR C ops F H' Q) (e : H = H') : EvR C ops F H Q := by subst e; exact h
end
end Go.Abs

