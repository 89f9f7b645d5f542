/- Laws of functions, some texts put together. Conditions: the laws of what they call. -/
import Derived.Test.YtdlicidmkakooaaOutlinedL56
import Derived.Test.YtdlicidmkakooaaOutlinedL63
namespace Go.Abs

set_option linter.unusedSimpArgs false
set_option linter.unusedVariables false
set_option maxHeartbeats 8000000
set_option maxRecDepth 20000


theorem isField_fits {W H : Nat} {wr : Bool} {sp lo e x y : List Nat} (hs : isSheet W H sp lo = true) : isField W H wr sp lo e x y = fits W H wr e x y := by simp [isField, hs]

end Go.Abs


namespace Go.Abs

set_option linter.unusedSimpArgs false
set_option linter.unusedVariables false
set_option maxHeartbeats 8000000
set_option maxRecDepth 20000


/-- The place of an element of a row. -/
def PtE (σ : Heap) (b o c : Nat) (cs : List Value) : Prop := ∃ cells e r, σ[b]? = some (⟨cells, e, r⟩ : AObj) ∧ e ≠ 0 ∧ cells.length = c ∧ (cells.drop o).take cs.length = cs
theorem PtE.ext {σ : Heap} {b o c : Nat} {cs : List Value} (h : PtE σ b o c cs) (t : Heap) : PtE (σ ++ t) b o c cs := by
  obtain ⟨cells, e, r, h1, h2⟩ := h
  exact ⟨cells, e, r, by rw [List.getElem?_append_left (List.getElem?_eq_some_iff.1 h1).1]; exact h1, h2⟩
theorem PtE.load1R {σ : Heap} {b o c k : Nat} {cs : List Value} {l : Heap} (h : PtE σ b o c cs) (hk : k < cs.length) : aLoad1 (σ ++ l) (.pointer (some ⟨b, o + k, some c⟩)) = cs[k]? := by
  obtain ⟨cells, e, r, h1, h2, h3, h4⟩ := h.ext l
  rw [load1_obj h1 h3 h2, ← h4, List.getElem?_take, if_pos hk, List.getElem?_drop]
theorem PtE.loadNR {σ : Heap} {b o c n : Nat} {cs : List Value} {l : Heap} (h : PtE σ b o c cs) (hk : cs.length = n) (hn : 0 < n) : aLoadN (σ ++ l) n (.pointer (some ⟨b, o, some c⟩)) = some (.agg cs.toArray) := by
  obtain ⟨cells, e, r, h1, h2, h3, h4⟩ := h.ext l
  subst hk
  have hlen : o + cs.length ≤ cells.length := by
    have := congrArg List.length h4
    rw [List.length_take, List.length_drop] at this
    omega
  simp only [aLoadN, h1]
  rw [if_pos (by simp [ptrOk, h3, h2]; exact ⟨by cases e with | zero => exact absurd rfl h2 | succ n => rfl, by omega⟩), h4]
attribute [push_cast] PtE.load1R PtE.loadNR
theorem PtAt.first {σ : Heap} {b o : Nat} {cs ds : List Value} (h : PtAt σ b o (cs ++ ds)) : PtAt σ b o cs := by
  obtain ⟨cells, r, h1, h2⟩ := h
  refine ⟨cells, r, h1, ?_⟩
  have := congrArg (List.take cs.length) h2
  rw [List.take_take, List.take_left] at this
  have hl := congrArg List.length h2
  rw [List.length_take, List.length_append, List.length_drop] at hl
  rw [← this]
  congr 1
  rw [List.length_append]
  simp only [List.length_take, List.length_drop]
  omega
end Go.Abs


namespace Go.Abs

set_option linter.unusedSimpArgs false
set_option linter.unusedVariables false
set_option maxHeartbeats 8000000
set_option maxRecDepth 20000
theorem FlsC.drop {σ : Heap} : ∀ {fs : List Fld} {cs : List Value} (a : Nat), FlsC σ fs cs → FlsC σ (fs.drop a) (cs.drop (a * 3))
  | fs, cs, 0, h => by simpa using h
  | [], [], a + 1, h => by simp; trivial
  | f :: fs, u :: v :: w :: cs, a + 1, h => by
    rw [show (a + 1) * 3 = a * 3 + 3 by omega]
    exact FlsC.drop a h.2
  | [], _ :: _, _, h => False.elim h
  | _ :: _, [], _ + 1, h => False.elim h
  | _ :: _, [_], _ + 1, h => False.elim h
  | _ :: _, [_, _], _ + 1, h => False.elim h
theorem FlsC.take {σ : Heap} : ∀ {fs : List Fld} {cs : List Value} (k : Nat), FlsC σ fs cs → FlsC σ (fs.take k) (cs.take (k * 3))
  | fs, cs, 0, h => by simp; trivial
  | [], [], k + 1, h => by simp; trivial
  | f :: fs, u :: v :: w :: cs, k + 1, h => by
    rw [show (k + 1) * 3 = k * 3 + 3 by omega]
    exact ⟨h.1, FlsC.take k h.2⟩
  | [], _ :: _, _, h => False.elim h
  | _ :: _, [], _ + 1, h => False.elim h
  | _ :: _, [_], _ + 1, h => False.elim h
  | _ :: _, [_, _], _ + 1, h => False.elim h
section
variable {C : Ctab} {F : Frame} {τ l : Heap}
end
end Go.Abs


namespace Go.Abs
set_option linter.unusedSimpArgs false
set_option linter.unusedVariables false

/-! ### A heap that another begins with -/
def Pre (A S : Heap) : Prop := ∃ X, S = A ++ X
theorem Pre.refl (A : Heap) : Pre A A := ⟨[], by simp⟩
theorem Pre.app {A S : Heap} (h : Pre A S) (t : Heap) : Pre A (S ++ t) := by obtain ⟨X, rfl⟩ := h; exact ⟨X ++ t, by rw [List.append_assoc]⟩
theorem Pre.trans {A B S : Heap} (h : Pre A B) (h' : Pre B S) : Pre A S := by obtain ⟨X, rfl⟩ := h; obtain ⟨Y, rfl⟩ := h'; exact ⟨X ++ Y, by rw [List.append_assoc]⟩
theorem Pre.len {A S : Heap} (h : Pre A S) : A.length ≤ S.length := by obtain ⟨X, rfl⟩ := h; simp
theorem Pre.get {A S : Heap} (h : Pre A S) {i : Nat} {x : AObj} (hx : A[i]? = some x) : S[i]? = some x := by
  obtain ⟨X, rfl⟩ := h
  rw [List.getElem?_append_left (List.getElem?_eq_some_iff.1 hx).1]; exact hx
theorem PtAt.pre {A S : Heap} (hp : Pre A S) {b o : Nat} {cs : List Value} (h : PtAt A b o cs) : PtAt S b o cs := by obtain ⟨X, rfl⟩ := hp; exact h.ext X
theorem ShR.pre {A S : Heap} (hp : Pre A S) {sv lv : Value} {sp lo : List Nat} (h : ShR A sv lv sp lo) : ShR S sv lv sp lo := by obtain ⟨X, rfl⟩ := hp; exact ⟨h.s.ext X, h.l.ext X⟩
theorem FlsR.pre {A S : Heap} (hp : Pre A S) {v : Value} {fs : List Fld} (h : FlsR A v fs) : FlsR S v fs := by obtain ⟨X, rfl⟩ := hp; exact h.ext X
theorem FilmO.pre {A S : Heap} (hp : Pre A S) {lo s l b : Nat} {R : Rws} {sp ls : List Nat} {fs : List Fld} (h : FilmO A lo s l b R sp ls fs) : FilmO S lo s l b R sp ls fs := by obtain ⟨X, rfl⟩ := hp; exact h.ext X
theorem PtAt.same {H H' : Heap} {b o : Nat} {cs : List Value} (h : PtAt H b o cs) (he : H'[b]? = H[b]?) : PtAt H' b o cs := by
  obtain ⟨cells, r, h1, h2⟩ := h
  exact ⟨cells, r, by rw [he]; exact h1, h2⟩
/-- Marks in rows that came later leave what stood before. -/
theorem Pre.mark {A S : Heap} {R : Rws} (h : Pre A S) (k : Int) (hR : ∀ p ∈ R, A.length ≤ p.1) : Pre A (markH S k R) := by
  have hl := markH_len R S k
  refine ⟨(markH S k R).drop A.length, ?_⟩
  apply List.ext_getElem?
  intro i
  rcases Nat.lt_or_ge i A.length with hi | hi
  · rw [List.getElem?_append_left hi, markH_out]
    · obtain ⟨X, rfl⟩ := h
      rw [List.getElem?_append_left hi]
    · intro hc
      obtain ⟨p, hp, rfl⟩ := List.mem_map.1 hc
      have := hR p hp
      omega
  · rw [List.getElem?_append_right hi, List.getElem?_drop]
    congr 1
    omega
section
variable {C : Ctab} {F : Frame}
/-- A new base. -/
theorem EvR.base {Q} {ops : List SOper} {H : Heap} (h : ∀ S, S = H → EvR C ops F (S ++ []) Q) : EvR C ops F H Q := by
  have := h H rfl
  rwa [List.append_nil] at this
end
/-- The heaps of ahead and of behind a call that tells no more get names. -/
theorem EvR.base2 {C : Ctab} {F : Frame} {Q} {ops : List SOper} {A T : Heap} (h : ∀ B S, B = A → S = A ++ T → Pre B S → EvR C ops F (S ++ []) Q) : EvR C ops F (A ++ T) Q := by
  have := h A _ rfl rfl ⟨T, rfl⟩
  rwa [List.append_nil] at this
end Go.Abs

