/- Rules for rows of fields; laws of single functions: fields of films, their sizes, copies and comparisons. Conditions: the laws of what they call. -/
import Derived.Test.YtdlicidmkakooaaOutlinedL50
import Derived.Test.YtdlicidmkakooaaOutlinedL13
import Derived.Test.YtdlicidmkakooaaOutlinedWvH3
namespace Go.Abs

set_option linter.unusedSimpArgs false
set_option linter.unusedVariables false
set_option maxHeartbeats 8000000
set_option maxRecDepth 20000


/-! ### Rows whose elements have three cells -/
section
variable {C : Ctab} {F : Frame} {τ l : Heap}
end

/-! ### Fields one after another -/
def rowsOf (fs : List Fld) : List (List Nat) := fs.flatMap fun f => [f.e, f.x, f.y]
theorem rowsOf_cons (f : Fld) (fs : List Fld) : rowsOf (f :: fs) = f.e :: f.x :: f.y :: rowsOf fs := rfl
theorem rowsOf_append (a b : List Fld) : rowsOf (a ++ b) = rowsOf a ++ rowsOf b := by simp [rowsOf]
theorem rowsOf_length (fs : List Fld) : (rowsOf fs).length = fs.length * 3 := by
  induction fs with
  | nil => rfl
  | cons f fs ih => rw [rowsOf_cons]; simp only [List.length_cons, ih]; omega
/-- Cells that tell of fields. -/
def FlsC (σ : Heap) : List Fld → List Value → Prop
  | [], [] => True
  | f :: fs, a :: b :: c :: cs => FlR σ a b c f.e f.x f.y ∧ FlsC σ fs cs
  | _, _ => False
theorem FlsC.ext {σ : Heap} (τ : Heap) : ∀ {fs : List Fld} {cs : List Value}, FlsC σ fs cs → FlsC (σ ++ τ) fs cs
  | [], [], h => h
  | _ :: _, _ :: _ :: _ :: _, h => ⟨h.1.ext τ, FlsC.ext τ h.2⟩
  | [], _ :: _, h => False.elim h
  | _ :: _, [], h => False.elim h
  | _ :: _, [_], h => False.elim h
  | _ :: _, [_, _], h => False.elim h
theorem FlsC.get {σ : Heap} : ∀ {fs : List Fld} {cs : List Value} {i : Nat} {f : Fld}, FlsC σ fs cs → fs[i]? = some f → ∃ a b c, (cs.drop (i * 3)).take 3 = [a, b, c] ∧ FlR σ a b c f.e f.x f.y
  | g :: fs, a :: b :: c :: cs, 0, f, h, hf => by simp at hf; subst hf; exact ⟨a, b, c, rfl, h.1⟩
  | g :: fs, a :: b :: c :: cs, i + 1, f, h, hf => by
    obtain ⟨a', b', c', h1, h2⟩ := FlsC.get (i := i) h.2 (by simpa using hf)
    refine ⟨a', b', c', ?_, h2⟩
    rw [← h1, show (i + 1) * 3 = i * 3 + 3 by omega]
    rfl
  | [], [], _, _, _, hf => by simp at hf
  | [], _ :: _, _, _, h, _ => False.elim h
  | _ :: _, [], _, _, h, _ => False.elim h
  | _ :: _, [_], _, _, h, _ => False.elim h
  | _ :: _, [_, _], _, _, h, _ => False.elim h
/-- A row of fields that may be read. -/
structure FlsR (σ : Heap) (v : Value) (fs : List Fld) : Prop where
  ex : ∃ cs, Row σ 3 v fs.length cs ∧ FlsC σ fs cs
theorem FlsR.ext {σ : Heap} {v : Value} {fs : List Fld} (h : FlsR σ v fs) (τ : Heap) : FlsR (σ ++ τ) v fs := by
  obtain ⟨cs, h1, h2⟩ := h.ex
  exact ⟨cs, h1.ext τ, h2.ext τ⟩
theorem FlsR.ok {σ : Heap} {v : Value} {fs : List Fld} (h : FlsR σ v fs) : cellOk v = true := by
  obtain ⟨cs, h1, h2⟩ := h.ex
  exact h1.ok
def fitF (f : Fld) : Prop := f.e.length ≤ 1048576 ∧ f.x.length ≤ 1048576 ∧ f.y.length ≤ 1048576

end Go.Abs

