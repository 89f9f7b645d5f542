/- Laws of functions, some texts put together. Conditions: the laws of what they call. -/
import Derived.Test.YtdlicidmkakooaaOutlinedL101
import Derived.Test.YtdlicidmkakooaaOutlinedL48
import Derived.Test.YtdlicidmkakooaaOutlinedL71
import Derived.Test.YtdlicidmkakooaaOutlinedL88
import Derived.Test.YtdlicidmkakooaaOutlinedL42
import Derived.Test.YtdlicidmkakooaaOutlinedL78
namespace Go.Abs

set_option linter.unusedSimpArgs false
set_option linter.unusedVariables false
set_option maxHeartbeats 8000000
set_option maxRecDepth 20000
def spec_R8Wild_ok (c : Contract) : Prop := ∀ (σ : Heap) (cv : Value) (code : List UInt8) (W H : Nat) (wr : Bool) (sv lv : Value) (sp lo : List Nat), Row σ 1 cv code.length (b8s code) → code.length ≤ 1048576 → ShR σ sv lv sp lo → isSheet W H sp lo = true →
    Ret c [cv, shV W H wr sv lv] σ fun v σ' => ∃ (f : Fld) (e x y : Nat) (τ : Heap), isField W H wr sp lo f.e f.x f.y = true ∧ lowF1 f ∧ v = fV (slV e f.e.length) (slV x f.x.length) (slV y f.y.length) ∧ σ' = σ ++ τ ∧ FlN σ' σ.length e x y f
end Go.Abs


namespace Go.Abs

set_option linter.unusedSimpArgs false
set_option linter.unusedVariables false
set_option maxHeartbeats 8000000
set_option maxRecDepth 20000
theorem Row.pre {A S : Heap} (hp : Pre A S) {e n : Nat} {v : Value} {cs : List Value} (h : Row A e v n cs) : Row S e v n cs := by obtain ⟨X, rfl⟩ := hp; exact h.ext X
section
variable {C : Ctab} {F : Frame} {τ l : Heap}
end
theorem endKK {F : Frame} {σ S l : Heap} {rs : List SRes} {Q : Value → Heap → Prop} {v : Value} {q : Bool} {o : Out} (hp : Pre σ S) (ho : match o with | .exit _ => False | _ => True) (h : Q v σ) (h1 : resOf F (S ++ l) rs = some v) (h2 : gcTop σ.length v = some (v, [])) :
    atEnd rs (fun v0 σ0 => ∃ v ids σ', gcTop σ.length v0 = some (v, ids) ∧ Cleared σ σ0 ids σ' ∧ QuietTo q σ σ' ∧ Q v σ') o F (S ++ l) := by
  obtain ⟨X, rfl⟩ := hp
  rw [List.append_assoc] at h1 ⊢
  exact endS ho h h1 h2

end Go.Abs

