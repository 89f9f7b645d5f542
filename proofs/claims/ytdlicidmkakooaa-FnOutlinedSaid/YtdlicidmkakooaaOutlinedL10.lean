/- Laws of single functions: fields are read, copied and compared. Conditions: the laws of what they call. -/
import Derived.Test.YtdlicidmkakooaaOutlinedL05
namespace Go.Abs

set_option linter.unusedSimpArgs false
set_option linter.unusedVariables false
set_option maxHeartbeats 8000000
/-- The value of a field. -/
abbrev fV (ev xv yv : Value) : Value := .agg #[ev, xv, yv]
structure FlR (σ : Heap) (ev xv yv : Value) (e x y : List Nat) : Prop where
  e : Row σ 1 ev e.length (f32s e)
  x : Row σ 1 xv x.length (f32s x)
  y : Row σ 1 yv y.length (f32s y)
theorem FlR.ext {σ : Heap} {ev xv yv : Value} {e x y : List Nat} (h : FlR σ ev xv yv e x y) (τ : Heap) : FlR (σ ++ τ) ev xv yv e x y := ⟨h.e.ext τ, h.x.ext τ, h.y.ext τ⟩

end Go.Abs

