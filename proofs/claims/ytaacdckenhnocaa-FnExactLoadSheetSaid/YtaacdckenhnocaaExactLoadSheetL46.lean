/- Laws of single functions: the source of draws. Conditions: the laws of what they call. -/
import Derived.Test.YtaacdckenhnocaaExactLoadSheetL40
import Derived.Test.YtaacdckenhnocaaExactLoadSheetL26
namespace Go.Abs

set_option linter.unusedSimpArgs false
set_option linter.unusedVariables false
set_option maxHeartbeats 8000000
set_option maxRecDepth 20000
/-- A source of draws: its bytes, its place, its seed. -/
abbrev srcO (cv : Value) (p : Int) (d : Int) : AObj := ⟨[cv, .int .i64 p, .int .u64 d], 0, true⟩
section
variable {C : Ctab} {F : Frame} {τ l : Heap}
end


section
variable {C : Ctab} {F : Frame} {τ l : Heap}
end
/-- A source at a place of the heap. -/
structure Src (σ : Heap) (b : Nat) (cv : Value) (code : List UInt8) (p d : Int) : Prop where
  at_ : σ[b]? = some (srcO cv p d)
  row : Row σ 1 cv code.length (b8s code)
theorem Src.lt {σ : Heap} {b : Nat} {cv : Value} {code : List UInt8} {p d : Int} (h : Src σ b cv code p d) : b < σ.length := (List.getElem?_eq_some_iff.1 h.at_).1
theorem Src.ext {σ : Heap} {b : Nat} {cv : Value} {code : List UInt8} {p d : Int} (h : Src σ b cv code p d) (l : Heap) : Src (σ ++ l) b cv code p d :=
  ⟨by rw [List.getElem?_append_left h.lt]; exact h.at_, h.row.ext l⟩
end Go.Abs

