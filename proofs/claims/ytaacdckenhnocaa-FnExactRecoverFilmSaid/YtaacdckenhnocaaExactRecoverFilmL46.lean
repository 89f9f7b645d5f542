/- Laws of single functions: the source of draws. Conditions: the laws of what they call. -/
import Derived.Test.YtaacdckenhnocaaExactRecoverFilmL40
import Derived.Test.YtaacdckenhnocaaExactRecoverFilmL26
namespace Go.Abs

set_option linter.unusedSimpArgs false
set_option linter.unusedVariables false
set_option maxHeartbeats 8000000
set_option maxRecDepth 20000
/-- A source of draws: its bytes, its place, its seed. -/
abbrev srcO (cv : Value) (p : Int) (d : Int) : AObj := ⟨[cv, .int .i64 p, .int .u64 d], 0, true⟩
section
variable {C : Ctab} {F : Frame} {τ l : Heap}
end


section
variable {C : Ctab} {F : Frame} {τ l : Heap}
end
/-- A source at a place of the heap. -/
structure Src (σ : Heap) (b : Nat) (cv : Value) (code : List UInt8) (p d : Int) : Prop where
  at_ : σ[b]? = some (srcO cv p d)
  row : Row σ 1 cv code.length (b8s code)
theorem Src.lt {σ : Heap} {b : Nat} {cv : Value} {code : List UInt8} {p d : Int} (h : Src σ b cv code p d) : b < σ.length := (List.getElem?_eq_some_iff.1 h.at_).1
theorem Src.ext {σ : Heap} {b : Nat} {cv : Value} {code : List UInt8} {p d : Int} (h : Src σ b cv code p d) (l : Heap) : Src (σ ++ l) b cv code p d :=
  ⟨by rw [List.getElem?_append_left h.lt]; exact h.at_, h.row.ext l⟩
theorem row_set {σ : Heap} {b n : Nat} {v : Value} {cs cells : List Value} {r : Bool} {X : AObj} (h : Row σ 1 v n cs) (hb : σ[b]? = some ⟨cells, 0, r⟩) : Row (σ.set b X) 1 v n cs := by
  unfold Row at h ⊢
  split at h
  · exact h
  · obtain ⟨h1, h2, obj, h3, h4⟩ := h
    refine ⟨h1, h2, obj, ?_, h4⟩
    obtain ⟨g1, g2, g3, g4⟩ := rowAt_spec h3
    refine rowAt_mk ?_ g2 g3 g4
    rw [List.getElem?_set_ne]
    · exact g1
    · rintro rfl
      rw [hb] at g1
      cases g1
      simp at g2
  · exact h.elim
theorem Src.step {σ : Heap} {b : Nat} {cv : Value} {code : List UInt8} {p d : Int} (h : Src σ b cv code p d) (p' d' : Int) : Src (σ.set b (srcO cv p' d')) b cv code p' d' :=
  ⟨List.getElem?_set_self h.lt, row_set h.row h.at_⟩
theorem Src.same {σ : Heap} {b : Nat} {cv : Value} {code : List UInt8} {p d : Int} (h : Src σ b cv code p d) : σ.set b (srcO cv p d) = σ := set_same h.at_

end Go.Abs

