/- Laws of functions, some texts put together. Conditions: the laws of what they call. -/
import Derived.Test.YtdlicidmkakooaaExactTravelFieldL07
import Derived.Test.YtdlicidmkakooaaExactTravelFieldWvH3
import Derived.Test.YtdlicidmkakooaaExactTravelFieldL05
import Derived.Test.YtdlicidmkakooaaExactTravelFieldWvX2
import Derived.Test.YtdlicidmkakooaaExactTravelFieldL26
import Derived.Test.YtdlicidmkakooaaExactTravelFieldL08
namespace Go.Abs

set_option linter.unusedSimpArgs false
set_option linter.unusedVariables false
set_option maxHeartbeats 8000000


abbrev rowI (xs : List Int) : AObj := ⟨i64s xs, 1, true⟩
end Go.Abs


namespace Go.Abs
set_option linter.unusedSimpArgs false
set_option linter.unusedVariables false

section
variable {g : Nat → Nat} {xs : List Nat} {j : Nat}
end

section
variable {W H : Nat} {u v : Int}
end

section
variable {W H cx cy : Nat} {wr : Bool} {sp lo e x y : List Nat}
end
/-- A field. -/
structure Fld where
  e : List Nat
  x : List Nat
  y : List Nat
end Go.Abs


namespace Go.Abs

set_option linter.unusedSimpArgs false
set_option linter.unusedVariables false
set_option maxHeartbeats 8000000
set_option maxRecDepth 20000
section
variable {C : Ctab} {F : Frame} {τ l : Heap}
end

/-- Three rows of one length and a variable that tells of them. -/
structure HB (σ : Heap) (a b d p N : Nat) : Prop where
  ab : a ≠ b
  ad : a ≠ d
  bd : b ≠ d
  a0 : ∃ s, σ[a]? = some (rowO s)
  b0 : ∃ s, σ[b]? = some (rowO s)
  d0 : ∃ s, σ[d]? = some (rowO s)
  p0 : ∃ r, σ[p]? = some ⟨[slV a N, slV b N, slV d N], 0, r⟩
/-- What is to be known of such a heap. -/
structure HS (τ : Heap) (a b d p N : Nat) (e x y : List Nat) : Prop where
  pt : PtAt τ p 0 [slV a N, slV b N, slV d N]
  a_ : τ[a]? = some (rowO e)
  b_ : τ[b]? = some (rowO x)
  d_ : τ[d]? = some (rowO y)
  ra : Row τ 1 (slV a N) N (f32s e)
  rb : Row τ 1 (slV b N) N (f32s x)
  rd : Row τ 1 (slV d N) N (f32s y)
theorem HB.at_ {σ : Heap} {a b d p N : Nat} (h : HB σ a b d p N) {e x y : List Nat} (he : e.length = N) (hx : x.length = N) (hy : y.length = N) :
    ∃ τ, τ = PH σ a b d (rowO e) (rowO x) (rowO y) ∧ σ.length = τ.length ∧ HS τ a b d p N e x y := by
  obtain ⟨s1, h1⟩ := h.a0
  obtain ⟨s2, h2⟩ := h.b0
  obtain ⟨s3, h3⟩ := h.d0
  obtain ⟨r, h4⟩ := h.p0
  have l1 : a < σ.length := (List.getElem?_eq_some_iff.1 h1).1
  have l2 : b < σ.length := (List.getElem?_eq_some_iff.1 h2).1
  have l3 : d < σ.length := (List.getElem?_eq_some_iff.1 h3).1
  have ga : (PH σ a b d (rowO e) (rowO x) (rowO y))[a]? = some (rowO e) := PH_a h.ab h.ad l1
  have gb : (PH σ a b d (rowO e) (rowO x) (rowO y))[b]? = some (rowO x) := PH_b h.bd l2
  have gd : (PH σ a b d (rowO e) (rowO x) (rowO y))[d]? = some (rowO y) := PH_c l3
  refine ⟨_, rfl, PH_len.symm, PtAt.whole (r := r) (PH_pt ⟨_, h1⟩ ⟨_, h2⟩ ⟨_, h3⟩ h4), ga, gb, gd, ?_, ?_, ?_⟩
  · subst he; exact Row.whole ga (by omega) (by rw [f32s_length]; omega)
  · subst hx; exact Row.whole gb (by omega) (by rw [f32s_length]; omega)
  · subst hy; exact Row.whole gd (by omega) (by rw [f32s_length]; omega)
end Go.Abs

