/- Plain law: the films of fields that run; films without a row of fields. Conditions: as at each theorem. -/
import Derived.Test.YtaacdckenhnocaaExactLoadSheetL72
namespace Go.Abs
set_option linter.unusedSimpArgs false
set_option linter.unusedVariables false

/-- A film of a new sheet that has no row of fields. -/
structure FilmN (H : Heap) (lo s l : Nat) (sp ls : List Nat) : Prop where
  inv : RInv H lo [(s, sp), (l, ls)]
section
variable {H : Heap} {lo s l : Nat} {sp ls : List Nat}
theorem FilmN.sheet (h : FilmN H lo s l sp ls) : ShR H (slV s sp.length) (slV l ls.length) sp ls :=
  ⟨Row.whole (h.inv.own (s, sp) (by simp)) (by omega) (by rw [f32s_length]; omega), Row.whole (h.inv.own (l, ls) (by simp)) (by omega) (by rw [f32s_length]; omega)⟩
theorem FilmN.ext (h : FilmN H lo s l sp ls) (t : Heap) : FilmN (H ++ t) lo s l sp ls := ⟨h.inv.ext t⟩
theorem FilmN.pre {S : Heap} (hp : Pre H S) (h : FilmN H lo s l sp ls) : FilmN S lo s l sp ls := by obtain ⟨X, rfl⟩ := hp; exact h.ext X
end
end Go.Abs

