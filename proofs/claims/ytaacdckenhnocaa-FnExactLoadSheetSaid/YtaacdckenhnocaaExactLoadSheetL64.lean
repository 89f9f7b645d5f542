/- Laws of functions: films that are copied, compared, marked and held. Conditions: the laws of what they call. -/
import Derived.Test.YtaacdckenhnocaaExactLoadSheetL63
import Derived.Test.YtaacdckenhnocaaExactLoadSheetL12
namespace Go.Abs

set_option linter.unusedSimpArgs false
set_option linter.unusedVariables false
set_option maxHeartbeats 8000000
set_option maxRecDepth 20000
/-- A film whose rows are owned. -/
structure FilmO (H : Heap) (lo s l b : Nat) (R : Rws) (sp ls : List Nat) (fs : List Fld) : Prop where
  row : H[b]? = some ⟨R.map slOf, 3, true⟩
  inv : RInv H lo ((s, sp) :: (l, ls) :: R)
  con : R.map Prod.snd = rowsOf fs
  bl : lo ≤ b
  bn : b ∉ s :: l :: R.map Prod.fst
section
variable {H : Heap} {lo s l b : Nat} {R : Rws} {sp ls : List Nat} {fs : List Fld}
theorem FilmO.sheet (h : FilmO H lo s l b R sp ls fs) : ShR H (slV s sp.length) (slV l ls.length) sp ls :=
  ⟨Row.whole (h.inv.own (s, sp) (by simp)) (by omega) (by rw [f32s_length]; omega), Row.whole (h.inv.own (l, ls) (by simp)) (by omega) (by rw [f32s_length]; omega)⟩
theorem FilmO.ext (h : FilmO H lo s l b R sp ls fs) (t : Heap) : FilmO (H ++ t) lo s l b R sp ls fs :=
  ⟨by rw [List.getElem?_append_left (List.getElem?_eq_some_iff.1 h.row).1]; exact h.row, h.inv.ext t, h.con, h.bl, h.bn⟩
end
end Go.Abs

