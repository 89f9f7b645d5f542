/- Laws of functions, some texts put together. Conditions: the laws of what they call. -/
import Derived.Test.YtdlicidmkakooaaOutlinedL71
import Derived.Test.YtdlicidmkakooaaOutlinedL53
import Derived.Test.YtdlicidmkakooaaOutlinedL57
namespace Go.Abs
set_option linter.unusedSimpArgs false
set_option linter.unusedVariables false

/-- A film of a new sheet that has no row of fields. -/
structure FilmN (H : Heap) (lo s l : Nat) (sp ls : List Nat) : Prop where
  inv : RInv H lo [(s, sp), (l, ls)]
section
variable {H : Heap} {lo s l : Nat} {sp ls : List Nat}
theorem FilmN.sheet (h : FilmN H lo s l sp ls) : ShR H (slV s sp.length) (slV l ls.length) sp ls :=
  ⟨Row.whole (h.inv.own (s, sp) (by simp)) (by omega) (by rw [f32s_length]; omega), Row.whole (h.inv.own (l, ls) (by simp)) (by omega) (by rw [f32s_length]; omega)⟩
theorem FilmN.ext (h : FilmN H lo s l sp ls) (t : Heap) : FilmN (H ++ t) lo s l sp ls := ⟨h.inv.ext t⟩
theorem FilmN.pre {S : Heap} (hp : Pre H S) (h : FilmN H lo s l sp ls) : FilmN S lo s l sp ls := by obtain ⟨X, rfl⟩ := hp; exact h.ext X
theorem FilmN.keep {H' : Heap} (h : FilmN H lo s l sp ls) (hk : ∀ o, lo ≤ o → o < H.length → H'[o]? = H[o]?) : FilmN H' lo s l sp ls := ⟨h.inv.keep hk⟩
end
end Go.Abs


namespace Go.Abs

set_option linter.unusedSimpArgs false
set_option linter.unusedVariables false
set_option maxHeartbeats 8000000
set_option maxRecDepth 20000
theorem RInv.setOut {H H' : Heap} {lo b : Nat} {R : Rws} (h : RInv H lo R) (hb : b ∉ R.map Prod.fst) (hk : ∀ o, o ≠ b → o < H.length → H'[o]? = H[o]?) : RInv H' lo R :=
  ⟨fun p hp => by rw [hk p.1 (fun hc => hb (by rw [← hc]; exact List.mem_map_of_mem hp)) (h.lt hp)]; exact h.own p hp, h.low, h.nod⟩
end Go.Abs

