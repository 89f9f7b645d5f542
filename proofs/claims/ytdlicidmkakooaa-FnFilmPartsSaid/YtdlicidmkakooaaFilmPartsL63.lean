/- Laws of functions, some texts put together. Conditions: the laws of what they call. -/
import Derived.Test.YtdlicidmkakooaaFilmPartsL62
import Derived.Test.YtdlicidmkakooaaFilmPartsL07
import Derived.Test.YtdlicidmkakooaaFilmPartsL13
namespace Go.Abs

set_option linter.unusedSimpArgs false
set_option linter.unusedVariables false
set_option maxHeartbeats 8000000
set_option maxRecDepth 20000
def markH : Heap → Int → Rws → Heap
  | σ, _, [] => σ
  | σ, k, p :: R => markH (σ.set p.1 (rowO (marks k p.2.length))) (k + p.2.length) R
theorem markH_out : ∀ {R : Rws} {σ : Heap} {k : Int} {o : Nat}, o ∉ R.map Prod.fst → (markH σ k R)[o]? = σ[o]?
  | [], σ, k, o, _ => rfl
  | p :: R, σ, k, o, h => by
    simp only [List.map_cons, List.mem_cons, not_or] at h
    unfold markH
    rw [markH_out h.2, List.getElem?_set_ne (Ne.symm h.1)]
/-- Marks elsewhere. -/
theorem RInv.other {H : Heap} {lo : Nat} {R S : Rws} (h : RInv H lo R) (hd : ∀ p ∈ R, p.1 ∉ S.map Prod.fst) (k : Int) : RInv (markH H k S) lo R :=
  ⟨fun p hp => by rw [markH_out (hd p hp)]; exact h.own p hp, h.low, h.nod⟩

section
variable {C : Ctab} {F : Frame} {τ l : Heap}
end

end Go.Abs


namespace Go.Abs

set_option linter.unusedSimpArgs false
set_option linter.unusedVariables false
set_option maxHeartbeats 8000000
set_option maxRecDepth 20000
/-- The value of a film. -/
abbrev fmV (w h : Int) (wr : Bool) (sv lv fv : Value) : Value := .agg #[.int .i64 w, .int .i64 h, .bool wr, sv, lv, fv]
abbrev noFilm : Value := fmV 0 0 false (.slice none 0 0) (.slice none 0 0) (.slice none 0 0)
/-- A film whose rows are owned. -/
structure FilmO (H : Heap) (lo s l b : Nat) (R : Rws) (sp ls : List Nat) (fs : List Fld) : Prop where
  row : H[b]? = some ⟨R.map slOf, 3, true⟩
  inv : RInv H lo ((s, sp) :: (l, ls) :: R)
  con : R.map Prod.snd = rowsOf fs
  bl : lo ≤ b
  bn : b ∉ s :: l :: R.map Prod.fst
section
variable {H : Heap} {lo s l b : Nat} {R : Rws} {sp ls : List Nat} {fs : List Fld}
theorem FilmO.tail (h : FilmO H lo s l b R sp ls fs) : RInv H lo R := ⟨fun p hp => h.inv.own p (by simp [hp]), fun p hp => h.inv.low p (by simp [hp]), by
  have := h.inv.nod
  simp only [List.map_cons, List.nodup_cons] at this
  exact this.2.2⟩
theorem FilmO.flds (h : FilmO H lo s l b R sp ls fs) : FlsO H lo b R fs := ⟨h.row, h.tail, h.con, h.bl, fun hc => h.bn (by simp only [List.mem_cons]; exact .inr (.inr hc))⟩
theorem FilmO.sheet (h : FilmO H lo s l b R sp ls fs) : ShR H (slV s sp.length) (slV l ls.length) sp ls :=
  ⟨Row.whole (h.inv.own (s, sp) (by simp)) (by omega) (by rw [f32s_length]; omega), Row.whole (h.inv.own (l, ls) (by simp)) (by omega) (by rw [f32s_length]; omega)⟩
theorem FilmO.ext (h : FilmO H lo s l b R sp ls fs) (t : Heap) : FilmO (H ++ t) lo s l b R sp ls fs :=
  ⟨by rw [List.getElem?_append_left (List.getElem?_eq_some_iff.1 h.row).1]; exact h.row, h.inv.ext t, h.con, h.bl, h.bn⟩
theorem FilmO.keep {H' : Heap} (h : FilmO H lo s l b R sp ls fs) (hk : ∀ o, lo ≤ o → o < H.length → H'[o]? = H[o]?) : FilmO H' lo s l b R sp ls fs :=
  ⟨by rw [hk _ h.bl (List.getElem?_eq_some_iff.1 h.row).1]; exact h.row, h.inv.keep hk, h.con, h.bl, h.bn⟩
theorem FilmO.less {lo' : Nat} (h : FilmO H lo s l b R sp ls fs) (hl : lo' ≤ lo) : FilmO H lo' s l b R sp ls fs := ⟨h.row, h.inv.less hl, h.con, Nat.le_trans hl h.bl, h.bn⟩
end
theorem FlsO.keep {H H' : Heap} {lo b : Nat} {R : Rws} {fs : List Fld} (h : FlsO H lo b R fs) (hk : ∀ o, lo ≤ o → o < H.length → H'[o]? = H[o]?) : FlsO H' lo b R fs :=
  ⟨by rw [hk _ h.bl (List.getElem?_eq_some_iff.1 h.row).1]; exact h.row, h.inv.keep hk, h.con, h.bl, h.bn⟩
/-- Two rows and fields, all new. -/
theorem filmO_of {H : Heap} {lo lo2 s l b : Nat} {R : Rws} {sp ls : List Nat} {fs : List Fld} (h : FlsO H lo2 b R fs) (hs : H[s]? = some (rowO sp)) (hl : H[l]? = some (rowO ls)) (h1 : lo ≤ s) (h2 : s < l) (h3 : l < lo2) : FilmO H lo s l b R sp ls fs := by
  have hlow : ∀ x ∈ R.map Prod.fst, lo2 ≤ x := fun x hx => by
    obtain ⟨p, hp, rfl⟩ := List.mem_map.1 hx
    exact h.inv.low p hp
  refine ⟨h.row, ⟨fun p hp => ?_, fun p hp => ?_, ?_⟩, h.con, Nat.le_trans (by omega) h.bl, fun hc => ?_⟩
  · simp only [List.mem_cons] at hp
    rcases hp with rfl | rfl | hp
    · exact hs
    · exact hl
    · exact h.inv.own p hp
  · simp only [List.mem_cons] at hp
    rcases hp with rfl | rfl | hp
    · exact h1
    · dsimp only; omega
    · have := h.inv.low p hp; omega
  · simp only [List.map_cons, List.nodup_cons, List.mem_cons, not_or]
    exact ⟨⟨by omega, fun hc => by have := hlow _ hc; omega⟩, fun hc => by have := hlow _ hc; omega, h.inv.nod⟩
  · have hb := h.bl
    simp only [List.mem_cons] at hc
    rcases hc with rfl | rfl | hc
    · omega
    · omega
    · exact h.bn hc

end Go.Abs

