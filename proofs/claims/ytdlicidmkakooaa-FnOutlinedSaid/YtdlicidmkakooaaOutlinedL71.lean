/- Laws of functions, some texts put together. Conditions: the laws of what they call. -/
import Derived.Test.YtdlicidmkakooaaOutlinedL57
import Derived.Test.YtdlicidmkakooaaOutlinedL27
import Derived.Test.YtdlicidmkakooaaOutlinedL16
namespace Go.Abs

set_option linter.unusedSimpArgs false
set_option linter.unusedVariables false
set_option maxHeartbeats 8000000
set_option maxRecDepth 20000
/-- Fields are put behind fields. -/
theorem FlsO.more {H H' : Heap} {lo lo2 b : Nat} {R R2 : Rws} {fs fs2 : List Fld} (h : FlsO H lo b R fs) (h2 : RInv H lo2 R2) (hR : ∀ p ∈ R, p.1 < lo2) (hb : b ∉ R2.map Prod.fst) (hlo : lo ≤ lo2) (con2 : R2.map Prod.snd = rowsOf fs2)
    (hrow : H'[b]? = some ⟨(R ++ R2).map slOf, 3, true⟩) (hk : ∀ o, o ≠ b → o < H.length → H'[o]? = H[o]?) : FlsO H' lo b (R ++ R2) (fs ++ fs2) := by
  refine ⟨hrow, ⟨fun p hp => ?_, fun p hp => ?_, ?_⟩, by rw [List.map_append, h.con, con2, rowsOf_append], h.bl, fun hc => ?_⟩
  · rcases List.mem_append.1 hp with hp | hp
    · rw [hk p.1 (fun hc => h.bn (by rw [← hc]; exact List.mem_map_of_mem hp)) (h.inv.lt hp)]; exact h.inv.own p hp
    · rw [hk p.1 (fun hc => hb (by rw [← hc]; exact List.mem_map_of_mem hp)) (h2.lt hp)]; exact h2.own p hp
  · rcases List.mem_append.1 hp with hp | hp
    · exact h.inv.low p hp
    · exact Nat.le_trans hlo (h2.low p hp)
  · rw [List.map_append, List.nodup_append]
    refine ⟨h.inv.nod, h2.nod, fun x hx y hy hxy => ?_⟩
    obtain ⟨p, hp, rfl⟩ := List.mem_map.1 hx
    obtain ⟨q, hq, rfl⟩ := List.mem_map.1 hy
    have := hR p hp
    have := h2.low q hq
    omega
  · rw [List.map_append, List.mem_append] at hc
    rcases hc with hc | hc
    · exact h.bn hc
    · exact hb hc
/-- Fields are put behind those of a film. -/
theorem FilmO.more {H H2 H' : Heap} {lo lo2 s l b : Nat} {R R2 : Rws} {sp ls : List Nat} {fs fs2 : List Fld} (h : FilmO H lo s l b R sp ls fs) (h2 : RInv H2 lo2 R2) (hl : H.length ≤ lo2) (con2 : R2.map Prod.snd = rowsOf fs2)
    (hrow : H'[b]? = some ⟨(R ++ R2).map slOf, 3, true⟩) (hk1 : ∀ o, lo ≤ o → o < H.length → o ≠ b → H'[o]? = H[o]?) (hk2 : ∀ o, lo2 ≤ o → o < H2.length → H'[o]? = H2[o]?) : FilmO H' lo s l b (R ++ R2) sp ls (fs ++ fs2) := by
  have hbl := (List.getElem?_eq_some_iff.1 h.row).1
  have hb0 := h.bl
  have hb2 : b ∉ R2.map Prod.fst := fun hc => by
    obtain ⟨p, hp, rfl⟩ := List.mem_map.1 hc
    have := h2.low p hp
    omega
  have hin : ∀ p ∈ (s, sp) :: (l, ls) :: R, p.1 ∈ s :: l :: R.map Prod.fst := fun p hp => by
    have := List.mem_map_of_mem (f := Prod.fst) hp
    simpa using this
  refine ⟨hrow, ⟨fun p hp => ?_, fun p hp => ?_, ?_⟩, by rw [List.map_append, h.con, con2, rowsOf_append], h.bl, fun hc => ?_⟩
  · rw [← List.cons_append, ← List.cons_append] at hp
    rcases List.mem_append.1 hp with hp | hp
    · rw [hk1 p.1 (h.inv.low p hp) (h.inv.lt hp) (fun hc => h.bn (by rw [← hc]; exact hin p hp))]; exact h.inv.own p hp
    · rw [hk2 p.1 (h2.low p hp) (h2.lt hp)]; exact h2.own p hp
  · rw [← List.cons_append, ← List.cons_append] at hp
    rcases List.mem_append.1 hp with hp | hp
    · exact h.inv.low p hp
    · have := h2.low p hp; omega
  · rw [← List.cons_append, ← List.cons_append, List.map_append, List.nodup_append]
    refine ⟨h.inv.nod, h2.nod, fun x hx y hy hxy => ?_⟩
    obtain ⟨p, hp, rfl⟩ := List.mem_map.1 hx
    obtain ⟨q, hq, rfl⟩ := List.mem_map.1 hy
    have := h.inv.lt hp
    have := h2.low q hq
    omega
  · rw [List.map_append, ← List.cons_append, ← List.cons_append, List.mem_append] at hc
    rcases hc with hc | hc
    · exact h.bn hc
    · exact hb2 hc

end Go.Abs


namespace Go.Abs
theorem FlR.pre {A S : Heap} (hp : Pre A S) {ev xv yv : Value} {e x y : List Nat} (h : FlR A ev xv yv e x y) : FlR S ev xv yv e x y := by obtain ⟨X, rfl⟩ := hp; exact h.ext X
theorem RInv.pre {A S : Heap} (hp : Pre A S) {lo : Nat} {R : Rws} (h : RInv A lo R) : RInv S lo R := by obtain ⟨X, rfl⟩ := hp; exact h.ext X
end Go.Abs


namespace Go.Abs

set_option linter.unusedSimpArgs false
set_option linter.unusedVariables false
set_option maxHeartbeats 8000000
set_option maxRecDepth 20000
section
variable {C : Ctab} {F : Frame} {τ l : Heap}
theorem EvR.heap {Q} {ops : List SOper} {H H' : Heap} (h : EvR C ops F H' Q) (e : H = H') : EvR C ops F H Q := by subst e; exact h
end
def in32 (xs : List Nat) : Prop := ∀ x ∈ xs, x < 4294967296
end Go.Abs

