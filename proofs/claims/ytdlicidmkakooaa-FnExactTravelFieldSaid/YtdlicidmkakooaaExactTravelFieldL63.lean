/- Laws of functions, some texts put together. Conditions: the laws of what they call. -/
import Derived.Test.YtdlicidmkakooaaExactTravelFieldL61
import Derived.Test.YtdlicidmkakooaaExactTravelFieldL07
import Derived.Test.YtdlicidmkakooaaExactTravelFieldL05
namespace Go.Abs

set_option linter.unusedSimpArgs false
set_option linter.unusedVariables false
set_option maxHeartbeats 8000000
set_option maxRecDepth 20000


def markH : Heap → Int → Rws → Heap
  | σ, _, [] => σ
  | σ, k, p :: R => markH (σ.set p.1 (rowO (marks k p.2.length))) (k + p.2.length) R
def markR : Int → Rws → Rws
  | _, [] => []
  | k, p :: R => (p.1, marks k p.2.length) :: markR (k + p.2.length) R
theorem markH_len : ∀ (R : Rws) (σ : Heap) (k : Int), (markH σ k R).length = σ.length
  | [], σ, k => rfl
  | p :: R, σ, k => by unfold markH; rw [markH_len R, List.length_set]
theorem markH_out : ∀ {R : Rws} {σ : Heap} {k : Int} {o : Nat}, o ∉ R.map Prod.fst → (markH σ k R)[o]? = σ[o]?
  | [], σ, k, o, _ => rfl
  | p :: R, σ, k, o, h => by
    simp only [List.map_cons, List.mem_cons, not_or] at h
    unfold markH
    rw [markH_out h.2, List.getElem?_set_ne (Ne.symm h.1)]
theorem markR_fst : ∀ (R : Rws) (k : Int), (markR k R).map Prod.fst = R.map Prod.fst
  | [], k => rfl
  | p :: R, k => by unfold markR; simp only [List.map_cons, markR_fst R]
theorem markH_in : ∀ {R : Rws} {σ : Heap} {k : Int}, (∀ p ∈ R, p.1 < σ.length) → (R.map Prod.fst).Nodup → ∀ p ∈ markR k R, (markH σ k R)[p.1]? = some (rowO p.2)
  | [], σ, k, _, _, p, hp => by simp [markR] at hp
  | q :: R, σ, k, hl, hn, p, hp => by
    simp only [List.map_cons, List.nodup_cons] at hn
    unfold markR at hp
    unfold markH
    rcases List.mem_cons.1 hp with rfl | hp
    · rw [markH_out hn.1, List.getElem?_set_self (hl q (by simp))]
    · exact markH_in (fun r hr => by rw [List.length_set]; exact hl r (by simp [hr])) hn.2 p hp
/-- What marks leave behind is owned as before. -/
theorem RInv.mark {H : Heap} {lo : Nat} {R : Rws} (h : RInv H lo R) (k : Int) : RInv (markH H k R) lo (markR k R) := by
  have hf := markR_fst R k
  refine ⟨markH_in (fun p hp => h.lt hp) h.nod, fun p hp => ?_, by rw [hf]; exact h.nod⟩
  have : p.1 ∈ R.map Prod.fst := by rw [← hf]; exact List.mem_map_of_mem hp
  obtain ⟨q, hq, he⟩ := List.mem_map.1 this
  rw [← he]; exact h.low q hq
/-- Marks elsewhere. -/
theorem RInv.other {H : Heap} {lo : Nat} {R S : Rws} (h : RInv H lo R) (hd : ∀ p ∈ R, p.1 ∉ S.map Prod.fst) (k : Int) : RInv (markH H k S) lo R :=
  ⟨fun p hp => by rw [markH_out (hd p hp)]; exact h.own p hp, h.low, h.nod⟩

section
variable {C : Ctab} {F : Frame} {τ l : Heap}
end

end Go.Abs


namespace Go.Abs

set_option linter.unusedSimpArgs false
set_option linter.unusedVariables false
set_option maxHeartbeats 8000000
set_option maxRecDepth 20000


/-- A film whose rows are owned. -/
structure FilmO (H : Heap) (lo s l b : Nat) (R : Rws) (sp ls : List Nat) (fs : List Fld) : Prop where
  row : H[b]? = some ⟨R.map slOf, 3, true⟩
  inv : RInv H lo ((s, sp) :: (l, ls) :: R)
  con : R.map Prod.snd = rowsOf fs
  bl : lo ≤ b
  bn : b ∉ s :: l :: R.map Prod.fst
section
variable {H : Heap} {lo s l b : Nat} {R : Rws} {sp ls : List Nat} {fs : List Fld}
theorem FilmO.tail (h : FilmO H lo s l b R sp ls fs) : RInv H lo R := ⟨fun p hp => h.inv.own p (by simp [hp]), fun p hp => h.inv.low p (by simp [hp]), by
  have := h.inv.nod
  simp only [List.map_cons, List.nodup_cons] at this
  exact this.2.2⟩
theorem FilmO.sheet (h : FilmO H lo s l b R sp ls fs) : ShR H (slV s sp.length) (slV l ls.length) sp ls :=
  ⟨Row.whole (h.inv.own (s, sp) (by simp)) (by omega) (by rw [f32s_length]; omega), Row.whole (h.inv.own (l, ls) (by simp)) (by omega) (by rw [f32s_length]; omega)⟩
theorem FilmO.ext (h : FilmO H lo s l b R sp ls fs) (t : Heap) : FilmO (H ++ t) lo s l b R sp ls fs :=
  ⟨by rw [List.getElem?_append_left (List.getElem?_eq_some_iff.1 h.row).1]; exact h.row, h.inv.ext t, h.con, h.bl, h.bn⟩
theorem FilmO.keep {H' : Heap} (h : FilmO H lo s l b R sp ls fs) (hk : ∀ o, lo ≤ o → o < H.length → H'[o]? = H[o]?) : FilmO H' lo s l b R sp ls fs :=
  ⟨by rw [hk _ h.bl (List.getElem?_eq_some_iff.1 h.row).1]; exact h.row, h.inv.keep hk, h.con, h.bl, h.bn⟩
end
theorem FlsO.keep {H H' : Heap} {lo b : Nat} {R : Rws} {fs : List Fld} (h : FlsO H lo b R fs) (hk : ∀ o, lo ≤ o → o < H.length → H'[o]? = H[o]?) : FlsO H' lo b R fs :=
  ⟨by rw [hk _ h.bl (List.getElem?_eq_some_iff.1 h.row).1]; exact h.row, h.inv.keep hk, h.con, h.bl, h.bn⟩
end Go.Abs

