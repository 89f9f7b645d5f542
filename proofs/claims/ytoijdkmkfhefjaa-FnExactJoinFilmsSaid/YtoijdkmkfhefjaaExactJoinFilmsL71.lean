/- Laws of functions: a film gets one field more, by the program and by the reference. Conditions: the laws of what they call. -/
import Derived.Test.YtoijdkmkfhefjaaExactJoinFilmsL69
namespace Go.Abs

set_option linter.unusedSimpArgs false
set_option linter.unusedVariables false
set_option maxHeartbeats 8000000
set_option maxRecDepth 20000
/-- Fields are put behind fields. -/
theorem FlsO.more {H H' : Heap} {lo lo2 b : Nat} {R R2 : Rws} {fs fs2 : List Fld} (h : FlsO H lo b R fs) (h2 : RInv H lo2 R2) (hR : ∀ p ∈ R, p.1 < lo2) (hb : b ∉ R2.map Prod.fst) (hlo : lo ≤ lo2) (con2 : R2.map Prod.snd = rowsOf fs2)
    (hrow : H'[b]? = some ⟨(R ++ R2).map slOf, 3, true⟩) (hk : ∀ o, o ≠ b → o < H.length → H'[o]? = H[o]?) : FlsO H' lo b (R ++ R2) (fs ++ fs2) := by
  refine ⟨hrow, ⟨fun p hp => ?_, fun p hp => ?_, ?_⟩, by rw [List.map_append, h.con, con2, rowsOf_append], h.bl, fun hc => ?_⟩
  · rcases List.mem_append.1 hp with hp | hp
    · rw [hk p.1 (fun hc => h.bn (by rw [← hc]; exact List.mem_map_of_mem hp)) (h.inv.lt hp)]; exact h.inv.own p hp
    · rw [hk p.1 (fun hc => hb (by rw [← hc]; exact List.mem_map_of_mem hp)) (h2.lt hp)]; exact h2.own p hp
  · rcases List.mem_append.1 hp with hp | hp
    · exact h.inv.low p hp
    · exact Nat.le_trans hlo (h2.low p hp)
  · rw [List.map_append, List.nodup_append]
    refine ⟨h.inv.nod, h2.nod, fun x hx y hy hxy => ?_⟩
    obtain ⟨p, hp, rfl⟩ := List.mem_map.1 hx
    obtain ⟨q, hq, rfl⟩ := List.mem_map.1 hy
    have := hR p hp
    have := h2.low q hq
    omega
  · rw [List.map_append, List.mem_append] at hc
    rcases hc with hc | hc
    · exact h.bn hc
    · exact hb hc
theorem isFilm_len {w h : Int} {wr : Bool} {sp lo : List Nat} {fs : List Fld} (h : isFilm w h wr sp lo fs = true) : fs.length ≤ 16 := by
  unfold isFilm at h
  simp only [Bool.and_eq_true, decide_eq_true_eq] at h
  exact h.1.2
theorem isFilm_sheet {w h : Int} {wr : Bool} {sp lo : List Nat} {fs : List Fld} (h' : isFilm w h wr sp lo fs = true) : isSheet w h sp lo = true := by
  unfold isFilm at h'
  simp only [Bool.and_eq_true] at h'
  exact h'.1.1
def impl_validFilm_ok (c : Contract) : Prop := ∀ (σ : Heap) (w h : Int) (wr : Bool) (sv lv fv : Value) (sp lo : List Nat) (fs : List Fld), ShR σ sv lv sp lo → FlsR σ fv fs → sp.length ≤ 1048576 → lo.length ≤ 1048576 → fitsF fs →
    Ret c [fmV w h wr sv lv fv] σ fun v σ' => ∃ τ, σ' = σ ++ τ ∧ v = if isFilm w h wr sp lo fs = true then .tuple #[fmV w h wr sv lv fv, .bool true] else .tuple #[noFilm, .bool false]
theorem impl_validFilm_law {C : Ctab} {i1 : FuncId} {c1 : Contract} (h1 : Has C i1 c1 impl_ValidFilm_ok) : impl_validFilm_ok (bodyC C (impl_validFilm i1) true) := by
  intro σ w h wr sv lv fv sp lo fs ⟨r1, r2⟩ hf n1 n2 hfit
  have k1 := r1.ok
  have k2 := r2.ok
  have k3 := hf.ok
  have hV := fun τ => h1.ok (σ ++ τ) w h wr sv lv fv sp lo fs ⟨r1.ext _, r2.ext _⟩ (hf.ext _) n1 n2 hfit
  cases hI : isFilm w h wr sp lo fs
  · refine ret_bd rfl rfl ?_
    repeat' (first | refine ff ?_ | ((first | refine EvR.aSplB ?_ ?_ | refine Ev.aSplB ?_ ?_) <;> (intro hb; (try rw [hb]); (try simp only [Bool.not_eq_true', Bool.not_eq_false', Bool.not_eq_eq_eq_not, Bool.not_true, Bool.not_false, decide_eq_true_eq, decide_eq_false_iff_not, Bool.and_eq_true, Bool.and_eq_false_iff, Bool.or_eq_true, Bool.or_eq_false_iff] at hb); (try (exfalso; first | omega | exact hb trivial)))) | (apply endS trivial; rotate_left; (· exact eva); (· rfl); try refine ⟨?_, rfl⟩) | fail)
    (apply EvR.aCall h1.at_; (· exact eva); (· exact  hV _); (rintro _ _ ⟨rfl, rfl⟩; refine EvR.nrm ?_))
    rw [hI]
    repeat' (first | refine ff ?_ | ((first | refine EvR.aSplB ?_ ?_ | refine Ev.aSplB ?_ ?_) <;> (intro hb; (try rw [hb]); (try simp only [Bool.not_eq_true', Bool.not_eq_false', Bool.not_eq_eq_eq_not, Bool.not_true, Bool.not_false, decide_eq_true_eq, decide_eq_false_iff_not, Bool.and_eq_true, Bool.and_eq_false_iff, Bool.or_eq_true, Bool.or_eq_false_iff] at hb); (try (exfalso; first | omega | exact hb trivial)))) | (apply endS trivial; rotate_left; (· exact eva); (· rfl); try refine ⟨?_, rfl⟩) | fail)
    apply endB trivial
    · exact eva
    · exact ⟨_, rfl, rfl⟩
  · refine ret_bd rfl rfl ?_
    repeat' (first | refine ff ?_ | ((first | refine EvR.aSplB ?_ ?_ | refine Ev.aSplB ?_ ?_) <;> (intro hb; (try rw [hb]); (try simp only [Bool.not_eq_true', Bool.not_eq_false', Bool.not_eq_eq_eq_not, Bool.not_true, Bool.not_false, decide_eq_true_eq, decide_eq_false_iff_not, Bool.and_eq_true, Bool.and_eq_false_iff, Bool.or_eq_true, Bool.or_eq_false_iff] at hb); (try (exfalso; first | omega | exact hb trivial)))) | (apply endS trivial; rotate_left; (· exact eva); (· rfl); try refine ⟨?_, rfl⟩) | fail)
    (apply EvR.aCall h1.at_; (· exact eva); (· exact  hV _); (rintro _ _ ⟨rfl, rfl⟩; refine EvR.nrm ?_))
    rw [hI]
    repeat' (first | refine ff ?_ | ((first | refine EvR.aSplB ?_ ?_ | refine Ev.aSplB ?_ ?_) <;> (intro hb; (try rw [hb]); (try simp only [Bool.not_eq_true', Bool.not_eq_false', Bool.not_eq_eq_eq_not, Bool.not_true, Bool.not_false, decide_eq_true_eq, decide_eq_false_iff_not, Bool.and_eq_true, Bool.and_eq_false_iff, Bool.or_eq_true, Bool.or_eq_false_iff] at hb); (try (exfalso; first | omega | exact hb trivial)))) | (apply endS trivial; rotate_left; (· exact eva); (· rfl); try refine ⟨?_, rfl⟩) | fail)
    apply endB trivial
    · exact eva
    · exact ⟨_, rfl, rfl⟩

/-- Fields are put behind those of a film. -/
theorem FilmO.more {H H2 H' : Heap} {lo lo2 s l b : Nat} {R R2 : Rws} {sp ls : List Nat} {fs fs2 : List Fld} (h : FilmO H lo s l b R sp ls fs) (h2 : RInv H2 lo2 R2) (hl : H.length ≤ lo2) (con2 : R2.map Prod.snd = rowsOf fs2)
    (hrow : H'[b]? = some ⟨(R ++ R2).map slOf, 3, true⟩) (hk1 : ∀ o, lo ≤ o → o < H.length → o ≠ b → H'[o]? = H[o]?) (hk2 : ∀ o, lo2 ≤ o → o < H2.length → H'[o]? = H2[o]?) : FilmO H' lo s l b (R ++ R2) sp ls (fs ++ fs2) := by
  have hbl := (List.getElem?_eq_some_iff.1 h.row).1
  have hb0 := h.bl
  have hb2 : b ∉ R2.map Prod.fst := fun hc => by
    obtain ⟨p, hp, rfl⟩ := List.mem_map.1 hc
    have := h2.low p hp
    omega
  have hin : ∀ p ∈ (s, sp) :: (l, ls) :: R, p.1 ∈ s :: l :: R.map Prod.fst := fun p hp => by
    have := List.mem_map_of_mem (f := Prod.fst) hp
    simpa using this
  refine ⟨hrow, ⟨fun p hp => ?_, fun p hp => ?_, ?_⟩, by rw [List.map_append, h.con, con2, rowsOf_append], h.bl, fun hc => ?_⟩
  · rw [← List.cons_append, ← List.cons_append] at hp
    rcases List.mem_append.1 hp with hp | hp
    · rw [hk1 p.1 (h.inv.low p hp) (h.inv.lt hp) (fun hc => h.bn (by rw [← hc]; exact hin p hp))]; exact h.inv.own p hp
    · rw [hk2 p.1 (h2.low p hp) (h2.lt hp)]; exact h2.own p hp
  · rw [← List.cons_append, ← List.cons_append] at hp
    rcases List.mem_append.1 hp with hp | hp
    · exact h.inv.low p hp
    · have := h2.low p hp; omega
  · rw [← List.cons_append, ← List.cons_append, List.map_append, List.nodup_append]
    refine ⟨h.inv.nod, h2.nod, fun x hx y hy hxy => ?_⟩
    obtain ⟨p, hp, rfl⟩ := List.mem_map.1 hx
    obtain ⟨q, hq, rfl⟩ := List.mem_map.1 hy
    have := h.inv.lt hp
    have := h2.low q hq
    omega
  · rw [List.map_append, ← List.cons_append, ← List.cons_append, List.mem_append] at hc
    rcases hc with hc | hc
    · exact h.bn hc
    · exact hb2 hc

end Go.Abs

