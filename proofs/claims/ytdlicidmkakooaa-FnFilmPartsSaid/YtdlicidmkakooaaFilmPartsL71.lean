/- Laws of functions: a film gets one field more, by the program and by the reference. Conditions: the laws of what they call. -/
import Derived.Test.YtdlicidmkakooaaFilmPartsL69
namespace Go.Abs

set_option linter.unusedSimpArgs false
set_option linter.unusedVariables false
set_option maxHeartbeats 8000000
set_option maxRecDepth 20000
/- loop.example/g01201/impl.AddField -/
def impl_AddField_r0 : List SOper := [
  ⟨(some 2), none, .box (.tmp 0), 0⟩,
  ⟨(some 3), none, .box (.tmp 1), 0⟩,
  ⟨(some 4), none, .alloc [(.int .i64 0), (.int .i64 0), (.bool false), (.slice none 0 0), (.slice none 0 0), (.slice none 0 0)], 0⟩,
  ⟨(some 5), none, .mov (.const (.bool false)), 0⟩]
def impl_AddField_r1 (i_impl_ValidFilm : FuncId) : List SOper := [
  ⟨(some 6), none, .loadN 6 (.tmp 2), 0⟩,
  ⟨(some 7), none, .call (.func i_impl_ValidFilm) [(.tmp 6)], 1⟩,
  ⟨(some 8), none, .un .not (.tmp 7), 3⟩]
def impl_AddField_r2 : List SOper := [
  ⟨(some 9), none, .build [(.int .i64 0), (.int .i64 0), (.bool false), (.slice none 0 0), (.slice none 0 0), (.slice none 0 0)] [], 0⟩,
  ⟨none, none, .store 6 (.tmp 4) (.tmp 9), 1⟩,
  ⟨(some 5), none, .mov (.const (.bool false)), 3⟩]
def impl_AddField_r3 (i_impl_copySheet i_impl_copyFields i_impl_copyField i_impl_validFilm : FuncId) : List SOper := [
  ⟨(some 10), none, .fieldAddr 0 (.tmp 2), 0⟩,
  ⟨(some 11), none, .loadN 5 (.tmp 10), 1⟩,
  ⟨(some 12), none, .call (.func i_impl_copySheet) [(.tmp 11)], 3⟩,
  ⟨(some 13), none, .fieldAddr 5 (.tmp 2), 0⟩,
  ⟨(some 14), none, .load1 (.tmp 13), 8⟩,
  ⟨(some 15), none, .call (.func i_impl_copyFields) [(.tmp 14)], 31⟩,
  ⟨(some 16), none, .loadN 3 (.tmp 3), 0⟩,
  ⟨(some 17), none, .call (.func i_impl_copyField) [(.tmp 16)], 127⟩,
  ⟨(some 18), none, .buildSlice 3 1 [(.slice none 0 0), (.slice none 0 0), (.slice none 0 0)] [(0, 3, (.tmp 17))], 255⟩,
  ⟨(some 19), none, .append 3 72 (.tmp 15) (.tmp 18), 511⟩,
  ⟨(some 20), none, .build [(.int .i64 0), (.int .i64 0), (.bool false), (.slice none 0 0), (.slice none 0 0), (.slice none 0 0)] [(0, 5, (.tmp 12)), (5, 1, (.tmp 19))], 1023⟩,
  ⟨(some 21), none, .call (.func i_impl_validFilm) [(.tmp 20)], 2047⟩,
  ⟨(some 22), none, .extract (.tmp 21) 0, 4095⟩,
  ⟨(some 23), none, .extract (.tmp 21) 1, 4095⟩,
  ⟨none, none, .store 6 (.tmp 4) (.tmp 22), 16383⟩,
  ⟨(some 5), none, .mov (.tmp 23), 32767⟩]
def impl_AddField (i_impl_ValidFilm i_impl_copySheet i_impl_copyFields i_impl_copyField i_impl_validFilm : FuncId) : SFunc := ⟨24, [.cellN 4 6, .tmp 5], (.kp [0, 1] (.seq (.region impl_AddField_r0 false) (.kp [2, 3, 4] (.seq (.seq (.region (impl_AddField_r1 i_impl_ValidFilm) false) (.kp [2, 3, 4, 8] (.cond (.tmp 8) (.seq (.region impl_AddField_r2 false) .ret) .skip))) (.kp [2, 3, 4] (.seq (.region (impl_AddField_r3 i_impl_copySheet i_impl_copyFields i_impl_copyField i_impl_validFilm) true) .ret))))))⟩
theorem impl_AddField_r3_dr {i_impl_copySheet i_impl_copyFields i_impl_copyField i_impl_validFilm : FuncId} : drawOkW wStat (impl_AddField_r3 i_impl_copySheet i_impl_copyFields i_impl_copyField i_impl_validFilm) = true := by kernel_rfl
attribute [push_cast] impl_AddField_r3_dr
/-- Fields are put behind fields. -/
theorem FlsO.more {H H' : Heap} {lo lo2 b : Nat} {R R2 : Rws} {fs fs2 : List Fld} (h : FlsO H lo b R fs) (h2 : RInv H lo2 R2) (hR : ∀ p ∈ R, p.1 < lo2) (hb : b ∉ R2.map Prod.fst) (hlo : lo ≤ lo2) (con2 : R2.map Prod.snd = rowsOf fs2)
    (hrow : H'[b]? = some ⟨(R ++ R2).map slOf, 3, true⟩) (hk : ∀ o, o ≠ b → o < H.length → H'[o]? = H[o]?) : FlsO H' lo b (R ++ R2) (fs ++ fs2) := by
  refine ⟨hrow, ⟨fun p hp => ?_, fun p hp => ?_, ?_⟩, by rw [List.map_append, h.con, con2, rowsOf_append], h.bl, fun hc => ?_⟩
  · rcases List.mem_append.1 hp with hp | hp
    · rw [hk p.1 (fun hc => h.bn (by rw [← hc]; exact List.mem_map_of_mem hp)) (h.inv.lt hp)]; exact h.inv.own p hp
    · rw [hk p.1 (fun hc => hb (by rw [← hc]; exact List.mem_map_of_mem hp)) (h2.lt hp)]; exact h2.own p hp
  · rcases List.mem_append.1 hp with hp | hp
    · exact h.inv.low p hp
    · exact Nat.le_trans hlo (h2.low p hp)
  · rw [List.map_append, List.nodup_append]
    refine ⟨h.inv.nod, h2.nod, fun x hx y hy hxy => ?_⟩
    obtain ⟨p, hp, rfl⟩ := List.mem_map.1 hx
    obtain ⟨q, hq, rfl⟩ := List.mem_map.1 hy
    have := hR p hp
    have := h2.low q hq
    omega
  · rw [List.map_append, List.mem_append] at hc
    rcases hc with hc | hc
    · exact h.bn hc
    · exact hb hc
theorem isFilm_more (w h : Int) (wr : Bool) (sp lo : List Nat) (fs : List Fld) (f : Fld) : isFilm w h wr sp lo (fs ++ [f]) = (isFilm w h wr sp lo fs && (isField w h wr sp lo f.e f.x f.y && decide (fs.length ≤ 15))) := by
  unfold isFilm
  rw [List.all_append, List.length_append]
  simp only [List.all_cons, List.all_nil, Bool.and_true, List.length_cons, List.length_nil]
  by_cases h1 : fs.length ≤ 15
  · rw [decide_eq_true h1, decide_eq_true (by omega : fs.length ≤ 16), decide_eq_true (by omega : fs.length + (0 + 1) ≤ 16)]
    simp only [Bool.and_true, Bool.true_and, Bool.and_assoc]
  · rw [decide_eq_false h1, decide_eq_false (by omega : ¬ fs.length + (0 + 1) ≤ 16)]
    simp only [Bool.and_false, Bool.false_and]

theorem isFilm_len {w h : Int} {wr : Bool} {sp lo : List Nat} {fs : List Fld} (h : isFilm w h wr sp lo fs = true) : fs.length ≤ 16 := by
  unfold isFilm at h
  simp only [Bool.and_eq_true, decide_eq_true_eq] at h
  exact h.1.2
theorem isFilm_sheet {w h : Int} {wr : Bool} {sp lo : List Nat} {fs : List Fld} (h' : isFilm w h wr sp lo fs = true) : isSheet w h sp lo = true := by
  unfold isFilm at h'
  simp only [Bool.and_eq_true] at h'
  exact h'.1.1
def impl_validFilm_ok (c : Contract) : Prop := ∀ (σ : Heap) (w h : Int) (wr : Bool) (sv lv fv : Value) (sp lo : List Nat) (fs : List Fld), ShR σ sv lv sp lo → FlsR σ fv fs → sp.length ≤ 1048576 → lo.length ≤ 1048576 → fitsF fs →
    Ret c [fmV w h wr sv lv fv] σ fun v σ' => ∃ τ, σ' = σ ++ τ ∧ v = if isFilm w h wr sp lo fs = true then .tuple #[fmV w h wr sv lv fv, .bool true] else .tuple #[noFilm, .bool false]
theorem impl_validFilm_law {C : Ctab} {i1 : FuncId} {c1 : Contract} (h1 : Has C i1 c1 impl_ValidFilm_ok) : impl_validFilm_ok (bodyC C (impl_validFilm i1) true) := by
  intro σ w h wr sv lv fv sp lo fs ⟨r1, r2⟩ hf n1 n2 hfit
  have k1 := r1.ok
  have k2 := r2.ok
  have k3 := hf.ok
  have hV := fun τ => h1.ok (σ ++ τ) w h wr sv lv fv sp lo fs ⟨r1.ext _, r2.ext _⟩ (hf.ext _) n1 n2 hfit
  cases hI : isFilm w h wr sp lo fs
  · refine ret_bd rfl rfl ?_
    repeat' (first | refine ff ?_ | ((first | refine EvR.aSplB ?_ ?_ | refine Ev.aSplB ?_ ?_) <;> (intro hb; (try rw [hb]); (try simp only [Bool.not_eq_true', Bool.not_eq_false', Bool.not_eq_eq_eq_not, Bool.not_true, Bool.not_false, decide_eq_true_eq, decide_eq_false_iff_not, Bool.and_eq_true, Bool.and_eq_false_iff, Bool.or_eq_true, Bool.or_eq_false_iff] at hb); (try (exfalso; first | omega | exact hb trivial)))) | (apply endS trivial; rotate_left; (· exact eva); (· rfl); try refine ⟨?_, rfl⟩) | fail)
    (apply EvR.aCall h1.at_; (· exact eva); (· exact  hV _); (rintro _ _ ⟨rfl, rfl⟩; refine EvR.nrm ?_))
    rw [hI]
    repeat' (first | refine ff ?_ | ((first | refine EvR.aSplB ?_ ?_ | refine Ev.aSplB ?_ ?_) <;> (intro hb; (try rw [hb]); (try simp only [Bool.not_eq_true', Bool.not_eq_false', Bool.not_eq_eq_eq_not, Bool.not_true, Bool.not_false, decide_eq_true_eq, decide_eq_false_iff_not, Bool.and_eq_true, Bool.and_eq_false_iff, Bool.or_eq_true, Bool.or_eq_false_iff] at hb); (try (exfalso; first | omega | exact hb trivial)))) | (apply endS trivial; rotate_left; (· exact eva); (· rfl); try refine ⟨?_, rfl⟩) | fail)
    apply endB trivial
    · exact eva
    · exact ⟨_, rfl, rfl⟩
  · refine ret_bd rfl rfl ?_
    repeat' (first | refine ff ?_ | ((first | refine EvR.aSplB ?_ ?_ | refine Ev.aSplB ?_ ?_) <;> (intro hb; (try rw [hb]); (try simp only [Bool.not_eq_true', Bool.not_eq_false', Bool.not_eq_eq_eq_not, Bool.not_true, Bool.not_false, decide_eq_true_eq, decide_eq_false_iff_not, Bool.and_eq_true, Bool.and_eq_false_iff, Bool.or_eq_true, Bool.or_eq_false_iff] at hb); (try (exfalso; first | omega | exact hb trivial)))) | (apply endS trivial; rotate_left; (· exact eva); (· rfl); try refine ⟨?_, rfl⟩) | fail)
    (apply EvR.aCall h1.at_; (· exact eva); (· exact  hV _); (rintro _ _ ⟨rfl, rfl⟩; refine EvR.nrm ?_))
    rw [hI]
    repeat' (first | refine ff ?_ | ((first | refine EvR.aSplB ?_ ?_ | refine Ev.aSplB ?_ ?_) <;> (intro hb; (try rw [hb]); (try simp only [Bool.not_eq_true', Bool.not_eq_false', Bool.not_eq_eq_eq_not, Bool.not_true, Bool.not_false, decide_eq_true_eq, decide_eq_false_iff_not, Bool.and_eq_true, Bool.and_eq_false_iff, Bool.or_eq_true, Bool.or_eq_false_iff] at hb); (try (exfalso; first | omega | exact hb trivial)))) | (apply endS trivial; rotate_left; (· exact eva); (· rfl); try refine ⟨?_, rfl⟩) | fail)
    apply endB trivial
    · exact eva
    · exact ⟨_, rfl, rfl⟩

def AddField_ok (c : Contract) : Prop := ∀ (σ : Heap) (w h : Int) (wr : Bool) (sv lv fv ev xv yv : Value) (sp lo : List Nat) (fs : List Fld) (f : Fld), ShR σ sv lv sp lo → FlsR σ fv fs → FlR σ ev xv yv f.e f.x f.y → sp.length ≤ 1048576 → lo.length ≤ 1048576 → fitsF fs → fitF f →
    Ret c [fmV w h wr sv lv fv, fV ev xv yv] σ fun v σ' => FmRes (isFilm w h wr sp lo (fs ++ [f])) σ σ' v w h wr sp lo (fs ++ [f])
abbrev impl_AddField_ok := AddField_ok
theorem impl_AddField_law {C : Ctab} {i1 i2 i3 i4 i5 : FuncId} {c1 c2 c3 c4 c5 : Contract} (h1 : Has C i1 c1 impl_ValidFilm_ok) (h2 : Has C i2 c2 impl_copySheet_ok) (h3 : Has C i3 c3 impl_copyFields_ok) (h4 : Has C i4 c4 impl_copyField_ok) (h5 : Has C i5 c5 impl_validFilm_ok) : impl_AddField_ok (bodyC C (impl_AddField i1 i2 i3 i4 i5) true) := by
  intro σ w h wr sv lv fv ev xv yv sp lo fs f ⟨r1, r2⟩ hf ⟨r3, r4, r5⟩ n1 n2 hfit hff
  have k1 := r1.ok
  have k2 := r2.ok
  have k3 := hf.ok
  have k4 := r3.ok
  have k5 := r4.ok
  have k6 := r5.ok
  have hn := hfit.1
  obtain ⟨m1, m2, m3⟩ := hff
  have hV := fun τ => h1.ok (σ ++ τ) w h wr sv lv fv sp lo fs ⟨r1.ext _, r2.ext _⟩ (hf.ext _) n1 n2 hfit
  cases hI : isFilm w h wr sp lo fs
  · rw [show isFilm w h wr sp lo (fs ++ [f]) = false from by rw [isFilm_more, hI]; rfl]
    refine ret_bd rfl rfl ?_
    repeat' (first | refine ff ?_ | ((first | refine EvR.aSplB ?_ ?_ | refine Ev.aSplB ?_ ?_) <;> (intro hb; (try rw [hb]); (try simp only [Bool.not_eq_true', Bool.not_eq_false', Bool.not_eq_eq_eq_not, Bool.not_true, Bool.not_false, decide_eq_true_eq, decide_eq_false_iff_not, Bool.and_eq_true, Bool.and_eq_false_iff, Bool.or_eq_true, Bool.or_eq_false_iff] at hb); (try (exfalso; first | omega | exact hb trivial)))) | (apply endS trivial; rotate_left; (· exact eva); (· rfl); try refine ⟨?_, rfl⟩) | fail)
    (apply EvR.aCall h1.at_; (· exact eva); (· exact  hV _); (rintro _ _ ⟨rfl, rfl⟩; refine EvR.nrm ?_))
    rw [hI]
    repeat' (first | refine ff ?_ | ((first | refine EvR.aSplB ?_ ?_ | refine Ev.aSplB ?_ ?_) <;> (intro hb; (try rw [hb]); (try simp only [Bool.not_eq_true', Bool.not_eq_false', Bool.not_eq_eq_eq_not, Bool.not_true, Bool.not_false, decide_eq_true_eq, decide_eq_false_iff_not, Bool.and_eq_true, Bool.and_eq_false_iff, Bool.or_eq_true, Bool.or_eq_false_iff] at hb); (try (exfalso; first | omega | exact hb trivial)))) | (apply endS trivial; rotate_left; (· exact eva); (· rfl); try refine ⟨?_, rfl⟩) | fail)
    apply endB trivial
    · exact eva
    · exact FmRes.no rfl
  refine ret_bd rfl rfl ?_
  repeat' (first | refine ff ?_ | ((first | refine EvR.aSplB ?_ ?_ | refine Ev.aSplB ?_ ?_) <;> (intro hb; (try rw [hb]); (try simp only [Bool.not_eq_true', Bool.not_eq_false', Bool.not_eq_eq_eq_not, Bool.not_true, Bool.not_false, decide_eq_true_eq, decide_eq_false_iff_not, Bool.and_eq_true, Bool.and_eq_false_iff, Bool.or_eq_true, Bool.or_eq_false_iff] at hb); (try (exfalso; first | omega | exact hb trivial)))) | (apply endS trivial; rotate_left; (· exact eva); (· rfl); try refine ⟨?_, rfl⟩) | fail)
  (apply EvR.aCall h1.at_; (· exact eva); (· exact  hV _); (rintro _ _ ⟨rfl, rfl⟩; refine EvR.nrm ?_))
  rw [hI]
  repeat' (first | refine ff ?_ | (apply EvR.aCall h2.at_; (· exact eva); (· apply h2.ok <;> exact sid); (rintro _ _ ⟨rfl, rfl⟩; refine EvR.nrm ?_)) | ((first | refine EvR.aSplB ?_ ?_ | refine Ev.aSplB ?_ ?_) <;> (intro hb; (try rw [hb]); (try simp only [Bool.not_eq_true', Bool.not_eq_false', Bool.not_eq_eq_eq_not, Bool.not_true, Bool.not_false, decide_eq_true_eq, decide_eq_false_iff_not, Bool.and_eq_true, Bool.and_eq_false_iff, Bool.or_eq_true, Bool.or_eq_false_iff] at hb); (try (exfalso; first | omega | exact hb trivial)))) | (apply endS trivial; rotate_left; (· exact eva); (· rfl); try refine ⟨?_, rfl⟩) | fail)
  apply EvR.aCall h3.at_; (· exact eva); (· exact h3.ok _ fv fs (hf.ext _) hfit); rintro _ _ ⟨τ, b, R, rfl, rfl, ho⟩
  simp only [List.length_append, List.length_cons, List.length_nil, Nat.zero_add, Nat.reduceAdd] at ho
  refine EvR.nrm ?_
  repeat' (first | refine ff ?_ | (apply EvR.aCall h4.at_; (· exact eva); (· apply h4.ok <;> exact sid); (rintro _ _ ⟨rfl, rfl⟩; refine EvR.nrm ?_)) | ((first | refine EvR.aSplB ?_ ?_ | refine Ev.aSplB ?_ ?_) <;> (intro hb; (try rw [hb]); (try simp only [Bool.not_eq_true', Bool.not_eq_false', Bool.not_eq_eq_eq_not, Bool.not_true, Bool.not_false, decide_eq_true_eq, decide_eq_false_iff_not, Bool.and_eq_true, Bool.and_eq_false_iff, Bool.or_eq_true, Bool.or_eq_false_iff] at hb); (try (exfalso; first | omega | exact hb trivial)))) | (apply endS trivial; rotate_left; (· exact eva); (· rfl); try refine ⟨?_, rfl⟩) | fail)
  obtain ⟨j, rfl⟩ : ∃ j, b = σ.length + (j + 5) := ⟨b - σ.length - 5, by have := ho.bl; omega⟩
  have hj : τ[j]? = some ⟨R.map slOf, 3, true⟩ := by
    have := ho.row
    rw [List.append_assoc, hget] at this
    exact this
  have hjl := (List.getElem?_eq_some_iff.1 hj).1
  have h16 := isFilm_len hI
  obtain ⟨tail, htail⟩ : ∃ t : Heap, t = [rowO f.e, rowO f.x, rowO f.y, ⟨[slV (σ.length + (τ.length + 5)) f.e.length, slV (σ.length + (τ.length + 6)) f.x.length, slV (σ.length + (τ.length + 7)) f.y.length], 3, true⟩] := ⟨_, rfl⟩
  refine EvR.ap3 (τ := σ) (cells := R.map slOf) (i := j + 5) (j := τ.length + 8) (m := fs.length) rfl ?_ (by rw [List.length_map]; exact ho.len) rfl (by simp only [List.getElem?_cons_succ]; exact get_end _ _ 3) (by omega) rfl rfl rfl ?_
  · show (τ ++ _)[j]? = _
    rw [List.getElem?_append_left hjl]; exact hj
  rw [← htail]
  obtain ⟨X, hX⟩ : ∃ X : AObj, X = ⟨R.map slOf ++ [slV (σ.length + (τ.length + 5)) f.e.length, slV (σ.length + (τ.length + 6)) f.x.length, slV (σ.length + (τ.length + 7)) f.y.length], 3, true⟩ := ⟨_, rfl⟩
  rw [← hX]
  obtain ⟨P5, hP5⟩ : ∃ P : Heap, P = [⟨[.int .i64 w, .int .i64 h, .bool wr, sv, lv, fv], 0, true⟩, ⟨[ev, xv, yv], 0, true⟩, ⟨[.int .i64 0, .int .i64 0, .bool false, .slice none 0 0, .slice none 0 0, .slice none 0 0], 0, true⟩, rowO sp, rowO lo] := ⟨_, rfl⟩
  have hb := ho.bn
  have ho2 : FlsO (σ ++ P5 ++ τ ++ tail) (σ.length + 5) (σ.length + (j + 5)) R fs := by rw [hP5]; exact ho.ext tail
  have hi2 : RInv (σ ++ P5 ++ τ ++ tail) (σ ++ P5 ++ τ).length [((σ ++ P5 ++ τ).length, f.e), ((σ ++ P5 ++ τ).length + 1, f.x), ((σ ++ P5 ++ τ).length + 2, f.y)] := by rw [htail]; exact (RInv.nil (σ ++ P5 ++ τ) _).snoc3 (Nat.le_refl _) f _
  have hO2 := FlsO.more (H' := (σ ++ P5 ++ τ ++ tail).set (σ.length + (j + 5)) X) (fs2 := [f]) ho2 hi2 (by intro p hp; rw [hP5]; exact ho.inv.lt hp)
    (by rw [hP5]; simp only [List.map_cons, List.map_nil, List.length_append, List.length_cons, List.length_nil, List.mem_cons, List.not_mem_nil, or_false]; omega) (by rw [hP5]; simp only [List.length_append, List.length_cons, List.length_nil]; omega) rfl
    (by
      rw [List.getElem?_set_self (by rw [hP5]; simp only [List.length_append, List.length_cons, List.length_nil]; omega), hX, List.map_append]
      have e : (σ ++ P5 ++ τ).length = σ.length + (τ.length + 5) := by rw [hP5]; simp only [List.length_append, List.length_cons, List.length_nil]; omega
      rw [e]
      rfl)
    (fun o h0 _ => by rw [List.getElem?_set_ne (Ne.symm h0)])
  have hH : (σ ++ P5 ++ τ ++ tail).set (σ.length + (j + 5)) X = σ ++ (P5 ++ (τ.set j X ++ tail)) := by
    rw [List.append_assoc, List.append_assoc, hP5, set_app, List.cons_append, List.cons_append, List.cons_append, List.cons_append, List.cons_append, List.nil_append]
    simp only [List.set_cons_succ, List.set_append_left _ _ hjl]
    rfl
  rw [hH] at hO2
  obtain ⟨τ2, hτ2⟩ : ∃ t, t = τ.set j X := ⟨_, rfl⟩
  rw [← hτ2] at hO2 hH
  rw [hP5] at hO2
  have hO := filmO_of (lo := σ.length + 3) (sp := sp) (ls := lo) (s := σ.length + 3) (l := σ.length + 4) hO2 (hget _ _ 3) (hget _ _ 4) (by omega) (by omega) (by omega)
  simp only [List.set_cons_succ, List.set_append_left _ _ hjl]
  rw [← hτ2]
  have hl1 : (fs ++ [f]).length = fs.length + 1 := by simp
  have hfit2 : fitsF (fs ++ [f]) := ⟨by omega, fun g hg => by
    rcases List.mem_append.1 hg with hg | hg
    · exact hfit.2 g hg
    · simp only [List.mem_singleton] at hg; subst hg; exact ⟨m1, m2, m3⟩⟩
  have hfl := hO.fls
  rw [hl1] at hfl
  clear hH
  repeat' (first | refine ff ?_ | ((first | refine EvR.aSplB ?_ ?_ | refine Ev.aSplB ?_ ?_) <;> (intro hb; (try rw [hb]); (try simp only [Bool.not_eq_true', Bool.not_eq_false', Bool.not_eq_eq_eq_not, Bool.not_true, Bool.not_false, decide_eq_true_eq, decide_eq_false_iff_not, Bool.and_eq_true, Bool.and_eq_false_iff, Bool.or_eq_true, Bool.or_eq_false_iff] at hb); (try (exfalso; first | omega | exact hb trivial)))) | (apply endS trivial; rotate_left; (· exact eva); (· rfl); try refine ⟨?_, rfl⟩) | fail)
  apply EvR.aCall h5.at_; (· exact eva); (· exact h5.ok _ w h wr _ _ _ sp lo (fs ++ [f]) hO.sheet hfl n1 n2 hfit2); rintro _ _ ⟨t, rfl, rfl⟩
  cases hJ : isFilm w h wr sp lo (fs ++ [f])
  · rw [if_neg (by simp)]
    refine EvR.nrm ?_
    repeat' (first | refine ff ?_ | ((first | refine EvR.aSplB ?_ ?_ | refine Ev.aSplB ?_ ?_) <;> (intro hb; (try rw [hb]); (try simp only [Bool.not_eq_true', Bool.not_eq_false', Bool.not_eq_eq_eq_not, Bool.not_true, Bool.not_false, decide_eq_true_eq, decide_eq_false_iff_not, Bool.and_eq_true, Bool.and_eq_false_iff, Bool.or_eq_true, Bool.or_eq_false_iff] at hb); (try (exfalso; first | omega | exact hb trivial)))) | (apply endS trivial; rotate_left; (· exact eva); (· rfl); try refine ⟨?_, rfl⟩) | fail)
    apply endB trivial
    · exact eva
    · exact FmRes.no rfl
  · rw [if_pos rfl]
    refine EvR.nrm ?_
    repeat' (first | refine ff ?_ | ((first | refine EvR.aSplB ?_ ?_ | refine Ev.aSplB ?_ ?_) <;> (intro hb; (try rw [hb]); (try simp only [Bool.not_eq_true', Bool.not_eq_false', Bool.not_eq_eq_eq_not, Bool.not_true, Bool.not_false, decide_eq_true_eq, decide_eq_false_iff_not, Bool.and_eq_true, Bool.and_eq_false_iff, Bool.or_eq_true, Bool.or_eq_false_iff] at hb); (try (exfalso; first | omega | exact hb trivial)))) | (apply endS trivial; rotate_left; (· exact eva); (· rfl); try refine ⟨?_, rfl⟩) | fail)
    apply endB trivial
    · exact eva
    · refine ⟨fun _ => ⟨_, σ.length + 3, σ.length + 4, σ.length + (j + 5), _, rfl, by rw [hl1], FilmO.less (lo := σ.length + 3) (FilmO.keep hO fun o h0 h1 => ?_) (by omega)⟩, fun h => (by cases h)⟩
      obtain ⟨i, rfl⟩ : ∃ i, o = σ.length + (i + 3) := ⟨o - σ.length - 3, by omega⟩
      rw [hget, hget]
      show (rowO sp :: rowO lo :: (τ2 ++ (tail ++ t)))[i]? = (rowO sp :: rowO lo :: (τ2 ++ tail))[i]?
      have h3 : i < (rowO sp :: rowO lo :: (τ2 ++ tail)).length := by
        simp only [List.length_append, List.length_cons, List.length_nil] at h1 ⊢
        omega
      rw [show (rowO sp :: rowO lo :: (τ2 ++ (tail ++ t))) = (rowO sp :: rowO lo :: (τ2 ++ tail)) ++ t from by simp, List.getElem?_append_left h3]

/-- Fields are put behind those of a film. -/
theorem FilmO.more {H H2 H' : Heap} {lo lo2 s l b : Nat} {R R2 : Rws} {sp ls : List Nat} {fs fs2 : List Fld} (h : FilmO H lo s l b R sp ls fs) (h2 : RInv H2 lo2 R2) (hl : H.length ≤ lo2) (con2 : R2.map Prod.snd = rowsOf fs2)
    (hrow : H'[b]? = some ⟨(R ++ R2).map slOf, 3, true⟩) (hk1 : ∀ o, lo ≤ o → o < H.length → o ≠ b → H'[o]? = H[o]?) (hk2 : ∀ o, lo2 ≤ o → o < H2.length → H'[o]? = H2[o]?) : FilmO H' lo s l b (R ++ R2) sp ls (fs ++ fs2) := by
  have hbl := (List.getElem?_eq_some_iff.1 h.row).1
  have hb0 := h.bl
  have hb2 : b ∉ R2.map Prod.fst := fun hc => by
    obtain ⟨p, hp, rfl⟩ := List.mem_map.1 hc
    have := h2.low p hp
    omega
  have hin : ∀ p ∈ (s, sp) :: (l, ls) :: R, p.1 ∈ s :: l :: R.map Prod.fst := fun p hp => by
    have := List.mem_map_of_mem (f := Prod.fst) hp
    simpa using this
  refine ⟨hrow, ⟨fun p hp => ?_, fun p hp => ?_, ?_⟩, by rw [List.map_append, h.con, con2, rowsOf_append], h.bl, fun hc => ?_⟩
  · rw [← List.cons_append, ← List.cons_append] at hp
    rcases List.mem_append.1 hp with hp | hp
    · rw [hk1 p.1 (h.inv.low p hp) (h.inv.lt hp) (fun hc => h.bn (by rw [← hc]; exact hin p hp))]; exact h.inv.own p hp
    · rw [hk2 p.1 (h2.low p hp) (h2.lt hp)]; exact h2.own p hp
  · rw [← List.cons_append, ← List.cons_append] at hp
    rcases List.mem_append.1 hp with hp | hp
    · exact h.inv.low p hp
    · have := h2.low p hp; omega
  · rw [← List.cons_append, ← List.cons_append, List.map_append, List.nodup_append]
    refine ⟨h.inv.nod, h2.nod, fun x hx y hy hxy => ?_⟩
    obtain ⟨p, hp, rfl⟩ := List.mem_map.1 hx
    obtain ⟨q, hq, rfl⟩ := List.mem_map.1 hy
    have := h.inv.lt hp
    have := h2.low q hq
    omega
  · rw [List.map_append, ← List.cons_append, ← List.cons_append, List.mem_append] at hc
    rcases hc with hc | hc
    · exact h.bn hc
    · exact hb2 hc

end Go.Abs

