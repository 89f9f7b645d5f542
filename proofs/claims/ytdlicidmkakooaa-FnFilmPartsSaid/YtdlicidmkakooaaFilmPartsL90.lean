/- Laws of functions: whether films are the same, by the program and by the reference. Conditions: the laws of what they call. -/
import Derived.Test.YtdlicidmkakooaaFilmPartsL89
import Derived.Test.YtdlicidmkakooaaFilmPartsL75
namespace Go.Abs

set_option linter.unusedSimpArgs false
set_option linter.unusedVariables false
set_option maxHeartbeats 8000000
set_option maxRecDepth 20000
/- loop.example/g01201/impl.SameFilm -/
def impl_SameFilm_r0 : List SOper := [
  ⟨(some 2), none, .box (.tmp 0), 0⟩,
  ⟨(some 3), none, .box (.tmp 1), 0⟩,
  ⟨(some 4), none, .mov (.const (.bool false)), 0⟩]
def impl_SameFilm_r1 (i_impl_ValidFilm i_impl_SameSheet i_slices_EqualFunc_Field i_impl_SameField : FuncId) : List SOper := [
  ⟨(some 5), none, .loadN 6 (.tmp 2), 0⟩,
  ⟨(some 6), none, .call (.func i_impl_ValidFilm) [(.tmp 5)], 1⟩,
  ⟨(some 7), none, .mov (.tmp 6), 3⟩,
  ⟨(some 8), (some (7, true)), .loadN 6 (.tmp 3), 7⟩,
  ⟨(some 9), (some (7, true)), .call (.func i_impl_ValidFilm) [(.tmp 8)], 15⟩,
  ⟨(some 10), none, .pick (.tmp 7) (.tmp 9) (.const (.bool false)), 31⟩,
  ⟨(some 11), none, .mov (.tmp 10), 63⟩,
  ⟨(some 12), (some (11, true)), .fieldAddr 0 (.tmp 2), 127⟩,
  ⟨(some 13), (some (11, true)), .loadN 5 (.tmp 12), 255⟩,
  ⟨(some 14), (some (11, true)), .fieldAddr 0 (.tmp 3), 127⟩,
  ⟨(some 15), (some (11, true)), .loadN 5 (.tmp 14), 639⟩,
  ⟨(some 16), (some (11, true)), .call (.func i_impl_SameSheet) [(.tmp 13), (.tmp 15)], 2047⟩,
  ⟨(some 17), none, .pick (.tmp 11) (.tmp 16) (.const (.bool false)), 4095⟩,
  ⟨(some 18), none, .mov (.tmp 17), 8191⟩,
  ⟨(some 19), (some (18, true)), .fieldAddr 5 (.tmp 2), 16383⟩,
  ⟨(some 20), (some (18, true)), .load1 (.tmp 19), 32767⟩,
  ⟨(some 21), (some (18, true)), .fieldAddr 5 (.tmp 3), 16383⟩,
  ⟨(some 22), (some (18, true)), .load1 (.tmp 21), 81919⟩,
  ⟨(some 23), (some (18, true)), .call (.func i_slices_EqualFunc_Field) [(.tmp 20), (.tmp 22), (.func i_impl_SameField)], 262143⟩,
  ⟨(some 24), none, .pick (.tmp 18) (.tmp 23) (.const (.bool false)), 524287⟩,
  ⟨(some 4), none, .mov (.tmp 24), 1048575⟩]
def impl_SameFilm (i_impl_ValidFilm i_impl_SameSheet i_slices_EqualFunc_Field i_impl_SameField : FuncId) : SFunc := ⟨25, [.tmp 4], (.kp [0, 1] (.seq (.region impl_SameFilm_r0 false) (.kp [2, 3] (.seq (.region (impl_SameFilm_r1 i_impl_ValidFilm i_impl_SameSheet i_slices_EqualFunc_Field i_impl_SameField) false) .ret))))⟩


def sameFm (w h : Int) (wr : Bool) (sp lo : List Nat) (fs : List Fld) (w' h' : Int) (wr' : Bool) (sp' lo' : List Nat) (fs' : List Fld) : Bool :=
  isFilm w h wr sp lo fs && (isFilm w' h' wr' sp' lo' fs' && (sameSN w h wr sp lo w' h' wr' sp' lo' && sameFls fs fs'))
def SameFilm_ok (c : Contract) : Prop := ∀ (σ : Heap) (w h : Int) (wr : Bool) (sv lv fv : Value) (sp lo : List Nat) (fs : List Fld) (w' h' : Int) (wr' : Bool) (sv' lv' fv' : Value) (sp' lo' : List Nat) (fs' : List Fld), ShR σ sv lv sp lo → FlsR σ fv fs → ShR σ sv' lv' sp' lo' → FlsR σ fv' fs' →
    sp.length ≤ 1048576 → lo.length ≤ 1048576 → fitsF fs → sp'.length ≤ 1048576 → lo'.length ≤ 1048576 → fitsF fs' → in32 sp → in32 lo → in32 sp' → in32 lo' → lowF fs → lowF fs' →
    Ret c [fmV w h wr sv lv fv, fmV w' h' wr' sv' lv' fv'] σ fun v σ' => v = .bool (sameFm w h wr sp lo fs w' h' wr' sp' lo' fs') ∧ σ' = σ
abbrev impl_SameFilm_ok := SameFilm_ok
theorem impl_SameFilm_law {C : Ctab} {i1 i2 i3 i4 : FuncId} {c1 c2 c3 c4 : Contract} (h1 : Has C i1 c1 impl_ValidFilm_ok) (h2 : Has C i2 c2 impl_SameSheetN_ok) (h3 : Has C i3 c3 (slices_EqualFunc_Field_ok i4 c4)) (h4 : Has C i4 c4 impl_SameField_ok) : impl_SameFilm_ok (gcC C (impl_SameFilm i1 i2 i3 i4) true) := by
  intro σ w h wr sv lv fv sp lo fs w' h' wr' sv' lv' fv' sp' lo' fs' ⟨r1, r2⟩ hf ⟨r3, r4⟩ hf' n1 n2 hfit n3 n4 hfit' b1_ b2_ b3_ b4_ hlo hlo'
  have k1 := r1.ok
  have k2 := r2.ok
  have k3 := hf.ok
  have k4 := r3.ok
  have k5 := r4.ok
  have k6 := hf'.ok
  have hV := fun τ => h1.ok (σ ++ τ) w h wr sv lv fv sp lo fs ⟨r1.ext _, r2.ext _⟩ (hf.ext _) n1 n2 hfit
  have hV' := fun τ => h1.ok (σ ++ τ) w' h' wr' sv' lv' fv' sp' lo' fs' ⟨r3.ext _, r4.ext _⟩ (hf'.ext _) n3 n4 hfit'
  have hS := fun τ => h2.ok (σ ++ τ) w h wr sv lv sp lo w' h' wr' sv' lv' sp' lo' ⟨r1.ext _, r2.ext _⟩ ⟨r3.ext _, r4.ext _⟩ n1 n2 n3 n4 (in32N_of b1_) (in32N_of b2_) (in32N_of b3_) (in32N_of b4_)
  have hE := fun τ => h3.ok (σ ++ τ) fv fv' fs fs' (hf.ext _) (hf'.ext _) hfit hfit' hlo hlo'
  unfold sameFm
  cases hI : isFilm w h wr sp lo fs
  · rw [Bool.false_and]
    refine ret_gc rfl rfl ?_
    repeat' (first | refine ff ?_ | ((first | refine EvR.aSplB ?_ ?_ | refine Ev.aSplB ?_ ?_) <;> (intro hb; (try rw [hb]); (try simp only [Bool.not_eq_true', Bool.not_eq_false', Bool.not_eq_eq_eq_not, Bool.not_true, Bool.not_false, decide_eq_true_eq, decide_eq_false_iff_not, Bool.and_eq_true, Bool.and_eq_false_iff, Bool.or_eq_true, Bool.or_eq_false_iff] at hb); (try (exfalso; first | omega | exact hb trivial)))) | (apply endS trivial; rotate_left; (· exact eva); (· rfl); try refine ⟨?_, rfl⟩) | fail)
    (apply EvR.aCall h1.at_; (· exact eva); (· exact  hV _); (rintro _ _ ⟨rfl, rfl⟩; refine EvR.nrm ?_))
    rw [hI]
    repeat' (first | refine ff ?_ | ((first | refine EvR.aSplB ?_ ?_ | refine Ev.aSplB ?_ ?_) <;> (intro hb; (try rw [hb]); (try simp only [Bool.not_eq_true', Bool.not_eq_false', Bool.not_eq_eq_eq_not, Bool.not_true, Bool.not_false, decide_eq_true_eq, decide_eq_false_iff_not, Bool.and_eq_true, Bool.and_eq_false_iff, Bool.or_eq_true, Bool.or_eq_false_iff] at hb); (try (exfalso; first | omega | exact hb trivial)))) | (apply endS trivial; rotate_left; (· exact eva); (· rfl); try refine ⟨?_, rfl⟩) | fail)
    all_goals (try rfl)
  cases hI' : isFilm w' h' wr' sp' lo' fs'
  · rw [Bool.false_and, Bool.and_false]
    refine ret_gc rfl rfl ?_
    repeat' (first | refine ff ?_ | ((first | refine EvR.aSplB ?_ ?_ | refine Ev.aSplB ?_ ?_) <;> (intro hb; (try rw [hb]); (try simp only [Bool.not_eq_true', Bool.not_eq_false', Bool.not_eq_eq_eq_not, Bool.not_true, Bool.not_false, decide_eq_true_eq, decide_eq_false_iff_not, Bool.and_eq_true, Bool.and_eq_false_iff, Bool.or_eq_true, Bool.or_eq_false_iff] at hb); (try (exfalso; first | omega | exact hb trivial)))) | (apply endS trivial; rotate_left; (· exact eva); (· rfl); try refine ⟨?_, rfl⟩) | fail)
    (apply EvR.aCall h1.at_; (· exact eva); (· exact  hV _); (rintro _ _ ⟨rfl, rfl⟩; refine EvR.nrm ?_))
    rw [hI]
    repeat' (first | refine ff ?_ | ((first | refine EvR.aSplB ?_ ?_ | refine Ev.aSplB ?_ ?_) <;> (intro hb; (try rw [hb]); (try simp only [Bool.not_eq_true', Bool.not_eq_false', Bool.not_eq_eq_eq_not, Bool.not_true, Bool.not_false, decide_eq_true_eq, decide_eq_false_iff_not, Bool.and_eq_true, Bool.and_eq_false_iff, Bool.or_eq_true, Bool.or_eq_false_iff] at hb); (try (exfalso; first | omega | exact hb trivial)))) | (apply endS trivial; rotate_left; (· exact eva); (· rfl); try refine ⟨?_, rfl⟩) | fail)
    (apply EvR.aCall h1.at_; (· exact eva); (· exact  hV' _); (rintro _ _ ⟨rfl, rfl⟩; refine EvR.nrm ?_))
    rw [hI']
    repeat' (first | refine ff ?_ | ((first | refine EvR.aSplB ?_ ?_ | refine Ev.aSplB ?_ ?_) <;> (intro hb; (try rw [hb]); (try simp only [Bool.not_eq_true', Bool.not_eq_false', Bool.not_eq_eq_eq_not, Bool.not_true, Bool.not_false, decide_eq_true_eq, decide_eq_false_iff_not, Bool.and_eq_true, Bool.and_eq_false_iff, Bool.or_eq_true, Bool.or_eq_false_iff] at hb); (try (exfalso; first | omega | exact hb trivial)))) | (apply endS trivial; rotate_left; (· exact eva); (· rfl); try refine ⟨?_, rfl⟩) | fail)
    all_goals (try rfl)
  cases hJ : sameSN w h wr sp lo w' h' wr' sp' lo'
  · rw [Bool.false_and, Bool.and_false, Bool.and_false]
    refine ret_gc rfl rfl ?_
    repeat' (first | refine ff ?_ | ((first | refine EvR.aSplB ?_ ?_ | refine Ev.aSplB ?_ ?_) <;> (intro hb; (try rw [hb]); (try simp only [Bool.not_eq_true', Bool.not_eq_false', Bool.not_eq_eq_eq_not, Bool.not_true, Bool.not_false, decide_eq_true_eq, decide_eq_false_iff_not, Bool.and_eq_true, Bool.and_eq_false_iff, Bool.or_eq_true, Bool.or_eq_false_iff] at hb); (try (exfalso; first | omega | exact hb trivial)))) | (apply endS trivial; rotate_left; (· exact eva); (· rfl); try refine ⟨?_, rfl⟩) | fail)
    (apply EvR.aCall h1.at_; (· exact eva); (· exact  hV _); (rintro _ _ ⟨rfl, rfl⟩; refine EvR.nrm ?_))
    rw [hI]
    repeat' (first | refine ff ?_ | ((first | refine EvR.aSplB ?_ ?_ | refine Ev.aSplB ?_ ?_) <;> (intro hb; (try rw [hb]); (try simp only [Bool.not_eq_true', Bool.not_eq_false', Bool.not_eq_eq_eq_not, Bool.not_true, Bool.not_false, decide_eq_true_eq, decide_eq_false_iff_not, Bool.and_eq_true, Bool.and_eq_false_iff, Bool.or_eq_true, Bool.or_eq_false_iff] at hb); (try (exfalso; first | omega | exact hb trivial)))) | (apply endS trivial; rotate_left; (· exact eva); (· rfl); try refine ⟨?_, rfl⟩) | fail)
    (apply EvR.aCall h1.at_; (· exact eva); (· exact  hV' _); (rintro _ _ ⟨rfl, rfl⟩; refine EvR.nrm ?_))
    rw [hI']
    repeat' (first | refine ff ?_ | ((first | refine EvR.aSplB ?_ ?_ | refine Ev.aSplB ?_ ?_) <;> (intro hb; (try rw [hb]); (try simp only [Bool.not_eq_true', Bool.not_eq_false', Bool.not_eq_eq_eq_not, Bool.not_true, Bool.not_false, decide_eq_true_eq, decide_eq_false_iff_not, Bool.and_eq_true, Bool.and_eq_false_iff, Bool.or_eq_true, Bool.or_eq_false_iff] at hb); (try (exfalso; first | omega | exact hb trivial)))) | (apply endS trivial; rotate_left; (· exact eva); (· rfl); try refine ⟨?_, rfl⟩) | fail)
    (apply EvR.aCall h2.at_; (· exact eva); (· exact  hS _); (rintro _ _ ⟨rfl, rfl⟩; refine EvR.nrm ?_))
    rw [hJ]
    repeat' (first | refine ff ?_ | ((first | refine EvR.aSplB ?_ ?_ | refine Ev.aSplB ?_ ?_) <;> (intro hb; (try rw [hb]); (try simp only [Bool.not_eq_true', Bool.not_eq_false', Bool.not_eq_eq_eq_not, Bool.not_true, Bool.not_false, decide_eq_true_eq, decide_eq_false_iff_not, Bool.and_eq_true, Bool.and_eq_false_iff, Bool.or_eq_true, Bool.or_eq_false_iff] at hb); (try (exfalso; first | omega | exact hb trivial)))) | (apply endS trivial; rotate_left; (· exact eva); (· rfl); try refine ⟨?_, rfl⟩) | fail)
    all_goals (try rfl)
  rw [Bool.true_and, Bool.true_and, Bool.true_and]
  refine ret_gc rfl rfl ?_
  repeat' (first | refine ff ?_ | ((first | refine EvR.aSplB ?_ ?_ | refine Ev.aSplB ?_ ?_) <;> (intro hb; (try rw [hb]); (try simp only [Bool.not_eq_true', Bool.not_eq_false', Bool.not_eq_eq_eq_not, Bool.not_true, Bool.not_false, decide_eq_true_eq, decide_eq_false_iff_not, Bool.and_eq_true, Bool.and_eq_false_iff, Bool.or_eq_true, Bool.or_eq_false_iff] at hb); (try (exfalso; first | omega | exact hb trivial)))) | (apply endS trivial; rotate_left; (· exact eva); (· rfl); try refine ⟨?_, rfl⟩) | fail)
  (apply EvR.aCall h1.at_; (· exact eva); (· exact  hV _); (rintro _ _ ⟨rfl, rfl⟩; refine EvR.nrm ?_))
  rw [hI]
  repeat' (first | refine ff ?_ | ((first | refine EvR.aSplB ?_ ?_ | refine Ev.aSplB ?_ ?_) <;> (intro hb; (try rw [hb]); (try simp only [Bool.not_eq_true', Bool.not_eq_false', Bool.not_eq_eq_eq_not, Bool.not_true, Bool.not_false, decide_eq_true_eq, decide_eq_false_iff_not, Bool.and_eq_true, Bool.and_eq_false_iff, Bool.or_eq_true, Bool.or_eq_false_iff] at hb); (try (exfalso; first | omega | exact hb trivial)))) | (apply endS trivial; rotate_left; (· exact eva); (· rfl); try refine ⟨?_, rfl⟩) | fail)
  (apply EvR.aCall h1.at_; (· exact eva); (· exact  hV' _); (rintro _ _ ⟨rfl, rfl⟩; refine EvR.nrm ?_))
  rw [hI']
  repeat' (first | refine ff ?_ | ((first | refine EvR.aSplB ?_ ?_ | refine Ev.aSplB ?_ ?_) <;> (intro hb; (try rw [hb]); (try simp only [Bool.not_eq_true', Bool.not_eq_false', Bool.not_eq_eq_eq_not, Bool.not_true, Bool.not_false, decide_eq_true_eq, decide_eq_false_iff_not, Bool.and_eq_true, Bool.and_eq_false_iff, Bool.or_eq_true, Bool.or_eq_false_iff] at hb); (try (exfalso; first | omega | exact hb trivial)))) | (apply endS trivial; rotate_left; (· exact eva); (· rfl); try refine ⟨?_, rfl⟩) | fail)
  (apply EvR.aCall h2.at_; (· exact eva); (· exact  hS _); (rintro _ _ ⟨rfl, rfl⟩; refine EvR.nrm ?_))
  rw [hJ]
  repeat' (first | refine ff ?_ | ((first | refine EvR.aSplB ?_ ?_ | refine Ev.aSplB ?_ ?_) <;> (intro hb; (try rw [hb]); (try simp only [Bool.not_eq_true', Bool.not_eq_false', Bool.not_eq_eq_eq_not, Bool.not_true, Bool.not_false, decide_eq_true_eq, decide_eq_false_iff_not, Bool.and_eq_true, Bool.and_eq_false_iff, Bool.or_eq_true, Bool.or_eq_false_iff] at hb); (try (exfalso; first | omega | exact hb trivial)))) | (apply endS trivial; rotate_left; (· exact eva); (· rfl); try refine ⟨?_, rfl⟩) | fail)
  (apply EvR.aCall h3.at_; (· exact eva); (· exact  hE _); (rintro _ _ ⟨rfl, rfl⟩; refine EvR.nrm ?_))
  repeat' (first | refine ff ?_ | ((first | refine EvR.aSplB ?_ ?_ | refine Ev.aSplB ?_ ?_) <;> (intro hb; (try rw [hb]); (try simp only [Bool.not_eq_true', Bool.not_eq_false', Bool.not_eq_eq_eq_not, Bool.not_true, Bool.not_false, decide_eq_true_eq, decide_eq_false_iff_not, Bool.and_eq_true, Bool.and_eq_false_iff, Bool.or_eq_true, Bool.or_eq_false_iff] at hb); (try (exfalso; first | omega | exact hb trivial)))) | (apply endS trivial; rotate_left; (· exact eva); (· rfl); try refine ⟨?_, rfl⟩) | fail)
  all_goals (try rfl)
end Go.Abs

