/- Laws of functions: whether films are the same, by the program and by the reference. Conditions: the laws of what they call. -/
import Derived.Test.YtogekdhkcndbdaaExactSameFilmL89
import Derived.Test.YtogekdhkcndbdaaExactSameFilmL75
namespace Go.Abs

set_option linter.unusedSimpArgs false
set_option linter.unusedVariables false
set_option maxHeartbeats 8000000
set_option maxRecDepth 20000
/- loop.example/g01201/impl.SameFilm -/
def impl_SameFilm_r0 : List SOper := [
  ⟨(some 2), none, .box (.tmp 0), 0⟩,
  ⟨(some 3), none, .box (.tmp 1), 0⟩,
  ⟨(some 4), none, .mov (.const (.bool false)), 0⟩]
def impl_SameFilm_r1 (i_impl_ValidFilm i_impl_SameSheet i_slices_EqualFunc_Field i_impl_SameField : FuncId) : List SOper := [
  ⟨(some 5), none, .loadN 6 (.tmp 2), 0⟩,
  ⟨(some 6), none, .call (.func i_impl_ValidFilm) [(.tmp 5)], 1⟩,
  ⟨(some 7), none, .mov (.tmp 6), 3⟩,
  ⟨(some 8), (some (7, true)), .loadN 6 (.tmp 3), 7⟩,
  ⟨(some 9), (some (7, true)), .call (.func i_impl_ValidFilm) [(.tmp 8)], 15⟩,
  ⟨(some 10), none, .pick (.tmp 7) (.tmp 9) (.const (.bool false)), 31⟩,
  ⟨(some 11), none, .mov (.tmp 10), 63⟩,
  ⟨(some 12), (some (11, true)), .fieldAddr 0 (.tmp 2), 127⟩,
  ⟨(some 13), (some (11, true)), .loadN 5 (.tmp 12), 255⟩,
  ⟨(some 14), (some (11, true)), .fieldAddr 0 (.tmp 3), 127⟩,
  ⟨(some 15), (some (11, true)), .loadN 5 (.tmp 14), 639⟩,
  ⟨(some 16), (some (11, true)), .call (.func i_impl_SameSheet) [(.tmp 13), (.tmp 15)], 2047⟩,
  ⟨(some 17), none, .pick (.tmp 11) (.tmp 16) (.const (.bool false)), 4095⟩,
  ⟨(some 18), none, .mov (.tmp 17), 8191⟩,
  ⟨(some 19), (some (18, true)), .fieldAddr 5 (.tmp 2), 16383⟩,
  ⟨(some 20), (some (18, true)), .load1 (.tmp 19), 32767⟩,
  ⟨(some 21), (some (18, true)), .fieldAddr 5 (.tmp 3), 16383⟩,
  ⟨(some 22), (some (18, true)), .load1 (.tmp 21), 81919⟩,
  ⟨(some 23), (some (18, true)), .call (.func i_slices_EqualFunc_Field) [(.tmp 20), (.tmp 22), (.func i_impl_SameField)], 262143⟩,
  ⟨(some 24), none, .pick (.tmp 18) (.tmp 23) (.const (.bool false)), 524287⟩,
  ⟨(some 4), none, .mov (.tmp 24), 1048575⟩]
def impl_SameFilm (i_impl_ValidFilm i_impl_SameSheet i_slices_EqualFunc_Field i_impl_SameField : FuncId) : SFunc := ⟨25, [.tmp 4], (.kp [0, 1] (.seq (.region impl_SameFilm_r0 false) (.kp [2, 3] (.seq (.region (impl_SameFilm_r1 i_impl_ValidFilm i_impl_SameSheet i_slices_EqualFunc_Field i_impl_SameField) false) .ret))))⟩

/- loop.example/g01201/spec.SameFilm -/
def spec_SameFilm_r0 : List SOper := [
  ⟨(some 2), none, .box (.tmp 0), 0⟩,
  ⟨(some 3), none, .box (.tmp 1), 0⟩,
  ⟨(some 4), none, .mov (.const (.bool false)), 0⟩]
def spec_SameFilm_r1 (i_spec_l10Is i_spec_SameSheet : FuncId) : List SOper := [
  ⟨(some 6), none, .call (.func i_spec_l10Is) [(.tmp 2)], 0⟩,
  ⟨(some 7), none, .un .not (.tmp 6), 1⟩,
  ⟨(some 8), none, .mov (.tmp 7), 3⟩,
  ⟨(some 9), (some (8, false)), .call (.func i_spec_l10Is) [(.tmp 3)], 7⟩,
  ⟨(some 10), (some (8, false)), .un .not (.tmp 9), 15⟩,
  ⟨(some 11), none, .pick (.tmp 8) (.const (.bool true)) (.tmp 10), 31⟩,
  ⟨(some 12), none, .mov (.tmp 11), 63⟩,
  ⟨(some 13), (some (12, false)), .fieldAddr 0 (.tmp 2), 127⟩,
  ⟨(some 14), (some (12, false)), .loadN 5 (.tmp 13), 255⟩,
  ⟨(some 15), (some (12, false)), .fieldAddr 0 (.tmp 3), 127⟩,
  ⟨(some 16), (some (12, false)), .loadN 5 (.tmp 15), 639⟩,
  ⟨(some 17), (some (12, false)), .call (.func i_spec_SameSheet) [(.tmp 14), (.tmp 16)], 2047⟩,
  ⟨(some 18), (some (12, false)), .un .not (.tmp 17), 4095⟩,
  ⟨(some 19), none, .pick (.tmp 12) (.const (.bool true)) (.tmp 18), 8191⟩,
  ⟨(some 20), none, .mov (.tmp 19), 16383⟩,
  ⟨(some 21), (some (20, false)), .fieldAddr 5 (.tmp 2), 32767⟩,
  ⟨(some 22), (some (20, false)), .load1 (.tmp 21), 65535⟩,
  ⟨(some 23), (some (20, false)), .len false (.tmp 22), 131071⟩,
  ⟨(some 24), (some (20, false)), .fieldAddr 5 (.tmp 3), 32767⟩,
  ⟨(some 25), (some (20, false)), .load1 (.tmp 24), 294911⟩,
  ⟨(some 26), (some (20, false)), .len false (.tmp 25), 819199⟩,
  ⟨(some 27), (some (20, false)), .bin .neq .other (.tmp 23) (.tmp 26), 2097151⟩,
  ⟨(some 28), none, .pick (.tmp 20) (.const (.bool true)) (.tmp 27), 4194303⟩]
def spec_SameFilm_r2 : List SOper := [
  ⟨(some 4), none, .mov (.const (.bool false)), 0⟩]
def spec_SameFilm_r3 : List SOper := [
  ⟨(some 5), none, .mov (.const (.int .i64 0)), 0⟩]
def spec_SameFilm_r4 : List SOper := [
  ⟨(some 29), none, .mov (.tmp 5), 0⟩,
  ⟨(some 30), none, .fieldAddr 5 (.tmp 2), 0⟩,
  ⟨(some 31), none, .load1 (.tmp 30), 2⟩,
  ⟨(some 32), none, .len false (.tmp 31), 6⟩,
  ⟨(some 33), none, .bin .lss .other (.tmp 29) (.tmp 32), 15⟩]
def spec_SameFilm_r5 (i_spec_l02Same : FuncId) : List SOper := [
  ⟨(some 36), none, .fieldAddr 5 (.tmp 2), 0⟩,
  ⟨(some 37), none, .load1 (.tmp 36), 1⟩,
  ⟨(some 38), none, .mov (.tmp 5), 0⟩,
  ⟨(some 39), none, .indexAddrS 3 (.tmp 37) (.tmp 38), 7⟩,
  ⟨(some 40), none, .fieldAddr 5 (.tmp 3), 0⟩,
  ⟨(some 41), none, .load1 (.tmp 40), 16⟩,
  ⟨(some 42), none, .mov (.tmp 5), 0⟩,
  ⟨(some 43), none, .indexAddrS 3 (.tmp 41) (.tmp 42), 112⟩,
  ⟨(some 44), none, .call (.func i_spec_l02Same) [(.tmp 39), (.tmp 43)], 255⟩,
  ⟨(some 45), none, .un .not (.tmp 44), 511⟩]
def spec_SameFilm_r6 : List SOper := [
  ⟨(some 4), none, .mov (.const (.bool false)), 0⟩]
def spec_SameFilm_r7 : List SOper := [
  ⟨(some 34), none, .mov (.tmp 5), 0⟩,
  ⟨(some 35), none, .bin .add .other (.tmp 34) (.const (.int .i64 1)), 1⟩,
  ⟨(some 5), none, .mov (.tmp 35), 3⟩]
def spec_SameFilm_l8 (i_spec_l02Same : FuncId) : SCode := (.kp [2, 3, 5] (.seq (.seq (.region spec_SameFilm_r4 false) (.kp [2, 3, 5, 33] (.cond (.tmp 33) .skip (.exit 0)))) (.kp [2, 3, 5] (.seq (.block 1 (.seq (.region (spec_SameFilm_r5 i_spec_l02Same) true) (.kp [2, 3, 5, 45] (.cond (.tmp 45) (.seq (.region spec_SameFilm_r6 false) .ret) .skip)))) (.kp [2, 3, 5] (.region spec_SameFilm_r7 false))))))
def spec_SameFilm_r9 : List SOper := [
  ⟨(some 4), none, .mov (.const (.bool true)), 0⟩]
def spec_SameFilm (i_spec_l10Is i_spec_SameSheet i_spec_l02Same : FuncId) : SFunc := ⟨46, [.tmp 4], (.kp [0, 1] (.seq (.region spec_SameFilm_r0 false) (.kp [2, 3] (.seq (.seq (.region (spec_SameFilm_r1 i_spec_l10Is i_spec_SameSheet) false) (.kp [2, 3, 28] (.cond (.tmp 28) (.seq (.region spec_SameFilm_r2 false) .ret) .skip))) (.kp [2, 3] (.seq (.seq (.region spec_SameFilm_r3 false) (.kp [2, 3, 5] (.block 0 (.loop (spec_SameFilm_l8 i_spec_l02Same))))) (.kp [] (.seq (.region spec_SameFilm_r9 false) .ret))))))))⟩
theorem spec_SameFilm_r5_dr {i_spec_l02Same : FuncId} : drawOkW wStat (spec_SameFilm_r5 i_spec_l02Same) = true := by kernel_rfl
attribute [push_cast] spec_SameFilm_r5_dr
def sameFm (w h : Int) (wr : Bool) (sp lo : List Nat) (fs : List Fld) (w' h' : Int) (wr' : Bool) (sp' lo' : List Nat) (fs' : List Fld) : Bool :=
  isFilm w h wr sp lo fs && (isFilm w' h' wr' sp' lo' fs' && (sameSN w h wr sp lo w' h' wr' sp' lo' && sameFls fs fs'))
def SameFilm_ok (c : Contract) : Prop := ∀ (σ : Heap) (w h : Int) (wr : Bool) (sv lv fv : Value) (sp lo : List Nat) (fs : List Fld) (w' h' : Int) (wr' : Bool) (sv' lv' fv' : Value) (sp' lo' : List Nat) (fs' : List Fld), ShR σ sv lv sp lo → FlsR σ fv fs → ShR σ sv' lv' sp' lo' → FlsR σ fv' fs' →
    sp.length ≤ 1048576 → lo.length ≤ 1048576 → fitsF fs → sp'.length ≤ 1048576 → lo'.length ≤ 1048576 → fitsF fs' → in32 sp → in32 lo → in32 sp' → in32 lo' → lowF fs → lowF fs' →
    Ret c [fmV w h wr sv lv fv, fmV w' h' wr' sv' lv' fv'] σ fun v σ' => v = .bool (sameFm w h wr sp lo fs w' h' wr' sp' lo' fs') ∧ σ' = σ
abbrev impl_SameFilm_ok := SameFilm_ok
abbrev spec_SameFilm_ok := SameFilm_ok
theorem impl_SameFilm_law {C : Ctab} {i1 i2 i3 i4 : FuncId} {c1 c2 c3 c4 : Contract} (h1 : Has C i1 c1 impl_ValidFilm_ok) (h2 : Has C i2 c2 impl_SameSheetN_ok) (h3 : Has C i3 c3 (slices_EqualFunc_Field_ok i4 c4)) (h4 : Has C i4 c4 impl_SameField_ok) : impl_SameFilm_ok (gcC C (impl_SameFilm i1 i2 i3 i4) true) := by
  intro σ w h wr sv lv fv sp lo fs w' h' wr' sv' lv' fv' sp' lo' fs' ⟨r1, r2⟩ hf ⟨r3, r4⟩ hf' n1 n2 hfit n3 n4 hfit' b1_ b2_ b3_ b4_ hlo hlo'
  have k1 := r1.ok
  have k2 := r2.ok
  have k3 := hf.ok
  have k4 := r3.ok
  have k5 := r4.ok
  have k6 := hf'.ok
  have hV := fun τ => h1.ok (σ ++ τ) w h wr sv lv fv sp lo fs ⟨r1.ext _, r2.ext _⟩ (hf.ext _) n1 n2 hfit
  have hV' := fun τ => h1.ok (σ ++ τ) w' h' wr' sv' lv' fv' sp' lo' fs' ⟨r3.ext _, r4.ext _⟩ (hf'.ext _) n3 n4 hfit'
  have hS := fun τ => h2.ok (σ ++ τ) w h wr sv lv sp lo w' h' wr' sv' lv' sp' lo' ⟨r1.ext _, r2.ext _⟩ ⟨r3.ext _, r4.ext _⟩ n1 n2 n3 n4 (in32N_of b1_) (in32N_of b2_) (in32N_of b3_) (in32N_of b4_)
  have hE := fun τ => h3.ok (σ ++ τ) fv fv' fs fs' (hf.ext _) (hf'.ext _) hfit hfit' hlo hlo'
  unfold sameFm
  cases hI : isFilm w h wr sp lo fs
  · rw [Bool.false_and]
    refine ret_gc rfl rfl ?_
    repeat' (first | refine ff ?_ | ((first | refine EvR.aSplB ?_ ?_ | refine Ev.aSplB ?_ ?_) <;> (intro hb; (try rw [hb]); (try simp only [Bool.not_eq_true', Bool.not_eq_false', Bool.not_eq_eq_eq_not, Bool.not_true, Bool.not_false, decide_eq_true_eq, decide_eq_false_iff_not, Bool.and_eq_true, Bool.and_eq_false_iff, Bool.or_eq_true, Bool.or_eq_false_iff] at hb); (try (exfalso; first | omega | exact hb trivial)))) | (apply endS trivial; rotate_left; (· exact eva); (· rfl); try refine ⟨?_, rfl⟩) | fail)
    (apply EvR.aCall h1.at_; (· exact eva); (· exact  hV _); (rintro _ _ ⟨rfl, rfl⟩; refine EvR.nrm ?_))
    rw [hI]
    repeat' (first | refine ff ?_ | ((first | refine EvR.aSplB ?_ ?_ | refine Ev.aSplB ?_ ?_) <;> (intro hb; (try rw [hb]); (try simp only [Bool.not_eq_true', Bool.not_eq_false', Bool.not_eq_eq_eq_not, Bool.not_true, Bool.not_false, decide_eq_true_eq, decide_eq_false_iff_not, Bool.and_eq_true, Bool.and_eq_false_iff, Bool.or_eq_true, Bool.or_eq_false_iff] at hb); (try (exfalso; first | omega | exact hb trivial)))) | (apply endS trivial; rotate_left; (· exact eva); (· rfl); try refine ⟨?_, rfl⟩) | fail)
    all_goals (try rfl)
  cases hI' : isFilm w' h' wr' sp' lo' fs'
  · rw [Bool.false_and, Bool.and_false]
    refine ret_gc rfl rfl ?_
    repeat' (first | refine ff ?_ | ((first | refine EvR.aSplB ?_ ?_ | refine Ev.aSplB ?_ ?_) <;> (intro hb; (try rw [hb]); (try simp only [Bool.not_eq_true', Bool.not_eq_false', Bool.not_eq_eq_eq_not, Bool.not_true, Bool.not_false, decide_eq_true_eq, decide_eq_false_iff_not, Bool.and_eq_true, Bool.and_eq_false_iff, Bool.or_eq_true, Bool.or_eq_false_iff] at hb); (try (exfalso; first | omega | exact hb trivial)))) | (apply endS trivial; rotate_left; (· exact eva); (· rfl); try refine ⟨?_, rfl⟩) | fail)
    (apply EvR.aCall h1.at_; (· exact eva); (· exact  hV _); (rintro _ _ ⟨rfl, rfl⟩; refine EvR.nrm ?_))
    rw [hI]
    repeat' (first | refine ff ?_ | ((first | refine EvR.aSplB ?_ ?_ | refine Ev.aSplB ?_ ?_) <;> (intro hb; (try rw [hb]); (try simp only [Bool.not_eq_true', Bool.not_eq_false', Bool.not_eq_eq_eq_not, Bool.not_true, Bool.not_false, decide_eq_true_eq, decide_eq_false_iff_not, Bool.and_eq_true, Bool.and_eq_false_iff, Bool.or_eq_true, Bool.or_eq_false_iff] at hb); (try (exfalso; first | omega | exact hb trivial)))) | (apply endS trivial; rotate_left; (· exact eva); (· rfl); try refine ⟨?_, rfl⟩) | fail)
    (apply EvR.aCall h1.at_; (· exact eva); (· exact  hV' _); (rintro _ _ ⟨rfl, rfl⟩; refine EvR.nrm ?_))
    rw [hI']
    repeat' (first | refine ff ?_ | ((first | refine EvR.aSplB ?_ ?_ | refine Ev.aSplB ?_ ?_) <;> (intro hb; (try rw [hb]); (try simp only [Bool.not_eq_true', Bool.not_eq_false', Bool.not_eq_eq_eq_not, Bool.not_true, Bool.not_false, decide_eq_true_eq, decide_eq_false_iff_not, Bool.and_eq_true, Bool.and_eq_false_iff, Bool.or_eq_true, Bool.or_eq_false_iff] at hb); (try (exfalso; first | omega | exact hb trivial)))) | (apply endS trivial; rotate_left; (· exact eva); (· rfl); try refine ⟨?_, rfl⟩) | fail)
    all_goals (try rfl)
  cases hJ : sameSN w h wr sp lo w' h' wr' sp' lo'
  · rw [Bool.false_and, Bool.and_false, Bool.and_false]
    refine ret_gc rfl rfl ?_
    repeat' (first | refine ff ?_ | ((first | refine EvR.aSplB ?_ ?_ | refine Ev.aSplB ?_ ?_) <;> (intro hb; (try rw [hb]); (try simp only [Bool.not_eq_true', Bool.not_eq_false', Bool.not_eq_eq_eq_not, Bool.not_true, Bool.not_false, decide_eq_true_eq, decide_eq_false_iff_not, Bool.and_eq_true, Bool.and_eq_false_iff, Bool.or_eq_true, Bool.or_eq_false_iff] at hb); (try (exfalso; first | omega | exact hb trivial)))) | (apply endS trivial; rotate_left; (· exact eva); (· rfl); try refine ⟨?_, rfl⟩) | fail)
    (apply EvR.aCall h1.at_; (· exact eva); (· exact  hV _); (rintro _ _ ⟨rfl, rfl⟩; refine EvR.nrm ?_))
    rw [hI]
    repeat' (first | refine ff ?_ | ((first | refine EvR.aSplB ?_ ?_ | refine Ev.aSplB ?_ ?_) <;> (intro hb; (try rw [hb]); (try simp only [Bool.not_eq_true', Bool.not_eq_false', Bool.not_eq_eq_eq_not, Bool.not_true, Bool.not_false, decide_eq_true_eq, decide_eq_false_iff_not, Bool.and_eq_true, Bool.and_eq_false_iff, Bool.or_eq_true, Bool.or_eq_false_iff] at hb); (try (exfalso; first | omega | exact hb trivial)))) | (apply endS trivial; rotate_left; (· exact eva); (· rfl); try refine ⟨?_, rfl⟩) | fail)
    (apply EvR.aCall h1.at_; (· exact eva); (· exact  hV' _); (rintro _ _ ⟨rfl, rfl⟩; refine EvR.nrm ?_))
    rw [hI']
    repeat' (first | refine ff ?_ | ((first | refine EvR.aSplB ?_ ?_ | refine Ev.aSplB ?_ ?_) <;> (intro hb; (try rw [hb]); (try simp only [Bool.not_eq_true', Bool.not_eq_false', Bool.not_eq_eq_eq_not, Bool.not_true, Bool.not_false, decide_eq_true_eq, decide_eq_false_iff_not, Bool.and_eq_true, Bool.and_eq_false_iff, Bool.or_eq_true, Bool.or_eq_false_iff] at hb); (try (exfalso; first | omega | exact hb trivial)))) | (apply endS trivial; rotate_left; (· exact eva); (· rfl); try refine ⟨?_, rfl⟩) | fail)
    (apply EvR.aCall h2.at_; (· exact eva); (· exact  hS _); (rintro _ _ ⟨rfl, rfl⟩; refine EvR.nrm ?_))
    rw [hJ]
    repeat' (first | refine ff ?_ | ((first | refine EvR.aSplB ?_ ?_ | refine Ev.aSplB ?_ ?_) <;> (intro hb; (try rw [hb]); (try simp only [Bool.not_eq_true', Bool.not_eq_false', Bool.not_eq_eq_eq_not, Bool.not_true, Bool.not_false, decide_eq_true_eq, decide_eq_false_iff_not, Bool.and_eq_true, Bool.and_eq_false_iff, Bool.or_eq_true, Bool.or_eq_false_iff] at hb); (try (exfalso; first | omega | exact hb trivial)))) | (apply endS trivial; rotate_left; (· exact eva); (· rfl); try refine ⟨?_, rfl⟩) | fail)
    all_goals (try rfl)
  rw [Bool.true_and, Bool.true_and, Bool.true_and]
  refine ret_gc rfl rfl ?_
  repeat' (first | refine ff ?_ | ((first | refine EvR.aSplB ?_ ?_ | refine Ev.aSplB ?_ ?_) <;> (intro hb; (try rw [hb]); (try simp only [Bool.not_eq_true', Bool.not_eq_false', Bool.not_eq_eq_eq_not, Bool.not_true, Bool.not_false, decide_eq_true_eq, decide_eq_false_iff_not, Bool.and_eq_true, Bool.and_eq_false_iff, Bool.or_eq_true, Bool.or_eq_false_iff] at hb); (try (exfalso; first | omega | exact hb trivial)))) | (apply endS trivial; rotate_left; (· exact eva); (· rfl); try refine ⟨?_, rfl⟩) | fail)
  (apply EvR.aCall h1.at_; (· exact eva); (· exact  hV _); (rintro _ _ ⟨rfl, rfl⟩; refine EvR.nrm ?_))
  rw [hI]
  repeat' (first | refine ff ?_ | ((first | refine EvR.aSplB ?_ ?_ | refine Ev.aSplB ?_ ?_) <;> (intro hb; (try rw [hb]); (try simp only [Bool.not_eq_true', Bool.not_eq_false', Bool.not_eq_eq_eq_not, Bool.not_true, Bool.not_false, decide_eq_true_eq, decide_eq_false_iff_not, Bool.and_eq_true, Bool.and_eq_false_iff, Bool.or_eq_true, Bool.or_eq_false_iff] at hb); (try (exfalso; first | omega | exact hb trivial)))) | (apply endS trivial; rotate_left; (· exact eva); (· rfl); try refine ⟨?_, rfl⟩) | fail)
  (apply EvR.aCall h1.at_; (· exact eva); (· exact  hV' _); (rintro _ _ ⟨rfl, rfl⟩; refine EvR.nrm ?_))
  rw [hI']
  repeat' (first | refine ff ?_ | ((first | refine EvR.aSplB ?_ ?_ | refine Ev.aSplB ?_ ?_) <;> (intro hb; (try rw [hb]); (try simp only [Bool.not_eq_true', Bool.not_eq_false', Bool.not_eq_eq_eq_not, Bool.not_true, Bool.not_false, decide_eq_true_eq, decide_eq_false_iff_not, Bool.and_eq_true, Bool.and_eq_false_iff, Bool.or_eq_true, Bool.or_eq_false_iff] at hb); (try (exfalso; first | omega | exact hb trivial)))) | (apply endS trivial; rotate_left; (· exact eva); (· rfl); try refine ⟨?_, rfl⟩) | fail)
  (apply EvR.aCall h2.at_; (· exact eva); (· exact  hS _); (rintro _ _ ⟨rfl, rfl⟩; refine EvR.nrm ?_))
  rw [hJ]
  repeat' (first | refine ff ?_ | ((first | refine EvR.aSplB ?_ ?_ | refine Ev.aSplB ?_ ?_) <;> (intro hb; (try rw [hb]); (try simp only [Bool.not_eq_true', Bool.not_eq_false', Bool.not_eq_eq_eq_not, Bool.not_true, Bool.not_false, decide_eq_true_eq, decide_eq_false_iff_not, Bool.and_eq_true, Bool.and_eq_false_iff, Bool.or_eq_true, Bool.or_eq_false_iff] at hb); (try (exfalso; first | omega | exact hb trivial)))) | (apply endS trivial; rotate_left; (· exact eva); (· rfl); try refine ⟨?_, rfl⟩) | fail)
  (apply EvR.aCall h3.at_; (· exact eva); (· exact  hE _); (rintro _ _ ⟨rfl, rfl⟩; refine EvR.nrm ?_))
  repeat' (first | refine ff ?_ | ((first | refine EvR.aSplB ?_ ?_ | refine Ev.aSplB ?_ ?_) <;> (intro hb; (try rw [hb]); (try simp only [Bool.not_eq_true', Bool.not_eq_false', Bool.not_eq_eq_eq_not, Bool.not_true, Bool.not_false, decide_eq_true_eq, decide_eq_false_iff_not, Bool.and_eq_true, Bool.and_eq_false_iff, Bool.or_eq_true, Bool.or_eq_false_iff] at hb); (try (exfalso; first | omega | exact hb trivial)))) | (apply endS trivial; rotate_left; (· exact eva); (· rfl); try refine ⟨?_, rfl⟩) | fail)
  all_goals (try rfl)
theorem spec_SameFilm_law {C : Ctab} {i1 i2 i3 : FuncId} {c1 c2 c3 : Contract} (h1 : Has C i1 c1 spec_l10Is_ok) (h2 : Has C i2 c2 spec_SameSheetN_ok) (h3 : Has C i3 c3 spec_l02Same_ok) : spec_SameFilm_ok (gcC C (spec_SameFilm i1 i2 i3) true) := by
  intro σ w h wr sv lv fv sp lo fs w' h' wr' sv' lv' fv' sp' lo' fs' ⟨r1, r2⟩ hf ⟨r3, r4⟩ hf' n1 n2 hfit n3 n4 hfit' b1_ b2_ b3_ b4_ hlo hlo'
  obtain ⟨cs, hrow, hcs⟩ := hf.ex
  obtain ⟨ds, hrow', hds⟩ := hf'.ex
  have k1 := r1.ok
  have k2 := r2.ok
  have k3 := hf.ok
  have k4 := r3.ok
  have k5 := r4.ok
  have k6 := hf'.ok
  have hV := fun l (hp : PtAt (σ ++ l) (σ.length + 0) 0 [.int .i64 w, .int .i64 h, .bool wr, sv, lv, fv]) => h1.ok (σ ++ l) (σ.length + 0) w h wr sv lv fv sp lo fs hp ⟨r1.ext _, r2.ext _⟩ (hf.ext _) n1 n2 hfit
  have hV' := fun l (hp : PtAt (σ ++ l) (σ.length + 1) 0 [.int .i64 w', .int .i64 h', .bool wr', sv', lv', fv']) => h1.ok (σ ++ l) (σ.length + 1) w' h' wr' sv' lv' fv' sp' lo' fs' hp ⟨r3.ext _, r4.ext _⟩ (hf'.ext _) n3 n4 hfit'
  have hS := fun τ => h2.ok (σ ++ τ) w h wr sv lv sp lo w' h' wr' sv' lv' sp' lo' ⟨r1.ext _, r2.ext _⟩ ⟨r3.ext _, r4.ext _⟩ n1 n2 n3 n4 (in32N_of b1_) (in32N_of b2_) (in32N_of b3_) (in32N_of b4_)
  unfold sameFm
  cases hI : isFilm w h wr sp lo fs
  · rw [Bool.false_and]
    refine ret_gc rfl rfl ?_
    repeat' (first | refine ff ?_ | ((first | refine EvR.aSplB ?_ ?_ | refine Ev.aSplB ?_ ?_) <;> (intro hb; (try rw [hb]); (try simp only [Bool.not_eq_true', Bool.not_eq_false', Bool.not_eq_eq_eq_not, Bool.not_true, Bool.not_false, decide_eq_true_eq, decide_eq_false_iff_not, Bool.and_eq_true, Bool.and_eq_false_iff, Bool.or_eq_true, Bool.or_eq_false_iff] at hb); (try (exfalso; first | omega | exact hb trivial)))) | (apply endS trivial; rotate_left; (· exact eva); (· rfl); try refine ⟨?_, rfl⟩) | fail)
    (apply EvR.aCall h1.at_; (· exact eva); (· exact  hV _ (PtAt.own rfl)); (rintro _ _ ⟨rfl, rfl⟩; refine EvR.nrm ?_))
    rw [hI]
    repeat' (first | refine ff ?_ | ((first | refine EvR.aSplB ?_ ?_ | refine Ev.aSplB ?_ ?_) <;> (intro hb; (try rw [hb]); (try simp only [Bool.not_eq_true', Bool.not_eq_false', Bool.not_eq_eq_eq_not, Bool.not_true, Bool.not_false, decide_eq_true_eq, decide_eq_false_iff_not, Bool.and_eq_true, Bool.and_eq_false_iff, Bool.or_eq_true, Bool.or_eq_false_iff] at hb); (try (exfalso; first | omega | exact hb trivial)))) | (apply endS trivial; rotate_left; (· exact eva); (· rfl); try refine ⟨?_, rfl⟩) | fail)
    all_goals (try rfl)
  cases hI' : isFilm w' h' wr' sp' lo' fs'
  · rw [Bool.false_and, Bool.and_false]
    refine ret_gc rfl rfl ?_
    repeat' (first | refine ff ?_ | ((first | refine EvR.aSplB ?_ ?_ | refine Ev.aSplB ?_ ?_) <;> (intro hb; (try rw [hb]); (try simp only [Bool.not_eq_true', Bool.not_eq_false', Bool.not_eq_eq_eq_not, Bool.not_true, Bool.not_false, decide_eq_true_eq, decide_eq_false_iff_not, Bool.and_eq_true, Bool.and_eq_false_iff, Bool.or_eq_true, Bool.or_eq_false_iff] at hb); (try (exfalso; first | omega | exact hb trivial)))) | (apply endS trivial; rotate_left; (· exact eva); (· rfl); try refine ⟨?_, rfl⟩) | fail)
    (apply EvR.aCall h1.at_; (· exact eva); (· exact  hV _ (PtAt.own rfl)); (rintro _ _ ⟨rfl, rfl⟩; refine EvR.nrm ?_))
    rw [hI]
    repeat' (first | refine ff ?_ | ((first | refine EvR.aSplB ?_ ?_ | refine Ev.aSplB ?_ ?_) <;> (intro hb; (try rw [hb]); (try simp only [Bool.not_eq_true', Bool.not_eq_false', Bool.not_eq_eq_eq_not, Bool.not_true, Bool.not_false, decide_eq_true_eq, decide_eq_false_iff_not, Bool.and_eq_true, Bool.and_eq_false_iff, Bool.or_eq_true, Bool.or_eq_false_iff] at hb); (try (exfalso; first | omega | exact hb trivial)))) | (apply endS trivial; rotate_left; (· exact eva); (· rfl); try refine ⟨?_, rfl⟩) | fail)
    (apply EvR.aCall h1.at_; (· exact eva); (· exact  hV' _ (PtAt.own rfl)); (rintro _ _ ⟨rfl, rfl⟩; refine EvR.nrm ?_))
    rw [hI']
    repeat' (first | refine ff ?_ | ((first | refine EvR.aSplB ?_ ?_ | refine Ev.aSplB ?_ ?_) <;> (intro hb; (try rw [hb]); (try simp only [Bool.not_eq_true', Bool.not_eq_false', Bool.not_eq_eq_eq_not, Bool.not_true, Bool.not_false, decide_eq_true_eq, decide_eq_false_iff_not, Bool.and_eq_true, Bool.and_eq_false_iff, Bool.or_eq_true, Bool.or_eq_false_iff] at hb); (try (exfalso; first | omega | exact hb trivial)))) | (apply endS trivial; rotate_left; (· exact eva); (· rfl); try refine ⟨?_, rfl⟩) | fail)
    all_goals (try rfl)
  cases hJ : sameSN w h wr sp lo w' h' wr' sp' lo'
  · rw [Bool.false_and, Bool.and_false, Bool.and_false]
    refine ret_gc rfl rfl ?_
    repeat' (first | refine ff ?_ | ((first | refine EvR.aSplB ?_ ?_ | refine Ev.aSplB ?_ ?_) <;> (intro hb; (try rw [hb]); (try simp only [Bool.not_eq_true', Bool.not_eq_false', Bool.not_eq_eq_eq_not, Bool.not_true, Bool.not_false, decide_eq_true_eq, decide_eq_false_iff_not, Bool.and_eq_true, Bool.and_eq_false_iff, Bool.or_eq_true, Bool.or_eq_false_iff] at hb); (try (exfalso; first | omega | exact hb trivial)))) | (apply endS trivial; rotate_left; (· exact eva); (· rfl); try refine ⟨?_, rfl⟩) | fail)
    (apply EvR.aCall h1.at_; (· exact eva); (· exact  hV _ (PtAt.own rfl)); (rintro _ _ ⟨rfl, rfl⟩; refine EvR.nrm ?_))
    rw [hI]
    repeat' (first | refine ff ?_ | ((first | refine EvR.aSplB ?_ ?_ | refine Ev.aSplB ?_ ?_) <;> (intro hb; (try rw [hb]); (try simp only [Bool.not_eq_true', Bool.not_eq_false', Bool.not_eq_eq_eq_not, Bool.not_true, Bool.not_false, decide_eq_true_eq, decide_eq_false_iff_not, Bool.and_eq_true, Bool.and_eq_false_iff, Bool.or_eq_true, Bool.or_eq_false_iff] at hb); (try (exfalso; first | omega | exact hb trivial)))) | (apply endS trivial; rotate_left; (· exact eva); (· rfl); try refine ⟨?_, rfl⟩) | fail)
    (apply EvR.aCall h1.at_; (· exact eva); (· exact  hV' _ (PtAt.own rfl)); (rintro _ _ ⟨rfl, rfl⟩; refine EvR.nrm ?_))
    rw [hI']
    repeat' (first | refine ff ?_ | ((first | refine EvR.aSplB ?_ ?_ | refine Ev.aSplB ?_ ?_) <;> (intro hb; (try rw [hb]); (try simp only [Bool.not_eq_true', Bool.not_eq_false', Bool.not_eq_eq_eq_not, Bool.not_true, Bool.not_false, decide_eq_true_eq, decide_eq_false_iff_not, Bool.and_eq_true, Bool.and_eq_false_iff, Bool.or_eq_true, Bool.or_eq_false_iff] at hb); (try (exfalso; first | omega | exact hb trivial)))) | (apply endS trivial; rotate_left; (· exact eva); (· rfl); try refine ⟨?_, rfl⟩) | fail)
    (apply EvR.aCall h2.at_; (· exact eva); (· exact  hS _); (rintro _ _ ⟨rfl, rfl⟩; refine EvR.nrm ?_))
    rw [hJ]
    repeat' (first | refine ff ?_ | ((first | refine EvR.aSplB ?_ ?_ | refine Ev.aSplB ?_ ?_) <;> (intro hb; (try rw [hb]); (try simp only [Bool.not_eq_true', Bool.not_eq_false', Bool.not_eq_eq_eq_not, Bool.not_true, Bool.not_false, decide_eq_true_eq, decide_eq_false_iff_not, Bool.and_eq_true, Bool.and_eq_false_iff, Bool.or_eq_true, Bool.or_eq_false_iff] at hb); (try (exfalso; first | omega | exact hb trivial)))) | (apply endS trivial; rotate_left; (· exact eva); (· rfl); try refine ⟨?_, rfl⟩) | fail)
    all_goals (try rfl)
  rw [Bool.true_and, Bool.true_and, Bool.true_and]
  by_cases hlen : fs.length = fs'.length
  rotate_left
  · rw [sameFls_len hlen]
    refine ret_gc rfl rfl ?_
    repeat' (first | refine ff ?_ | ((first | refine EvR.aSplB ?_ ?_ | refine Ev.aSplB ?_ ?_) <;> (intro hb; (try rw [hb]); (try simp only [Bool.not_eq_true', Bool.not_eq_false', Bool.not_eq_eq_eq_not, Bool.not_true, Bool.not_false, decide_eq_true_eq, decide_eq_false_iff_not, Bool.and_eq_true, Bool.and_eq_false_iff, Bool.or_eq_true, Bool.or_eq_false_iff] at hb); (try (exfalso; first | omega | exact hb trivial)))) | (apply endS trivial; rotate_left; (· exact eva); (· rfl); try refine ⟨?_, rfl⟩) | fail)
    (apply EvR.aCall h1.at_; (· exact eva); (· exact  hV _ (PtAt.own rfl)); (rintro _ _ ⟨rfl, rfl⟩; refine EvR.nrm ?_))
    rw [hI]
    repeat' (first | refine ff ?_ | ((first | refine EvR.aSplB ?_ ?_ | refine Ev.aSplB ?_ ?_) <;> (intro hb; (try rw [hb]); (try simp only [Bool.not_eq_true', Bool.not_eq_false', Bool.not_eq_eq_eq_not, Bool.not_true, Bool.not_false, decide_eq_true_eq, decide_eq_false_iff_not, Bool.and_eq_true, Bool.and_eq_false_iff, Bool.or_eq_true, Bool.or_eq_false_iff] at hb); (try (exfalso; first | omega | exact hb trivial)))) | (apply endS trivial; rotate_left; (· exact eva); (· rfl); try refine ⟨?_, rfl⟩) | fail)
    (apply EvR.aCall h1.at_; (· exact eva); (· exact  hV' _ (PtAt.own rfl)); (rintro _ _ ⟨rfl, rfl⟩; refine EvR.nrm ?_))
    rw [hI']
    repeat' (first | refine ff ?_ | ((first | refine EvR.aSplB ?_ ?_ | refine Ev.aSplB ?_ ?_) <;> (intro hb; (try rw [hb]); (try simp only [Bool.not_eq_true', Bool.not_eq_false', Bool.not_eq_eq_eq_not, Bool.not_true, Bool.not_false, decide_eq_true_eq, decide_eq_false_iff_not, Bool.and_eq_true, Bool.and_eq_false_iff, Bool.or_eq_true, Bool.or_eq_false_iff] at hb); (try (exfalso; first | omega | exact hb trivial)))) | (apply endS trivial; rotate_left; (· exact eva); (· rfl); try refine ⟨?_, rfl⟩) | fail)
    (apply EvR.aCall h2.at_; (· exact eva); (· exact  hS _); (rintro _ _ ⟨rfl, rfl⟩; refine EvR.nrm ?_))
    rw [hJ]
    repeat' (first | refine ff ?_ | ((first | refine EvR.aSplB ?_ ?_ | refine Ev.aSplB ?_ ?_) <;> (intro hb; (try rw [hb]); (try simp only [Bool.not_eq_true', Bool.not_eq_false', Bool.not_eq_eq_eq_not, Bool.not_true, Bool.not_false, decide_eq_true_eq, decide_eq_false_iff_not, Bool.and_eq_true, Bool.and_eq_false_iff, Bool.or_eq_true, Bool.or_eq_false_iff] at hb); (try (exfalso; first | omega | exact hb trivial)))) | (apply endS trivial; rotate_left; (· exact eva); (· rfl); try refine ⟨?_, rfl⟩) | fail)
    all_goals (try rfl)
  obtain ⟨T, hT⟩ : ∃ T, sameFls fs fs' = T := ⟨_, rfl⟩
  rw [hT]
  have hn := hfit.1
  refine ret_gc rfl rfl ?_
  repeat' (first | refine ff ?_ | ((first | refine EvR.aSplB ?_ ?_ | refine Ev.aSplB ?_ ?_) <;> (intro hb; (try rw [hb]); (try simp only [Bool.not_eq_true', Bool.not_eq_false', Bool.not_eq_eq_eq_not, Bool.not_true, Bool.not_false, decide_eq_true_eq, decide_eq_false_iff_not, Bool.and_eq_true, Bool.and_eq_false_iff, Bool.or_eq_true, Bool.or_eq_false_iff] at hb); (try (exfalso; first | omega | exact hb trivial)))) | (apply endS trivial; rotate_left; (· exact eva); (· rfl); try refine ⟨?_, rfl⟩) | fail)
  (apply EvR.aCall h1.at_; (· exact eva); (· exact  hV _ (PtAt.own rfl)); (rintro _ _ ⟨rfl, rfl⟩; refine EvR.nrm ?_))
  rw [hI]
  repeat' (first | refine ff ?_ | ((first | refine EvR.aSplB ?_ ?_ | refine Ev.aSplB ?_ ?_) <;> (intro hb; (try rw [hb]); (try simp only [Bool.not_eq_true', Bool.not_eq_false', Bool.not_eq_eq_eq_not, Bool.not_true, Bool.not_false, decide_eq_true_eq, decide_eq_false_iff_not, Bool.and_eq_true, Bool.and_eq_false_iff, Bool.or_eq_true, Bool.or_eq_false_iff] at hb); (try (exfalso; first | omega | exact hb trivial)))) | (apply endS trivial; rotate_left; (· exact eva); (· rfl); try refine ⟨?_, rfl⟩) | fail)
  (apply EvR.aCall h1.at_; (· exact eva); (· exact  hV' _ (PtAt.own rfl)); (rintro _ _ ⟨rfl, rfl⟩; refine EvR.nrm ?_))
  rw [hI']
  repeat' (first | refine ff ?_ | ((first | refine EvR.aSplB ?_ ?_ | refine Ev.aSplB ?_ ?_) <;> (intro hb; (try rw [hb]); (try simp only [Bool.not_eq_true', Bool.not_eq_false', Bool.not_eq_eq_eq_not, Bool.not_true, Bool.not_false, decide_eq_true_eq, decide_eq_false_iff_not, Bool.and_eq_true, Bool.and_eq_false_iff, Bool.or_eq_true, Bool.or_eq_false_iff] at hb); (try (exfalso; first | omega | exact hb trivial)))) | (apply endS trivial; rotate_left; (· exact eva); (· rfl); try refine ⟨?_, rfl⟩) | fail)
  (apply EvR.aCall h2.at_; (· exact eva); (· exact  hS _); (rintro _ _ ⟨rfl, rfl⟩; refine EvR.nrm ?_))
  rw [hJ]
  repeat' (first | refine ff ?_ | ((first | refine EvR.aSplB ?_ ?_ | refine Ev.aSplB ?_ ?_) <;> (intro hb; (try rw [hb]); (try simp only [Bool.not_eq_true', Bool.not_eq_false', Bool.not_eq_eq_eq_not, Bool.not_true, Bool.not_false, decide_eq_true_eq, decide_eq_false_iff_not, Bool.and_eq_true, Bool.and_eq_false_iff, Bool.or_eq_true, Bool.or_eq_false_iff] at hb); (try (exfalso; first | omega | exact hb trivial)))) | (apply endS trivial; rotate_left; (· exact eva); (· rfl); try refine ⟨?_, rfl⟩) | fail)
  refine Ev.whlC (S := Nat) (fun i => fs.length - i) (fun i => [(5, .int .i64 i)]) (fun i => i ≤ fs.length ∧ sameFls (fs.drop i) (fs'.drop i) = T) 0 (by (simp only [List.cons_append, List.nil_append, ↓fget_cons, push_cast, Nat.reduceEqDiff, reduceIte] <;> rfl)) ⟨Nat.zero_le _, hT⟩ ?_
  rintro i F hF ⟨hi, hg⟩
  (simp only [List.cons_append, List.nil_append, ↓fget_cons, fkeep_cons, fkeep_nil, Nat.reduceEqDiff, reduceIte] at hF; subst hF)
  by_cases hlt : i < fs.length
  · obtain ⟨f, hfi⟩ : ∃ f, fs[i]? = some f := ⟨_, List.getElem?_eq_getElem hlt⟩
    obtain ⟨g, hgi⟩ : ∃ g, fs'[i]? = some g := ⟨_, List.getElem?_eq_getElem (by omega)⟩
    obtain ⟨a, b, c, hc, hfl⟩ := hcs.get hfi
    obtain ⟨a', b', c', hc', hfl'⟩ := hds.get hgi
    rw [sameFls_step hfi hgi] at hg
    obtain ⟨p, o, n, he, hpe⟩ := hrow.elem hlt hc
    obtain ⟨p', o', n', he', hpe'⟩ := hrow'.elem (show i < fs'.length by omega) hc'
    repeat' (first | refine ff ?_ | ((first | refine EvR.aSplB ?_ ?_ | refine Ev.aSplB ?_ ?_) <;> (intro hb; (try rw [hb]); (try simp only [Bool.not_eq_true', Bool.not_eq_false', Bool.not_eq_eq_eq_not, Bool.not_true, Bool.not_false, decide_eq_true_eq, decide_eq_false_iff_not, Bool.and_eq_true, Bool.and_eq_false_iff, Bool.or_eq_true, Bool.or_eq_false_iff] at hb); (try (exfalso; first | omega | exact hb trivial)))) | (apply endS trivial; rotate_left; (· exact eva); (· rfl); try refine ⟨?_, rfl⟩) | fail)
    rw [he, he']
    (apply EvR.aCall h3.at_; (· exact eva); (· exact  h3.ok _ p o n p' o' n' a b c a' b' c' f g (hpe.ext _) (hpe'.ext _) (by exact hfl.ext _) (by exact hfl'.ext _) (hfit.2 f (List.mem_of_getElem? hfi)) (hfit'.2 g (List.mem_of_getElem? hgi)) (hlo f (List.mem_of_getElem? hfi)) (hlo' g (List.mem_of_getElem? hgi))); (rintro _ _ ⟨rfl, rfl⟩; refine EvR.nrm ?_))
    cases hs : sameFl f g
    · rw [hs, Bool.false_and] at hg
      repeat' (first | refine ff ?_ | ((first | refine EvR.aSplB ?_ ?_ | refine Ev.aSplB ?_ ?_) <;> (intro hb; (try rw [hb]); (try simp only [Bool.not_eq_true', Bool.not_eq_false', Bool.not_eq_eq_eq_not, Bool.not_true, Bool.not_false, decide_eq_true_eq, decide_eq_false_iff_not, Bool.and_eq_true, Bool.and_eq_false_iff, Bool.or_eq_true, Bool.or_eq_false_iff] at hb); (try (exfalso; first | omega | exact hb trivial)))) | (apply endS trivial; rotate_left; (· exact eva); (· rfl); try refine ⟨?_, rfl⟩) | fail)
      all_goals (try (rw [← hg]))
    · rw [hs, Bool.true_and] at hg
      repeat' (first | refine ff ?_ | ((first | refine EvR.aSplB ?_ ?_ | refine Ev.aSplB ?_ ?_) <;> (intro hb; (try rw [hb]); (try simp only [Bool.not_eq_true', Bool.not_eq_false', Bool.not_eq_eq_eq_not, Bool.not_true, Bool.not_false, decide_eq_true_eq, decide_eq_false_iff_not, Bool.and_eq_true, Bool.and_eq_false_iff, Bool.or_eq_true, Bool.or_eq_false_iff] at hb); (try (exfalso; first | omega | exact hb trivial)))) | (apply endS trivial; rotate_left; (· exact eva); (· rfl); try refine ⟨?_, rfl⟩) | fail)
      exact ⟨i + 1, by omega, by (simp only [List.cons_append, List.nil_append, ↓fget_cons, push_cast, Nat.reduceEqDiff, reduceIte] <;> rfl), rfl, by omega, hg⟩
  · obtain rfl : i = fs.length := by omega
    rw [List.drop_length, hlen, List.drop_length] at hg
    rw [← hg]
    repeat' (first | refine ff ?_ | ((first | refine EvR.aSplB ?_ ?_ | refine Ev.aSplB ?_ ?_) <;> (intro hb; (try rw [hb]); (try simp only [Bool.not_eq_true', Bool.not_eq_false', Bool.not_eq_eq_eq_not, Bool.not_true, Bool.not_false, decide_eq_true_eq, decide_eq_false_iff_not, Bool.and_eq_true, Bool.and_eq_false_iff, Bool.or_eq_true, Bool.or_eq_false_iff] at hb); (try (exfalso; first | omega | exact hb trivial)))) | (apply endS trivial; rotate_left; (· exact eva); (· rfl); try refine ⟨?_, rfl⟩) | fail)
    all_goals (try rfl)

theorem flsC_low {σ : Heap} : ∀ {fs : List Fl3} {cs : List Value}, flsAbs σ fs cs → lowF (fs.map fl3)
  | [], [], _ => fun f hf => by simp at hf
  | g :: _, _ :: _ :: _ :: _, h => fun f hf => by
    rw [List.map_cons, List.mem_cons] at hf
    rcases hf with rfl | hf
    · exact ⟨in32N_of fun x hx => wf32 (h.1.2.2 x hx), in32N_of fun x hx => wf32 (h.2.1.2.2 x hx), in32N_of fun x hx => wf32 (h.2.2.1.2.2 x hx)⟩
    · exact flsC_low h.2.2.2 f hf
  | [], _ :: _, h => h.elim
  | _ :: _, [], h => h.elim
  | _ :: _, [_], h => h.elim
  | _ :: _, [_, _], h => h.elim
theorem film_absL {σ : Heap} {v : Value} (h : argAbs σ true [.int .i64, .int .i64, .bool, .rowF .f32, .rowF .f32, .rowFl] v) :
    ∃ w h wr sv lv fv sp lo fs, v = fmV w h wr sv lv fv ∧ ShR σ sv lv sp lo ∧ FlsR σ fv fs ∧ sp.length ≤ 9223372036854775807 ∧ lo.length ≤ 9223372036854775807 ∧ bigF fs ∧ in32 sp ∧ in32 lo ∧ lowF fs := by
  obtain ⟨cs, h1, h2⟩ := h
  obtain ⟨_, _, rfl, ⟨w, rfl, hw⟩, g1⟩ := absAll_cons h1
  obtain ⟨_, _, rfl, ⟨h, rfl, hh⟩, g2⟩ := absAll_cons g1
  obtain ⟨_, _, rfl, ⟨wr, rfl⟩, g3⟩ := absAll_cons g2
  obtain ⟨_, _, rfl, ⟨sp, hs, hs2, hs3⟩, g4⟩ := absAll_cons g3
  obtain ⟨_, _, rfl, ⟨lo, hl, hl2, hl3⟩, g5⟩ := absAll_cons g4
  obtain ⟨_, _, rfl, ⟨fs, cs', hr, hf, hn⟩, g6⟩ := absAll_cons g5
  cases absAll_nil g6
  rw [maxLen_eq] at hs2 hl2 hn
  exact ⟨w, h, wr, _, _, _, sp, lo, fs.map fl3, h2, ⟨hs, hl⟩, ⟨cs', by rw [List.length_map]; exact hr, flsC_abs hf⟩, hs2, hl2, ⟨by rw [List.length_map]; exact hn, flsC_big hf⟩, fun x hx => wf32 (hs3 x hx), fun x hx => wf32 (hl3 x hx), flsC_low hf⟩
end Go.Abs

