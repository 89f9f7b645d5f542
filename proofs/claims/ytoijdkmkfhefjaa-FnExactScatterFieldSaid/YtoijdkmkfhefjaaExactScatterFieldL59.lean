/- Laws of functions: what a sheet scatters, by the reference. Conditions: the laws of what they call. -/
import Derived.Test.YtoijdkmkfhefjaaExactScatterFieldL58
namespace Go.Abs

set_option linter.unusedSimpArgs false
set_option linter.unusedVariables false
set_option maxHeartbeats 8000000
set_option maxRecDepth 20000
/- loop.example/g01201/spec.ScatterField -/
def spec_ScatterField_r0 : List SOper := [
  ⟨(some 4), none, .box (.tmp 0), 0⟩,
  ⟨(some 5), none, .box (.tmp 1), 0⟩,
  ⟨(some 6), none, .box (.tmp 2), 0⟩,
  ⟨(some 8), none, .alloc [(.slice none 0 0), (.slice none 0 0), (.slice none 0 0)], 0⟩,
  ⟨(some 9), none, .mov (.const (.bool false)), 0⟩]
def spec_ScatterField_r1 (i_spec_l03Both : FuncId) : List SOper := [
  ⟨(some 16), none, .call (.func i_spec_l03Both) [(.tmp 4), (.tmp 6)], 0⟩,
  ⟨(some 17), none, .un .not (.tmp 16), 1⟩,
  ⟨(some 18), none, .mov (.tmp 17), 3⟩,
  ⟨(some 19), (some (18, false)), .call (.func i_spec_l03Both) [(.tmp 5), (.tmp 6)], 7⟩,
  ⟨(some 20), (some (18, false)), .un .not (.tmp 19), 15⟩,
  ⟨(some 21), none, .pick (.tmp 18) (.const (.bool true)) (.tmp 20), 31⟩,
  ⟨(some 22), none, .mov (.tmp 21), 63⟩,
  ⟨(some 23), (some (22, false)), .fieldAddr 0 (.tmp 4), 127⟩,
  ⟨(some 24), (some (22, false)), .load1 (.tmp 23), 255⟩,
  ⟨(some 25), (some (22, false)), .fieldAddr 0 (.tmp 5), 127⟩,
  ⟨(some 26), (some (22, false)), .load1 (.tmp 25), 639⟩,
  ⟨(some 27), (some (22, false)), .bin .neq .other (.tmp 24) (.tmp 26), 2047⟩,
  ⟨(some 28), none, .pick (.tmp 22) (.const (.bool true)) (.tmp 27), 4095⟩,
  ⟨(some 29), none, .mov (.tmp 28), 8191⟩,
  ⟨(some 30), (some (29, false)), .fieldAddr 1 (.tmp 4), 16383⟩,
  ⟨(some 31), (some (29, false)), .load1 (.tmp 30), 32767⟩,
  ⟨(some 32), (some (29, false)), .fieldAddr 1 (.tmp 5), 16383⟩,
  ⟨(some 33), (some (29, false)), .load1 (.tmp 32), 81919⟩,
  ⟨(some 34), (some (29, false)), .bin .neq .other (.tmp 31) (.tmp 33), 262143⟩,
  ⟨(some 35), none, .pick (.tmp 29) (.const (.bool true)) (.tmp 34), 524287⟩,
  ⟨(some 36), none, .mov (.tmp 35), 1048575⟩,
  ⟨(some 37), (some (36, false)), .fieldAddr 2 (.tmp 4), 2097151⟩,
  ⟨(some 38), (some (36, false)), .load1 (.tmp 37), 4194303⟩,
  ⟨(some 39), (some (36, false)), .fieldAddr 2 (.tmp 5), 2097151⟩,
  ⟨(some 40), (some (36, false)), .load1 (.tmp 39), 10485759⟩,
  ⟨(some 41), (some (36, false)), .bin .neq .bool (.tmp 38) (.tmp 40), 33554431⟩,
  ⟨(some 42), none, .pick (.tmp 36) (.const (.bool true)) (.tmp 41), 67108863⟩]
def spec_ScatterField_r2 : List SOper := [
  ⟨(some 43), none, .build [(.slice none 0 0), (.slice none 0 0), (.slice none 0 0)] [], 0⟩,
  ⟨none, none, .store 3 (.tmp 8) (.tmp 43), 1⟩,
  ⟨(some 9), none, .mov (.const (.bool false)), 3⟩]
def spec_ScatterField_r3 (i_spec_RunField : FuncId) : List SOper := [
  ⟨(some 45), none, .loadN 5 (.tmp 4), 0⟩,
  ⟨(some 46), none, .loadN 3 (.tmp 6), 0⟩,
  ⟨(some 47), none, .mov (.tmp 3), 0⟩,
  ⟨(some 48), none, .call (.func i_spec_RunField) [(.tmp 45), (.tmp 46), (.tmp 47)], 7⟩,
  ⟨(some 44), none, .mov (.tmp 48), 15⟩,
  ⟨(some 49), none, .extract (.tmp 44) 0, 31⟩,
  ⟨(some 50), none, .extract (.tmp 44) 1, 31⟩,
  ⟨(some 10), none, .alloc [(.slice none 0 0), (.slice none 0 0), (.slice none 0 0)], 0⟩,
  ⟨none, none, .store 3 (.tmp 10) (.tmp 49), 191⟩,
  ⟨(some 11), none, .mov (.tmp 50), 511⟩]
def spec_ScatterField_r4 (i_spec_RunField : FuncId) : List SOper := [
  ⟨(some 52), none, .loadN 5 (.tmp 5), 0⟩,
  ⟨(some 53), none, .loadN 3 (.tmp 6), 0⟩,
  ⟨(some 54), none, .mov (.tmp 3), 0⟩,
  ⟨(some 55), none, .call (.func i_spec_RunField) [(.tmp 52), (.tmp 53), (.tmp 54)], 7⟩,
  ⟨(some 51), none, .mov (.tmp 55), 15⟩,
  ⟨(some 56), none, .extract (.tmp 51) 0, 31⟩,
  ⟨(some 57), none, .extract (.tmp 51) 1, 31⟩,
  ⟨(some 12), none, .alloc [(.slice none 0 0), (.slice none 0 0), (.slice none 0 0)], 0⟩,
  ⟨none, none, .store 3 (.tmp 12) (.tmp 56), 191⟩,
  ⟨(some 13), none, .mov (.tmp 57), 511⟩]
def spec_ScatterField_r5 : List SOper := [
  ⟨(some 58), none, .mov (.tmp 11), 0⟩,
  ⟨(some 59), none, .un .not (.tmp 58), 1⟩,
  ⟨(some 60), none, .mov (.tmp 59), 3⟩,
  ⟨(some 61), (some (60, false)), .mov (.tmp 13), 7⟩,
  ⟨(some 62), (some (60, false)), .un .not (.tmp 61), 15⟩,
  ⟨(some 63), none, .pick (.tmp 60) (.const (.bool true)) (.tmp 62), 31⟩]
def spec_ScatterField_r6 : List SOper := [
  ⟨(some 64), none, .build [(.slice none 0 0), (.slice none 0 0), (.slice none 0 0)] [], 0⟩,
  ⟨none, none, .store 3 (.tmp 8) (.tmp 64), 1⟩,
  ⟨(some 9), none, .mov (.const (.bool false)), 3⟩]
def spec_ScatterField_r7 (i_spec_ScaleField : FuncId) : List SOper := [
  ⟨(some 66), none, .loadN 5 (.tmp 5), 0⟩,
  ⟨(some 67), none, .loadN 3 (.tmp 12), 0⟩,
  ⟨(some 68), none, .call (.func i_spec_ScaleField) [(.tmp 66), (.tmp 67), (.const (.float .f32 3212836864))], 3⟩,
  ⟨(some 65), none, .mov (.tmp 68), 7⟩,
  ⟨(some 69), none, .extract (.tmp 65) 0, 15⟩,
  ⟨(some 70), none, .extract (.tmp 65) 1, 15⟩,
  ⟨(some 14), none, .alloc [(.slice none 0 0), (.slice none 0 0), (.slice none 0 0)], 0⟩,
  ⟨none, none, .store 3 (.tmp 14) (.tmp 69), 95⟩,
  ⟨(some 15), none, .mov (.tmp 70), 255⟩]
def spec_ScatterField_r8 : List SOper := [
  ⟨(some 71), none, .mov (.tmp 15), 0⟩,
  ⟨(some 72), none, .un .not (.tmp 71), 1⟩]
def spec_ScatterField_r9 : List SOper := [
  ⟨(some 73), none, .build [(.slice none 0 0), (.slice none 0 0), (.slice none 0 0)] [], 0⟩,
  ⟨none, none, .store 3 (.tmp 8) (.tmp 73), 1⟩,
  ⟨(some 9), none, .mov (.const (.bool false)), 3⟩]
def spec_ScatterField_r10 (i_spec_AddFields : FuncId) : List SOper := [
  ⟨(some 74), none, .loadN 5 (.tmp 4), 0⟩,
  ⟨(some 75), none, .loadN 3 (.tmp 10), 0⟩,
  ⟨(some 76), none, .loadN 3 (.tmp 14), 0⟩,
  ⟨(some 77), none, .call (.func i_spec_AddFields) [(.tmp 74), (.tmp 75), (.tmp 76)], 7⟩,
  ⟨(some 78), none, .extract (.tmp 77) 0, 15⟩,
  ⟨(some 79), none, .extract (.tmp 77) 1, 15⟩,
  ⟨none, none, .store 3 (.tmp 8) (.tmp 78), 63⟩,
  ⟨(some 9), none, .mov (.tmp 79), 127⟩]
def spec_ScatterField (i_spec_l03Both i_spec_RunField i_spec_ScaleField i_spec_AddFields : FuncId) : SFunc := ⟨80, [.cellN 8 3, .tmp 9], (.kp [0, 1, 2, 3] (.seq (.region spec_ScatterField_r0 false) (.kp [3, 4, 5, 6, 8] (.seq (.seq (.region (spec_ScatterField_r1 i_spec_l03Both) false) (.kp [3, 4, 5, 6, 8, 42] (.cond (.tmp 42) (.seq (.region spec_ScatterField_r2 false) .ret) .skip))) (.kp [3, 4, 5, 6, 8] (.seq (.region (spec_ScatterField_r3 i_spec_RunField) false) (.kp [3, 4, 5, 6, 8, 10, 11] (.seq (.region (spec_ScatterField_r4 i_spec_RunField) false) (.kp [4, 5, 8, 10, 11, 12, 13] (.seq (.seq (.region spec_ScatterField_r5 false) (.kp [4, 5, 8, 10, 12, 63] (.cond (.tmp 63) (.seq (.region spec_ScatterField_r6 false) .ret) .skip))) (.kp [4, 5, 8, 10, 12] (.seq (.region (spec_ScatterField_r7 i_spec_ScaleField) false) (.kp [4, 8, 10, 14, 15] (.seq (.seq (.region spec_ScatterField_r8 false) (.kp [4, 8, 10, 14, 72] (.cond (.tmp 72) (.seq (.region spec_ScatterField_r9 false) .ret) .skip))) (.kp [4, 8, 10, 14] (.seq (.region (spec_ScatterField_r10 i_spec_AddFields) false) .ret))))))))))))))))⟩


theorem rfOk_in {w h : Int} {wr : Bool} {sp lo e x y : List Nat} {n : Int} (h1 : isField w h wr sp lo e x y = true) : rfOk w h wr sp lo e x y n = inR n 0 64 := by unfold rfOk; rw [h1]; rfl
theorem spec_ScatterField_law {C : Ctab} {i1 i2 i3 i4 : FuncId} {c1 c2 c3 c4 : Contract} (h1 : Has C i1 c1 spec_l03Both_ok) (h2 : Has C i2 c2 spec_RunField_ok) (h3 : Has C i3 c3 spec_ScaleField_ok) (h4 : Has C i4 c4 spec_AddFields_ok) : spec_ScatterField_ok (gcC C (spec_ScatterField i1 i2 i3 i4) true) := by
  intro σ w h wr sv lv sp lo w' h' wr' sv' lv' sp' lo' ev xv yv e x y n f g hf hg ⟨r1, r2⟩ n1 n2 ⟨r1', r2'⟩ n1' n2' ⟨r3, r4, r5⟩ m1 m2 m3
  have k1 := r1.ok
  have k2 := r2.ok
  have k1' := r1'.ok
  have k2' := r2'.ok
  cases hI1 : isField w h wr sp lo e x y
  · rw [sfOk_f (by unfold sfA rfOk; rw [hI1]; simp), flRes_f, flRows_f]
    refine ret_gc rfl rfl ?_
    repeat' (first | refine ff ?_ | ((first | refine EvR.aSplB ?_ ?_ | refine Ev.aSplB ?_ ?_) <;> (intro hb; (try rw [hb]); (try simp only [Bool.not_eq_true', Bool.not_eq_false', Bool.not_eq_eq_eq_not, Bool.not_true, Bool.not_false, decide_eq_true_eq, decide_eq_false_iff_not, Bool.and_eq_true, Bool.and_eq_false_iff, Bool.or_eq_true, Bool.or_eq_false_iff] at hb); (try (exfalso; first | omega | exact hb trivial)))) | (apply endS trivial; rotate_left; (· exact eva); (· rfl); try refine ⟨?_, rfl⟩) | fail)
    (apply EvR.aCall h1.at_; (· exact eva); (· exact  h1.ok _ (σ.length + 0) 0 (σ.length + 2) 0 w h wr sv lv sp lo ev xv yv e x y (PtAt.own rfl) (PtAt.own rfl) ⟨r1.ext _, r2.ext _⟩ n1 n2 ⟨r3.ext _, r4.ext _, r5.ext _⟩ m1 m2 m3); (rintro _ _ ⟨rfl, rfl⟩; refine EvR.nrm ?_))
    rw [hI1]
    repeat' (first | refine ff ?_ | ((first | refine EvR.aSplB ?_ ?_ | refine Ev.aSplB ?_ ?_) <;> (intro hb; (try rw [hb]); (try simp only [Bool.not_eq_true', Bool.not_eq_false', Bool.not_eq_eq_eq_not, Bool.not_true, Bool.not_false, decide_eq_true_eq, decide_eq_false_iff_not, Bool.and_eq_true, Bool.and_eq_false_iff, Bool.or_eq_true, Bool.or_eq_false_iff] at hb); (try (exfalso; first | omega | exact hb trivial)))) | (apply endS trivial; rotate_left; (· exact eva); (· rfl); try refine ⟨?_, rfl⟩) | fail)
    all_goals simp
  cases hI2 : isField w' h' wr' sp' lo' e x y
  · rw [sfOk_f (by unfold sfA rfOk; rw [hI2]; simp), flRes_f, flRows_f]
    refine ret_gc rfl rfl ?_
    repeat' (first | refine ff ?_ | ((first | refine EvR.aSplB ?_ ?_ | refine Ev.aSplB ?_ ?_) <;> (intro hb; (try rw [hb]); (try simp only [Bool.not_eq_true', Bool.not_eq_false', Bool.not_eq_eq_eq_not, Bool.not_true, Bool.not_false, decide_eq_true_eq, decide_eq_false_iff_not, Bool.and_eq_true, Bool.and_eq_false_iff, Bool.or_eq_true, Bool.or_eq_false_iff] at hb); (try (exfalso; first | omega | exact hb trivial)))) | (apply endS trivial; rotate_left; (· exact eva); (· rfl); try refine ⟨?_, rfl⟩) | fail)
    (apply EvR.aCall h1.at_; (· exact eva); (· exact  h1.ok _ (σ.length + 0) 0 (σ.length + 2) 0 w h wr sv lv sp lo ev xv yv e x y (PtAt.own rfl) (PtAt.own rfl) ⟨r1.ext _, r2.ext _⟩ n1 n2 ⟨r3.ext _, r4.ext _, r5.ext _⟩ m1 m2 m3); (rintro _ _ ⟨rfl, rfl⟩; refine EvR.nrm ?_))
    rw [hI1]
    repeat' (first | refine ff ?_ | ((first | refine EvR.aSplB ?_ ?_ | refine Ev.aSplB ?_ ?_) <;> (intro hb; (try rw [hb]); (try simp only [Bool.not_eq_true', Bool.not_eq_false', Bool.not_eq_eq_eq_not, Bool.not_true, Bool.not_false, decide_eq_true_eq, decide_eq_false_iff_not, Bool.and_eq_true, Bool.and_eq_false_iff, Bool.or_eq_true, Bool.or_eq_false_iff] at hb); (try (exfalso; first | omega | exact hb trivial)))) | (apply endS trivial; rotate_left; (· exact eva); (· rfl); try refine ⟨?_, rfl⟩) | fail)
    (apply EvR.aCall h1.at_; (· exact eva); (· exact  h1.ok _ (σ.length + 1) 0 (σ.length + 2) 0 w' h' wr' sv' lv' sp' lo' ev xv yv e x y (PtAt.own rfl) (PtAt.own rfl) ⟨r1'.ext _, r2'.ext _⟩ n1' n2' ⟨r3.ext _, r4.ext _, r5.ext _⟩ m1 m2 m3); (rintro _ _ ⟨rfl, rfl⟩; refine EvR.nrm ?_))
    rw [hI2]
    repeat' (first | refine ff ?_ | ((first | refine EvR.aSplB ?_ ?_ | refine Ev.aSplB ?_ ?_) <;> (intro hb; (try rw [hb]); (try simp only [Bool.not_eq_true', Bool.not_eq_false', Bool.not_eq_eq_eq_not, Bool.not_true, Bool.not_false, decide_eq_true_eq, decide_eq_false_iff_not, Bool.and_eq_true, Bool.and_eq_false_iff, Bool.or_eq_true, Bool.or_eq_false_iff] at hb); (try (exfalso; first | omega | exact hb trivial)))) | (apply endS trivial; rotate_left; (· exact eva); (· rfl); try refine ⟨?_, rfl⟩) | fail)
    all_goals simp
  by_cases hsame : w = w' ∧ h = h' ∧ wr = wr'
  · obtain ⟨rfl, rfl, rfl⟩ := hsame
    have hR1 := rfOk_in (n := n) hI1
    have hR2 := rfOk_in (n := n) hI2
    have hA : sfA w h wr sp lo w h wr sp' lo' e x y n = inR n 0 64 := by unfold sfA; rw [hR1, hR2]; simp
    cases hn : inR n 0 64
    · rw [hn] at hR1 hR2 hA
      rw [sfOk_f hA, flRes_f, flRows_f]
      cases wr
      all_goals
        refine ret_gc rfl rfl ?_
        repeat' (first | refine ff ?_ | ((first | refine EvR.aSplB ?_ ?_ | refine Ev.aSplB ?_ ?_) <;> (intro hb; (try rw [hb]); (try simp only [Bool.not_eq_true', Bool.not_eq_false', Bool.not_eq_eq_eq_not, Bool.not_true, Bool.not_false, decide_eq_true_eq, decide_eq_false_iff_not, Bool.and_eq_true, Bool.and_eq_false_iff, Bool.or_eq_true, Bool.or_eq_false_iff] at hb); (try (exfalso; first | omega | exact hb trivial)))) | (apply endS trivial; rotate_left; (· exact eva); (· rfl); try refine ⟨?_, rfl⟩) | fail)
        (apply EvR.aCall h1.at_; (· exact eva); (· exact  h1.ok _ (σ.length + 0) 0 (σ.length + 2) 0 w h _ sv lv sp lo ev xv yv e x y (PtAt.own rfl) (PtAt.own rfl) ⟨r1.ext _, r2.ext _⟩ n1 n2 ⟨r3.ext _, r4.ext _, r5.ext _⟩ m1 m2 m3); (rintro _ _ ⟨rfl, rfl⟩; refine EvR.nrm ?_))
        rw [hI1]
        repeat' (first | refine ff ?_ | ((first | refine EvR.aSplB ?_ ?_ | refine Ev.aSplB ?_ ?_) <;> (intro hb; (try rw [hb]); (try simp only [Bool.not_eq_true', Bool.not_eq_false', Bool.not_eq_eq_eq_not, Bool.not_true, Bool.not_false, decide_eq_true_eq, decide_eq_false_iff_not, Bool.and_eq_true, Bool.and_eq_false_iff, Bool.or_eq_true, Bool.or_eq_false_iff] at hb); (try (exfalso; first | omega | exact hb trivial)))) | (apply endS trivial; rotate_left; (· exact eva); (· rfl); try refine ⟨?_, rfl⟩) | fail)
        (apply EvR.aCall h1.at_; (· exact eva); (· exact  h1.ok _ (σ.length + 1) 0 (σ.length + 2) 0 w h _ sv' lv' sp' lo' ev xv yv e x y (PtAt.own rfl) (PtAt.own rfl) ⟨r1'.ext _, r2'.ext _⟩ n1' n2' ⟨r3.ext _, r4.ext _, r5.ext _⟩ m1 m2 m3); (rintro _ _ ⟨rfl, rfl⟩; refine EvR.nrm ?_))
        rw [hI2]
        repeat' (first | refine ff ?_ | ((first | refine EvR.aSplB ?_ ?_ | refine Ev.aSplB ?_ ?_) <;> (intro hb; (try rw [hb]); (try simp only [Bool.not_eq_true', Bool.not_eq_false', Bool.not_eq_eq_eq_not, Bool.not_true, Bool.not_false, decide_eq_true_eq, decide_eq_false_iff_not, Bool.and_eq_true, Bool.and_eq_false_iff, Bool.or_eq_true, Bool.or_eq_false_iff] at hb); (try (exfalso; first | omega | exact hb trivial)))) | (apply endS trivial; rotate_left; (· exact eva); (· rfl); try refine ⟨?_, rfl⟩) | fail)
        (apply EvR.aCall h2.at_; (· exact eva); (· exact  h2.ok _ w h _ sv lv sp lo ev xv yv e x y n ⟨r1.ext _, r2.ext _⟩ n1 n2 ⟨r3.ext _, r4.ext _, r5.ext _⟩ m1 m2 m3); (rintro _ _ ⟨rfl, rfl⟩; refine EvR.nrm ?_))
        rw [hR1, flRes_f, flRows_f]
        try refine EvR.nrm ?_
        repeat' (first | refine ff ?_ | ((first | refine EvR.aSplB ?_ ?_ | refine Ev.aSplB ?_ ?_) <;> (intro hb; (try rw [hb]); (try simp only [Bool.not_eq_true', Bool.not_eq_false', Bool.not_eq_eq_eq_not, Bool.not_true, Bool.not_false, decide_eq_true_eq, decide_eq_false_iff_not, Bool.and_eq_true, Bool.and_eq_false_iff, Bool.or_eq_true, Bool.or_eq_false_iff] at hb); (try (exfalso; first | omega | exact hb trivial)))) | (apply endS trivial; rotate_left; (· exact eva); (· rfl); try refine ⟨?_, rfl⟩) | fail)
        (apply EvR.aCall h2.at_; (· exact eva); (· exact  h2.ok _ w h _ sv' lv' sp' lo' ev xv yv e x y n ⟨r1'.ext _, r2'.ext _⟩ n1' n2' ⟨r3.ext _, r4.ext _, r5.ext _⟩ m1 m2 m3); (rintro _ _ ⟨rfl, rfl⟩; refine EvR.nrm ?_))
        rw [hR2, flRes_f, flRows_f]
        try refine EvR.nrm ?_
        repeat' (first | refine ff ?_ | ((first | refine EvR.aSplB ?_ ?_ | refine Ev.aSplB ?_ ?_) <;> (intro hb; (try rw [hb]); (try simp only [Bool.not_eq_true', Bool.not_eq_false', Bool.not_eq_eq_eq_not, Bool.not_true, Bool.not_false, decide_eq_true_eq, decide_eq_false_iff_not, Bool.and_eq_true, Bool.and_eq_false_iff, Bool.or_eq_true, Bool.or_eq_false_iff] at hb); (try (exfalso; first | omega | exact hb trivial)))) | (apply endS trivial; rotate_left; (· exact eva); (· rfl); try refine ⟨?_, rfl⟩) | fail)
        simp
    rw [hn] at hR1 hR2 hA
    obtain ⟨y1, y2, y3⟩ := rf_lens hf hR1
    obtain ⟨z1, z2, z3⟩ := rf_lens hg hR2
    have hSf : sfOk w h wr sp lo w h wr sp' lo' e x y n f g = (scOk w h wr sp' lo' g.e g.x g.y mOne && adOk w h wr sp lo f.e f.x f.y (scaleL mOne g.e) (scaleL mOne g.x) (scaleL mOne g.y)) := by
      unfold sfOk; rw [hA]; rfl
    have l1 : (scaleL mOne g.e).length = g.e.length := newM_length
    have l2 : (scaleL mOne g.x).length = g.x.length := newM_length
    have l3 : (scaleL mOne g.y).length = g.y.length := newM_length
    cases hS : scOk w h wr sp' lo' g.e g.x g.y mOne
    · rw [hSf, hS, Bool.false_and, flRes_f, flRows_f]
      cases wr
      all_goals
        refine ret_gc rfl rfl ?_
        repeat' (first | refine ff ?_ | ((first | refine EvR.aSplB ?_ ?_ | refine Ev.aSplB ?_ ?_) <;> (intro hb; (try rw [hb]); (try simp only [Bool.not_eq_true', Bool.not_eq_false', Bool.not_eq_eq_eq_not, Bool.not_true, Bool.not_false, decide_eq_true_eq, decide_eq_false_iff_not, Bool.and_eq_true, Bool.and_eq_false_iff, Bool.or_eq_true, Bool.or_eq_false_iff] at hb); (try (exfalso; first | omega | exact hb trivial)))) | (apply endS trivial; rotate_left; (· exact eva); (· rfl); try refine ⟨?_, rfl⟩) | fail)
        (apply EvR.aCall h1.at_; (· exact eva); (· exact  h1.ok _ (σ.length + 0) 0 (σ.length + 2) 0 w h _ sv lv sp lo ev xv yv e x y (PtAt.own rfl) (PtAt.own rfl) ⟨r1.ext _, r2.ext _⟩ n1 n2 ⟨r3.ext _, r4.ext _, r5.ext _⟩ m1 m2 m3); (rintro _ _ ⟨rfl, rfl⟩; refine EvR.nrm ?_))
        rw [hI1]
        repeat' (first | refine ff ?_ | ((first | refine EvR.aSplB ?_ ?_ | refine Ev.aSplB ?_ ?_) <;> (intro hb; (try rw [hb]); (try simp only [Bool.not_eq_true', Bool.not_eq_false', Bool.not_eq_eq_eq_not, Bool.not_true, Bool.not_false, decide_eq_true_eq, decide_eq_false_iff_not, Bool.and_eq_true, Bool.and_eq_false_iff, Bool.or_eq_true, Bool.or_eq_false_iff] at hb); (try (exfalso; first | omega | exact hb trivial)))) | (apply endS trivial; rotate_left; (· exact eva); (· rfl); try refine ⟨?_, rfl⟩) | fail)
        (apply EvR.aCall h1.at_; (· exact eva); (· exact  h1.ok _ (σ.length + 1) 0 (σ.length + 2) 0 w h _ sv' lv' sp' lo' ev xv yv e x y (PtAt.own rfl) (PtAt.own rfl) ⟨r1'.ext _, r2'.ext _⟩ n1' n2' ⟨r3.ext _, r4.ext _, r5.ext _⟩ m1 m2 m3); (rintro _ _ ⟨rfl, rfl⟩; refine EvR.nrm ?_))
        rw [hI2]
        repeat' (first | refine ff ?_ | ((first | refine EvR.aSplB ?_ ?_ | refine Ev.aSplB ?_ ?_) <;> (intro hb; (try rw [hb]); (try simp only [Bool.not_eq_true', Bool.not_eq_false', Bool.not_eq_eq_eq_not, Bool.not_true, Bool.not_false, decide_eq_true_eq, decide_eq_false_iff_not, Bool.and_eq_true, Bool.and_eq_false_iff, Bool.or_eq_true, Bool.or_eq_false_iff] at hb); (try (exfalso; first | omega | exact hb trivial)))) | (apply endS trivial; rotate_left; (· exact eva); (· rfl); try refine ⟨?_, rfl⟩) | fail)
        (apply EvR.aCall h2.at_; (· exact eva); (· exact  h2.ok _ w h _ sv lv sp lo ev xv yv e x y n ⟨r1.ext _, r2.ext _⟩ n1 n2 ⟨r3.ext _, r4.ext _, r5.ext _⟩ m1 m2 m3); (rintro _ _ ⟨rfl, rfl⟩; refine EvR.nrm ?_))
        rw [hR1, flRes_t, flRows_t, ← hf]
        refine EvR.nrm ?_
        repeat' (first | refine ff ?_ | ((first | refine EvR.aSplB ?_ ?_ | refine Ev.aSplB ?_ ?_) <;> (intro hb; (try rw [hb]); (try simp only [Bool.not_eq_true', Bool.not_eq_false', Bool.not_eq_eq_eq_not, Bool.not_true, Bool.not_false, decide_eq_true_eq, decide_eq_false_iff_not, Bool.and_eq_true, Bool.and_eq_false_iff, Bool.or_eq_true, Bool.or_eq_false_iff] at hb); (try (exfalso; first | omega | exact hb trivial)))) | (apply endS trivial; rotate_left; (· exact eva); (· rfl); try refine ⟨?_, rfl⟩) | fail)
        (apply EvR.aCall h2.at_; (· exact eva); (· exact  h2.ok _ w h _ sv' lv' sp' lo' ev xv yv e x y n ⟨r1'.ext _, r2'.ext _⟩ n1' n2' ⟨r3.ext _, r4.ext _, r5.ext _⟩ m1 m2 m3); (rintro _ _ ⟨rfl, rfl⟩; refine EvR.nrm ?_))
        rw [hR2, flRes_t, flRows_t, ← hg]
        refine EvR.nrm ?_
        repeat' (first | refine ff ?_ | ((first | refine EvR.aSplB ?_ ?_ | refine Ev.aSplB ?_ ?_) <;> (intro hb; (try rw [hb]); (try simp only [Bool.not_eq_true', Bool.not_eq_false', Bool.not_eq_eq_eq_not, Bool.not_true, Bool.not_false, decide_eq_true_eq, decide_eq_false_iff_not, Bool.and_eq_true, Bool.and_eq_false_iff, Bool.or_eq_true, Bool.or_eq_false_iff] at hb); (try (exfalso; first | omega | exact hb trivial)))) | (apply endS trivial; rotate_left; (· exact eva); (· rfl); try refine ⟨?_, rfl⟩) | fail)
        (apply EvR.aCall h3.at_; (· exact eva); (· exact  h3.ok _ w h _ sv' lv' sp' lo' _ _ _ g.e g.x g.y mOne ⟨r1'.ext _, r2'.ext _⟩ n1' n2' ⟨Row.ownF rfl rfl, Row.ownF rfl rfl, Row.ownF rfl rfl⟩ z1 z2 z3); (rintro _ _ ⟨rfl, rfl⟩; refine EvR.nrm ?_))
        rw [hS, flRes_f, flRows_f]
        try refine EvR.nrm ?_
        repeat' (first | refine ff ?_ | ((first | refine EvR.aSplB ?_ ?_ | refine Ev.aSplB ?_ ?_) <;> (intro hb; (try rw [hb]); (try simp only [Bool.not_eq_true', Bool.not_eq_false', Bool.not_eq_eq_eq_not, Bool.not_true, Bool.not_false, decide_eq_true_eq, decide_eq_false_iff_not, Bool.and_eq_true, Bool.and_eq_false_iff, Bool.or_eq_true, Bool.or_eq_false_iff] at hb); (try (exfalso; first | omega | exact hb trivial)))) | (apply endS trivial; rotate_left; (· exact eva); (· rfl); try refine ⟨?_, rfl⟩) | fail)
        simp
    cases hD : adOk w h wr sp lo f.e f.x f.y (scaleL mOne g.e) (scaleL mOne g.x) (scaleL mOne g.y)
    · rw [hSf, hS, hD, Bool.true_and, flRes_f, flRows_f]
      cases wr
      all_goals
        refine ret_gc rfl rfl ?_
        repeat' (first | refine ff ?_ | ((first | refine EvR.aSplB ?_ ?_ | refine Ev.aSplB ?_ ?_) <;> (intro hb; (try rw [hb]); (try simp only [Bool.not_eq_true', Bool.not_eq_false', Bool.not_eq_eq_eq_not, Bool.not_true, Bool.not_false, decide_eq_true_eq, decide_eq_false_iff_not, Bool.and_eq_true, Bool.and_eq_false_iff, Bool.or_eq_true, Bool.or_eq_false_iff] at hb); (try (exfalso; first | omega | exact hb trivial)))) | (apply endS trivial; rotate_left; (· exact eva); (· rfl); try refine ⟨?_, rfl⟩) | fail)
        (apply EvR.aCall h1.at_; (· exact eva); (· exact  h1.ok _ (σ.length + 0) 0 (σ.length + 2) 0 w h _ sv lv sp lo ev xv yv e x y (PtAt.own rfl) (PtAt.own rfl) ⟨r1.ext _, r2.ext _⟩ n1 n2 ⟨r3.ext _, r4.ext _, r5.ext _⟩ m1 m2 m3); (rintro _ _ ⟨rfl, rfl⟩; refine EvR.nrm ?_))
        rw [hI1]
        repeat' (first | refine ff ?_ | ((first | refine EvR.aSplB ?_ ?_ | refine Ev.aSplB ?_ ?_) <;> (intro hb; (try rw [hb]); (try simp only [Bool.not_eq_true', Bool.not_eq_false', Bool.not_eq_eq_eq_not, Bool.not_true, Bool.not_false, decide_eq_true_eq, decide_eq_false_iff_not, Bool.and_eq_true, Bool.and_eq_false_iff, Bool.or_eq_true, Bool.or_eq_false_iff] at hb); (try (exfalso; first | omega | exact hb trivial)))) | (apply endS trivial; rotate_left; (· exact eva); (· rfl); try refine ⟨?_, rfl⟩) | fail)
        (apply EvR.aCall h1.at_; (· exact eva); (· exact  h1.ok _ (σ.length + 1) 0 (σ.length + 2) 0 w h _ sv' lv' sp' lo' ev xv yv e x y (PtAt.own rfl) (PtAt.own rfl) ⟨r1'.ext _, r2'.ext _⟩ n1' n2' ⟨r3.ext _, r4.ext _, r5.ext _⟩ m1 m2 m3); (rintro _ _ ⟨rfl, rfl⟩; refine EvR.nrm ?_))
        rw [hI2]
        repeat' (first | refine ff ?_ | ((first | refine EvR.aSplB ?_ ?_ | refine Ev.aSplB ?_ ?_) <;> (intro hb; (try rw [hb]); (try simp only [Bool.not_eq_true', Bool.not_eq_false', Bool.not_eq_eq_eq_not, Bool.not_true, Bool.not_false, decide_eq_true_eq, decide_eq_false_iff_not, Bool.and_eq_true, Bool.and_eq_false_iff, Bool.or_eq_true, Bool.or_eq_false_iff] at hb); (try (exfalso; first | omega | exact hb trivial)))) | (apply endS trivial; rotate_left; (· exact eva); (· rfl); try refine ⟨?_, rfl⟩) | fail)
        (apply EvR.aCall h2.at_; (· exact eva); (· exact  h2.ok _ w h _ sv lv sp lo ev xv yv e x y n ⟨r1.ext _, r2.ext _⟩ n1 n2 ⟨r3.ext _, r4.ext _, r5.ext _⟩ m1 m2 m3); (rintro _ _ ⟨rfl, rfl⟩; refine EvR.nrm ?_))
        rw [hR1, flRes_t, flRows_t, ← hf]
        refine EvR.nrm ?_
        repeat' (first | refine ff ?_ | ((first | refine EvR.aSplB ?_ ?_ | refine Ev.aSplB ?_ ?_) <;> (intro hb; (try rw [hb]); (try simp only [Bool.not_eq_true', Bool.not_eq_false', Bool.not_eq_eq_eq_not, Bool.not_true, Bool.not_false, decide_eq_true_eq, decide_eq_false_iff_not, Bool.and_eq_true, Bool.and_eq_false_iff, Bool.or_eq_true, Bool.or_eq_false_iff] at hb); (try (exfalso; first | omega | exact hb trivial)))) | (apply endS trivial; rotate_left; (· exact eva); (· rfl); try refine ⟨?_, rfl⟩) | fail)
        (apply EvR.aCall h2.at_; (· exact eva); (· exact  h2.ok _ w h _ sv' lv' sp' lo' ev xv yv e x y n ⟨r1'.ext _, r2'.ext _⟩ n1' n2' ⟨r3.ext _, r4.ext _, r5.ext _⟩ m1 m2 m3); (rintro _ _ ⟨rfl, rfl⟩; refine EvR.nrm ?_))
        rw [hR2, flRes_t, flRows_t, ← hg]
        refine EvR.nrm ?_
        repeat' (first | refine ff ?_ | ((first | refine EvR.aSplB ?_ ?_ | refine Ev.aSplB ?_ ?_) <;> (intro hb; (try rw [hb]); (try simp only [Bool.not_eq_true', Bool.not_eq_false', Bool.not_eq_eq_eq_not, Bool.not_true, Bool.not_false, decide_eq_true_eq, decide_eq_false_iff_not, Bool.and_eq_true, Bool.and_eq_false_iff, Bool.or_eq_true, Bool.or_eq_false_iff] at hb); (try (exfalso; first | omega | exact hb trivial)))) | (apply endS trivial; rotate_left; (· exact eva); (· rfl); try refine ⟨?_, rfl⟩) | fail)
        (apply EvR.aCall h3.at_; (· exact eva); (· exact  h3.ok _ w h _ sv' lv' sp' lo' _ _ _ g.e g.x g.y mOne ⟨r1'.ext _, r2'.ext _⟩ n1' n2' ⟨Row.ownF rfl rfl, Row.ownF rfl rfl, Row.ownF rfl rfl⟩ z1 z2 z3); (rintro _ _ ⟨rfl, rfl⟩; refine EvR.nrm ?_))
        rw [hS, flRes_t, flRows_t]
        refine EvR.nrm ?_
        repeat' (first | refine ff ?_ | ((first | refine EvR.aSplB ?_ ?_ | refine Ev.aSplB ?_ ?_) <;> (intro hb; (try rw [hb]); (try simp only [Bool.not_eq_true', Bool.not_eq_false', Bool.not_eq_eq_eq_not, Bool.not_true, Bool.not_false, decide_eq_true_eq, decide_eq_false_iff_not, Bool.and_eq_true, Bool.and_eq_false_iff, Bool.or_eq_true, Bool.or_eq_false_iff] at hb); (try (exfalso; first | omega | exact hb trivial)))) | (apply endS trivial; rotate_left; (· exact eva); (· rfl); try refine ⟨?_, rfl⟩) | fail)
        (apply EvR.aCall h4.at_; (· exact eva); (· exact  h4.ok _ w h _ sv lv sp lo _ _ _ f.e f.x f.y _ _ _ (scaleL mOne g.e) (scaleL mOne g.x) (scaleL mOne g.y) ⟨r1.ext _, r2.ext _⟩ n1 n2 ⟨Row.ownF rfl rfl, Row.ownF rfl rfl, Row.ownF rfl rfl⟩ y1 y2 y3 ⟨Row.ownF rfl rfl, Row.ownF rfl rfl, Row.ownF rfl rfl⟩ (by omega) (by omega) (by omega)); (rintro _ _ ⟨rfl, rfl⟩; refine EvR.nrm ?_))
        rw [hD, flRes_f, flRows_f]
        try refine EvR.nrm ?_
        repeat' (first | refine ff ?_ | ((first | refine EvR.aSplB ?_ ?_ | refine Ev.aSplB ?_ ?_) <;> (intro hb; (try rw [hb]); (try simp only [Bool.not_eq_true', Bool.not_eq_false', Bool.not_eq_eq_eq_not, Bool.not_true, Bool.not_false, decide_eq_true_eq, decide_eq_false_iff_not, Bool.and_eq_true, Bool.and_eq_false_iff, Bool.or_eq_true, Bool.or_eq_false_iff] at hb); (try (exfalso; first | omega | exact hb trivial)))) | (apply endS trivial; rotate_left; (· exact eva); (· rfl); try refine ⟨?_, rfl⟩) | fail)
        simp
    · rw [hSf, hS, hD, Bool.true_and, flRes_t, flRows_t]
      cases wr
      all_goals
        refine ret_gc rfl rfl ?_
        repeat' (first | refine ff ?_ | ((first | refine EvR.aSplB ?_ ?_ | refine Ev.aSplB ?_ ?_) <;> (intro hb; (try rw [hb]); (try simp only [Bool.not_eq_true', Bool.not_eq_false', Bool.not_eq_eq_eq_not, Bool.not_true, Bool.not_false, decide_eq_true_eq, decide_eq_false_iff_not, Bool.and_eq_true, Bool.and_eq_false_iff, Bool.or_eq_true, Bool.or_eq_false_iff] at hb); (try (exfalso; first | omega | exact hb trivial)))) | (apply endS trivial; rotate_left; (· exact eva); (· rfl); try refine ⟨?_, rfl⟩) | fail)
        (apply EvR.aCall h1.at_; (· exact eva); (· exact  h1.ok _ (σ.length + 0) 0 (σ.length + 2) 0 w h _ sv lv sp lo ev xv yv e x y (PtAt.own rfl) (PtAt.own rfl) ⟨r1.ext _, r2.ext _⟩ n1 n2 ⟨r3.ext _, r4.ext _, r5.ext _⟩ m1 m2 m3); (rintro _ _ ⟨rfl, rfl⟩; refine EvR.nrm ?_))
        rw [hI1]
        repeat' (first | refine ff ?_ | ((first | refine EvR.aSplB ?_ ?_ | refine Ev.aSplB ?_ ?_) <;> (intro hb; (try rw [hb]); (try simp only [Bool.not_eq_true', Bool.not_eq_false', Bool.not_eq_eq_eq_not, Bool.not_true, Bool.not_false, decide_eq_true_eq, decide_eq_false_iff_not, Bool.and_eq_true, Bool.and_eq_false_iff, Bool.or_eq_true, Bool.or_eq_false_iff] at hb); (try (exfalso; first | omega | exact hb trivial)))) | (apply endS trivial; rotate_left; (· exact eva); (· rfl); try refine ⟨?_, rfl⟩) | fail)
        (apply EvR.aCall h1.at_; (· exact eva); (· exact  h1.ok _ (σ.length + 1) 0 (σ.length + 2) 0 w h _ sv' lv' sp' lo' ev xv yv e x y (PtAt.own rfl) (PtAt.own rfl) ⟨r1'.ext _, r2'.ext _⟩ n1' n2' ⟨r3.ext _, r4.ext _, r5.ext _⟩ m1 m2 m3); (rintro _ _ ⟨rfl, rfl⟩; refine EvR.nrm ?_))
        rw [hI2]
        repeat' (first | refine ff ?_ | ((first | refine EvR.aSplB ?_ ?_ | refine Ev.aSplB ?_ ?_) <;> (intro hb; (try rw [hb]); (try simp only [Bool.not_eq_true', Bool.not_eq_false', Bool.not_eq_eq_eq_not, Bool.not_true, Bool.not_false, decide_eq_true_eq, decide_eq_false_iff_not, Bool.and_eq_true, Bool.and_eq_false_iff, Bool.or_eq_true, Bool.or_eq_false_iff] at hb); (try (exfalso; first | omega | exact hb trivial)))) | (apply endS trivial; rotate_left; (· exact eva); (· rfl); try refine ⟨?_, rfl⟩) | fail)
        (apply EvR.aCall h2.at_; (· exact eva); (· exact  h2.ok _ w h _ sv lv sp lo ev xv yv e x y n ⟨r1.ext _, r2.ext _⟩ n1 n2 ⟨r3.ext _, r4.ext _, r5.ext _⟩ m1 m2 m3); (rintro _ _ ⟨rfl, rfl⟩; refine EvR.nrm ?_))
        rw [hR1, flRes_t, flRows_t, ← hf]
        refine EvR.nrm ?_
        repeat' (first | refine ff ?_ | ((first | refine EvR.aSplB ?_ ?_ | refine Ev.aSplB ?_ ?_) <;> (intro hb; (try rw [hb]); (try simp only [Bool.not_eq_true', Bool.not_eq_false', Bool.not_eq_eq_eq_not, Bool.not_true, Bool.not_false, decide_eq_true_eq, decide_eq_false_iff_not, Bool.and_eq_true, Bool.and_eq_false_iff, Bool.or_eq_true, Bool.or_eq_false_iff] at hb); (try (exfalso; first | omega | exact hb trivial)))) | (apply endS trivial; rotate_left; (· exact eva); (· rfl); try refine ⟨?_, rfl⟩) | fail)
        (apply EvR.aCall h2.at_; (· exact eva); (· exact  h2.ok _ w h _ sv' lv' sp' lo' ev xv yv e x y n ⟨r1'.ext _, r2'.ext _⟩ n1' n2' ⟨r3.ext _, r4.ext _, r5.ext _⟩ m1 m2 m3); (rintro _ _ ⟨rfl, rfl⟩; refine EvR.nrm ?_))
        rw [hR2, flRes_t, flRows_t, ← hg]
        refine EvR.nrm ?_
        repeat' (first | refine ff ?_ | ((first | refine EvR.aSplB ?_ ?_ | refine Ev.aSplB ?_ ?_) <;> (intro hb; (try rw [hb]); (try simp only [Bool.not_eq_true', Bool.not_eq_false', Bool.not_eq_eq_eq_not, Bool.not_true, Bool.not_false, decide_eq_true_eq, decide_eq_false_iff_not, Bool.and_eq_true, Bool.and_eq_false_iff, Bool.or_eq_true, Bool.or_eq_false_iff] at hb); (try (exfalso; first | omega | exact hb trivial)))) | (apply endS trivial; rotate_left; (· exact eva); (· rfl); try refine ⟨?_, rfl⟩) | fail)
        (apply EvR.aCall h3.at_; (· exact eva); (· exact  h3.ok _ w h _ sv' lv' sp' lo' _ _ _ g.e g.x g.y mOne ⟨r1'.ext _, r2'.ext _⟩ n1' n2' ⟨Row.ownF rfl rfl, Row.ownF rfl rfl, Row.ownF rfl rfl⟩ z1 z2 z3); (rintro _ _ ⟨rfl, rfl⟩; refine EvR.nrm ?_))
        rw [hS, flRes_t, flRows_t]
        refine EvR.nrm ?_
        repeat' (first | refine ff ?_ | ((first | refine EvR.aSplB ?_ ?_ | refine Ev.aSplB ?_ ?_) <;> (intro hb; (try rw [hb]); (try simp only [Bool.not_eq_true', Bool.not_eq_false', Bool.not_eq_eq_eq_not, Bool.not_true, Bool.not_false, decide_eq_true_eq, decide_eq_false_iff_not, Bool.and_eq_true, Bool.and_eq_false_iff, Bool.or_eq_true, Bool.or_eq_false_iff] at hb); (try (exfalso; first | omega | exact hb trivial)))) | (apply endS trivial; rotate_left; (· exact eva); (· rfl); try refine ⟨?_, rfl⟩) | fail)
        (apply EvR.aCall h4.at_; (· exact eva); (· exact  h4.ok _ w h _ sv lv sp lo _ _ _ f.e f.x f.y _ _ _ (scaleL mOne g.e) (scaleL mOne g.x) (scaleL mOne g.y) ⟨r1.ext _, r2.ext _⟩ n1 n2 ⟨Row.ownF rfl rfl, Row.ownF rfl rfl, Row.ownF rfl rfl⟩ y1 y2 y3 ⟨Row.ownF rfl rfl, Row.ownF rfl rfl, Row.ownF rfl rfl⟩ (by omega) (by omega) (by omega)); (rintro _ _ ⟨rfl, rfl⟩; refine EvR.nrm ?_))
        rw [hD, flRes_t, flRows_t]
        refine EvR.nrm ?_
        repeat' (first | refine ff ?_ | ((first | refine EvR.aSplB ?_ ?_ | refine Ev.aSplB ?_ ?_) <;> (intro hb; (try rw [hb]); (try simp only [Bool.not_eq_true', Bool.not_eq_false', Bool.not_eq_eq_eq_not, Bool.not_true, Bool.not_false, decide_eq_true_eq, decide_eq_false_iff_not, Bool.and_eq_true, Bool.and_eq_false_iff, Bool.or_eq_true, Bool.or_eq_false_iff] at hb); (try (exfalso; first | omega | exact hb trivial)))) | (apply endS trivial; rotate_left; (· exact eva); (· rfl); try refine ⟨?_, rfl⟩) | fail)
        (apply endR [16, 17, 18] trivial ⟨rfl, rfl⟩; (· exact eva); (· simp [gcTop, gcVal, gcLeaf, gcLeaves, gcVals, constOk, gc_lt, gc_lt0]); (· rfl); (· decide); (· simp [allConst, f32s, i64s, b8s, bools, constOk]))
  · have hA : sfA w h wr sp lo w' h' wr' sp' lo' e x y n = false := by unfold sfA; rw [decide_eq_false hsame]; rfl
    rw [sfOk_f hA, flRes_f, flRows_f]
    have hs2 : wr = wr' → ¬ (w = w' ∧ h = h') := fun g1 g2 => hsame ⟨g2.1, g2.2, g1⟩
    cases wr <;> cases wr'
    all_goals
      have hs3 : True := trivial
      try have hs3 := hs2 rfl
      refine ret_gc rfl rfl ?_
      repeat' (first | refine ff ?_ | ((first | refine EvR.aSplB ?_ ?_ | refine Ev.aSplB ?_ ?_) <;> (intro hb; (try rw [hb]); (try simp only [Bool.not_eq_true', Bool.not_eq_false', Bool.not_eq_eq_eq_not, Bool.not_true, Bool.not_false, decide_eq_true_eq, decide_eq_false_iff_not, Bool.and_eq_true, Bool.and_eq_false_iff, Bool.or_eq_true, Bool.or_eq_false_iff] at hb); (try (exfalso; first | omega | exact hb trivial)))) | (apply endS trivial; rotate_left; (· exact eva); (· rfl); try refine ⟨?_, rfl⟩) | fail)
      (apply EvR.aCall h1.at_; (· exact eva); (· exact  h1.ok _ (σ.length + 0) 0 (σ.length + 2) 0 w h _ sv lv sp lo ev xv yv e x y (PtAt.own rfl) (PtAt.own rfl) ⟨r1.ext _, r2.ext _⟩ n1 n2 ⟨r3.ext _, r4.ext _, r5.ext _⟩ m1 m2 m3); (rintro _ _ ⟨rfl, rfl⟩; refine EvR.nrm ?_))
      rw [hI1]
      repeat' (first | refine ff ?_ | ((first | refine EvR.aSplB ?_ ?_ | refine Ev.aSplB ?_ ?_) <;> (intro hb; (try rw [hb]); (try simp only [Bool.not_eq_true', Bool.not_eq_false', Bool.not_eq_eq_eq_not, Bool.not_true, Bool.not_false, decide_eq_true_eq, decide_eq_false_iff_not, Bool.and_eq_true, Bool.and_eq_false_iff, Bool.or_eq_true, Bool.or_eq_false_iff] at hb); (try (exfalso; first | omega | exact hb trivial)))) | (apply endS trivial; rotate_left; (· exact eva); (· rfl); try refine ⟨?_, rfl⟩) | fail)
      (apply EvR.aCall h1.at_; (· exact eva); (· exact  h1.ok _ (σ.length + 1) 0 (σ.length + 2) 0 w' h' _ sv' lv' sp' lo' ev xv yv e x y (PtAt.own rfl) (PtAt.own rfl) ⟨r1'.ext _, r2'.ext _⟩ n1' n2' ⟨r3.ext _, r4.ext _, r5.ext _⟩ m1 m2 m3); (rintro _ _ ⟨rfl, rfl⟩; refine EvR.nrm ?_))
      rw [hI2]
      repeat' (first | refine ff ?_ | ((first | refine EvR.aSplB ?_ ?_ | refine Ev.aSplB ?_ ?_) <;> (intro hb; (try rw [hb]); (try simp only [Bool.not_eq_true', Bool.not_eq_false', Bool.not_eq_eq_eq_not, Bool.not_true, Bool.not_false, decide_eq_true_eq, decide_eq_false_iff_not, Bool.and_eq_true, Bool.and_eq_false_iff, Bool.or_eq_true, Bool.or_eq_false_iff] at hb); (try (exfalso; first | omega | exact hb trivial)))) | (apply endS trivial; rotate_left; (· exact eva); (· rfl); try refine ⟨?_, rfl⟩) | fail)
      all_goals simp
end Go.Abs

