/- Laws of functions: the film of a field that runs, by the reference. Conditions: the laws of what they call. -/
import Derived.Test.YtoijdkmkfhefjaaExactFilmOfL79
import Derived.Test.YtoijdkmkfhefjaaExactFilmOfL55
import Derived.Test.YtoijdkmkfhefjaaExactFilmOfL67
namespace Go.Abs

set_option linter.unusedSimpArgs false
set_option linter.unusedVariables false
set_option maxHeartbeats 8000000
set_option maxRecDepth 20000
/- loop.example/g01201/spec.FilmOf -/
def spec_FilmOf_r0 : List SOper := [
  ⟨(some 4), none, .box (.tmp 0), 0⟩,
  ⟨(some 5), none, .box (.tmp 1), 0⟩,
  ⟨(some 8), none, .alloc [(.int .i64 0), (.int .i64 0), (.bool false), (.slice none 0 0), (.slice none 0 0), (.slice none 0 0)], 0⟩,
  ⟨(some 9), none, .mov (.const (.bool false)), 0⟩]
def spec_FilmOf_r1 (i_spec_l02Is i_spec_l02Fits i_spec_l00In : FuncId) : List SOper := [
  ⟨(some 14), none, .call (.func i_spec_l02Is) [(.tmp 4)], 0⟩,
  ⟨(some 15), none, .un .not (.tmp 14), 1⟩,
  ⟨(some 16), none, .mov (.tmp 15), 3⟩,
  ⟨(some 17), (some (16, false)), .call (.func i_spec_l02Fits) [(.tmp 4), (.tmp 5)], 7⟩,
  ⟨(some 18), (some (16, false)), .un .not (.tmp 17), 15⟩,
  ⟨(some 19), none, .pick (.tmp 16) (.const (.bool true)) (.tmp 18), 31⟩,
  ⟨(some 20), none, .mov (.tmp 19), 63⟩,
  ⟨(some 21), (some (20, false)), .mov (.tmp 2), 127⟩,
  ⟨(some 22), (some (20, false)), .call (.func i_spec_l00In) [(.tmp 21), (.const (.int .i64 0)), (.const (.int .i64 64))], 255⟩,
  ⟨(some 23), (some (20, false)), .un .not (.tmp 22), 511⟩,
  ⟨(some 24), none, .pick (.tmp 20) (.const (.bool true)) (.tmp 23), 1023⟩,
  ⟨(some 25), none, .mov (.tmp 24), 2047⟩,
  ⟨(some 26), (some (25, false)), .mov (.tmp 3), 4095⟩,
  ⟨(some 27), (some (25, false)), .call (.func i_spec_l00In) [(.tmp 26), (.const (.int .i64 0)), (.const (.int .i64 16))], 8191⟩,
  ⟨(some 28), (some (25, false)), .un .not (.tmp 27), 16383⟩,
  ⟨(some 29), none, .pick (.tmp 25) (.const (.bool true)) (.tmp 28), 32767⟩]
def spec_FilmOf_r2 : List SOper := [
  ⟨(some 30), none, .build [(.int .i64 0), (.int .i64 0), (.bool false), (.slice none 0 0), (.slice none 0 0), (.slice none 0 0)] [], 0⟩,
  ⟨none, none, .store 6 (.tmp 8) (.tmp 30), 1⟩,
  ⟨(some 9), none, .mov (.const (.bool false)), 3⟩]
def spec_FilmOf_r3 (i_spec_l10Sheet : FuncId) : List SOper := [
  ⟨(some 31), none, .call (.func i_spec_l10Sheet) [(.tmp 4)], 0⟩,
  ⟨(some 32), none, .buildSlice 3 0 [] [], 0⟩,
  ⟨(some 33), none, .build [(.int .i64 0), (.int .i64 0), (.bool false), (.slice none 0 0), (.slice none 0 0), (.slice none 0 0)] [(0, 5, (.tmp 31)), (5, 1, (.tmp 32))], 3⟩,
  ⟨(some 10), none, .alloc [(.int .i64 0), (.int .i64 0), (.bool false), (.slice none 0 0), (.slice none 0 0), (.slice none 0 0)], 0⟩,
  ⟨none, none, .store 6 (.tmp 10) (.tmp 33), 15⟩]
def spec_FilmOf_r4 (i_spec_l02Own : FuncId) : List SOper := [
  ⟨(some 34), none, .call (.func i_spec_l02Own) [(.tmp 5)], 0⟩,
  ⟨(some 11), none, .alloc [(.slice none 0 0), (.slice none 0 0), (.slice none 0 0)], 0⟩,
  ⟨none, none, .store 3 (.tmp 11) (.tmp 34), 3⟩]
def spec_FilmOf_r5 : List SOper := [
  ⟨(some 12), none, .mov (.const (.int .i64 0)), 0⟩]
def spec_FilmOf_r6 : List SOper := [
  ⟨(some 35), none, .mov (.tmp 12), 0⟩,
  ⟨(some 36), none, .mov (.tmp 3), 0⟩,
  ⟨(some 37), none, .bin .lss .other (.tmp 35) (.tmp 36), 3⟩]
def spec_FilmOf_r7 (i_spec_l02Own : FuncId) : List SOper := [
  ⟨(some 40), none, .fieldAddr 5 (.tmp 10), 0⟩,
  ⟨(some 41), none, .load1 (.tmp 40), 1⟩,
  ⟨(some 42), none, .call (.func i_spec_l02Own) [(.tmp 11)], 0⟩,
  ⟨(some 43), none, .buildSlice 3 1 [(.slice none 0 0), (.slice none 0 0), (.slice none 0 0)] [(0, 3, (.tmp 42))], 4⟩,
  ⟨(some 44), none, .append 3 72 (.tmp 41) (.tmp 43), 15⟩,
  ⟨(some 45), none, .fieldAddr 5 (.tmp 10), 31⟩,
  ⟨none, none, .store 1 (.tmp 45) (.tmp 44), 63⟩]
def spec_FilmOf_r8 : List SOper := [
  ⟨(some 13), none, .mov (.const (.int .i64 0)), 0⟩]
def spec_FilmOf_r9 : List SOper := [
  ⟨(some 46), none, .mov (.tmp 13), 0⟩,
  ⟨(some 47), none, .mov (.tmp 2), 0⟩,
  ⟨(some 48), none, .bin .lss .other (.tmp 46) (.tmp 47), 3⟩]
def spec_FilmOf_r10 (i_spec_l03Step : FuncId) : List SOper := [
  ⟨(some 51), none, .call (.func i_spec_l03Step) [(.tmp 4), (.tmp 11)], 0⟩,
  ⟨none, none, .store 3 (.tmp 11) (.tmp 51), 1⟩]
def spec_FilmOf_r11 : List SOper := [
  ⟨(some 49), none, .mov (.tmp 13), 0⟩,
  ⟨(some 50), none, .bin .add .other (.tmp 49) (.const (.int .i64 1)), 1⟩,
  ⟨(some 13), none, .mov (.tmp 50), 3⟩]
def spec_FilmOf_l12 (i_spec_l03Step : FuncId) : SCode := (.kp [2, 3, 4, 8, 10, 11, 12, 13] (.seq (.seq (.region spec_FilmOf_r9 false) (.kp [2, 3, 4, 8, 10, 11, 12, 13, 48] (.cond (.tmp 48) .skip (.exit 2)))) (.kp [2, 3, 4, 8, 10, 11, 12, 13] (.seq (.block 3 (.region (spec_FilmOf_r10 i_spec_l03Step) false)) (.kp [2, 3, 4, 8, 10, 11, 12, 13] (.region spec_FilmOf_r11 false))))))
def spec_FilmOf_r13 : List SOper := [
  ⟨(some 38), none, .mov (.tmp 12), 0⟩,
  ⟨(some 39), none, .bin .add .other (.tmp 38) (.const (.int .i64 1)), 1⟩,
  ⟨(some 12), none, .mov (.tmp 39), 3⟩]
def spec_FilmOf_l14 (i_spec_l02Own i_spec_l03Step : FuncId) : SCode := (.kp [2, 3, 4, 8, 10, 11, 12] (.seq (.seq (.region spec_FilmOf_r6 false) (.kp [2, 3, 4, 8, 10, 11, 12, 37] (.cond (.tmp 37) .skip (.exit 0)))) (.kp [2, 3, 4, 8, 10, 11, 12] (.seq (.block 1 (.seq (.region (spec_FilmOf_r7 i_spec_l02Own) true) (.kp [2, 3, 4, 8, 10, 11, 12] (.seq (.region spec_FilmOf_r8 false) (.kp [2, 3, 4, 8, 10, 11, 12, 13] (.block 2 (.loop (spec_FilmOf_l12 i_spec_l03Step)))))))) (.kp [2, 3, 4, 8, 10, 11, 12] (.region spec_FilmOf_r13 false))))))
def spec_FilmOf_r15 : List SOper := [
  ⟨(some 52), none, .loadN 6 (.tmp 10), 0⟩,
  ⟨none, none, .store 6 (.tmp 8) (.tmp 52), 1⟩,
  ⟨(some 9), none, .mov (.const (.bool true)), 3⟩]
def spec_FilmOf (i_spec_l02Is i_spec_l02Fits i_spec_l00In i_spec_l10Sheet i_spec_l02Own i_spec_l03Step : FuncId) : SFunc := ⟨53, [.cellN 8 6, .tmp 9], (.kp [0, 1, 2, 3] (.seq (.region spec_FilmOf_r0 false) (.kp [2, 3, 4, 5, 8] (.seq (.seq (.region (spec_FilmOf_r1 i_spec_l02Is i_spec_l02Fits i_spec_l00In) false) (.kp [2, 3, 4, 5, 8, 29] (.cond (.tmp 29) (.seq (.region spec_FilmOf_r2 false) .ret) .skip))) (.kp [2, 3, 4, 5, 8] (.seq (.region (spec_FilmOf_r3 i_spec_l10Sheet) false) (.kp [2, 3, 4, 5, 8, 10] (.seq (.region (spec_FilmOf_r4 i_spec_l02Own) false) (.kp [2, 3, 4, 8, 10, 11] (.seq (.seq (.region spec_FilmOf_r5 false) (.kp [2, 3, 4, 8, 10, 11, 12] (.block 0 (.loop (spec_FilmOf_l14 i_spec_l02Own i_spec_l03Step))))) (.kp [8, 10] (.seq (.region spec_FilmOf_r15 false) .ret))))))))))))⟩
theorem spec_FilmOf_r7_dr {i_spec_l02Own : FuncId} : drawOkW wStat (spec_FilmOf_r7 i_spec_l02Own) = true := by kernel_rfl
attribute [push_cast] spec_FilmOf_r7_dr
def FilmOfS_ok (c : Contract) : Prop := ∀ (σ : Heap) (w h : Int) (wr : Bool) (sv lv : Value) (sp lo : List Nat) (ev xv yv : Value) (f : Fld) (n k : Int), ShR σ sv lv sp lo → sp.length ≤ 1048576 → lo.length ≤ 1048576 → FlR σ ev xv yv f.e f.x f.y → fitF f →
    Ret c [shV w h wr sv lv, fV ev xv yv, .int .i64 n, .int .i64 k] σ fun v σ' => FmRes (foOk w h wr sp lo f n k) σ σ' v w h wr sp lo (foFs w h wr sp lo f n k)
abbrev spec_FilmOf_ok := FilmOfS_ok
theorem spec_FilmOf_law {C : Ctab} {i1 i2 i3 i4 i5 i6 : FuncId} {c1 c2 c3 c4 c5 c6 : Contract} (h1 : Has C i1 c1 spec_l02Is_ok) (h2 : Has C i2 c2 spec_l02Fits_ok) (h3 : Has C i3 c3 spec_l00In_ok) (h4 : Has C i4 c4 spec_l10Sheet_ok) (h5 : Has C i5 c5 spec_l02Own_ok) (h6 : Has C i6 c6 spec_l03Step_ok) :
    spec_FilmOf_ok (bodyC C (spec_FilmOf i1 i2 i3 i4 i5 i6) true) := by
  intro σ w h wr sv lv sp lo ev xv yv f n k ⟨r1, r2⟩ n1 n2 ⟨r3, r4, r5⟩ ⟨m1, m2, m3⟩
  have k1 := r1.ok
  have k2 := r2.ok
  have k3 := r3.ok
  have k4 := r4.ok
  have k5 := r5.ok
  cases hs : isSheet w h sp lo
  · rw [show foOk w h wr sp lo f n k = false from by unfold foOk; rw [isField_bad hs]; rfl]
    refine ret_bd rfl rfl ?_
    repeat' (first | refine ff ?_ | ((first | refine EvR.aSplB ?_ ?_ | refine Ev.aSplB ?_ ?_) <;> (intro hb; (try rw [hb]); (try simp only [Bool.not_eq_true', Bool.not_eq_false', Bool.not_eq_eq_eq_not, Bool.not_true, Bool.not_false, decide_eq_true_eq, decide_eq_false_iff_not, Bool.and_eq_true, Bool.and_eq_false_iff, Bool.or_eq_true, Bool.or_eq_false_iff] at hb); (try (exfalso; first | omega | exact hb trivial)))) | (apply endS trivial; rotate_left; (· exact eva); (· rfl); try refine ⟨?_, rfl⟩) | fail)
    (apply EvR.aCall h1.at_; (· exact eva); (· exact  h1.ok _ (σ.length + 0) 0 w h wr sv lv sp lo (PtAt.own rfl) ⟨r1.ext _, r2.ext _⟩ n1 n2); (rintro _ _ ⟨rfl, rfl⟩; refine EvR.nrm ?_))
    rw [hs]
    repeat' (first | refine ff ?_ | ((first | refine EvR.aSplB ?_ ?_ | refine Ev.aSplB ?_ ?_) <;> (intro hb; (try rw [hb]); (try simp only [Bool.not_eq_true', Bool.not_eq_false', Bool.not_eq_eq_eq_not, Bool.not_true, Bool.not_false, decide_eq_true_eq, decide_eq_false_iff_not, Bool.and_eq_true, Bool.and_eq_false_iff, Bool.or_eq_true, Bool.or_eq_false_iff] at hb); (try (exfalso; first | omega | exact hb trivial)))) | (apply endS trivial; rotate_left; (· exact eva); (· rfl); try refine ⟨?_, rfl⟩) | fail)
    apply endB trivial
    · exact eva
    · exact FmRes.no rfl
  obtain ⟨a1, a2, a3, a4, q1, q2⟩ := isSheet_sides hs
  obtain ⟨W, rfl⟩ := Int.eq_ofNat_of_zero_le (show 0 ≤ w by omega)
  obtain ⟨H, rfl⟩ := Int.eq_ofNat_of_zero_le (show 0 ≤ h by omega)
  have hWH : ((W * H : Nat) : Int) = (W : Int) * (H : Int) := Int.natCast_mul _ _
  have hN2 : W * H ≤ 256 := Nat.mul_le_mul (show W ≤ 16 by omega) (show H ≤ 16 by omega)
  have hff := isField_fits (wr := wr) (e := f.e) (x := f.x) (y := f.y) hs
  cases hFi : isField W H wr sp lo f.e f.x f.y
  · rw [show foOk W H wr sp lo f n k = false from by unfold foOk; rw [hFi]; rfl]
    refine ret_bd rfl rfl ?_
    repeat' (first | refine ff ?_ | ((first | refine EvR.aSplB ?_ ?_ | refine Ev.aSplB ?_ ?_) <;> (intro hb; (try rw [hb]); (try simp only [Bool.not_eq_true', Bool.not_eq_false', Bool.not_eq_eq_eq_not, Bool.not_true, Bool.not_false, decide_eq_true_eq, decide_eq_false_iff_not, Bool.and_eq_true, Bool.and_eq_false_iff, Bool.or_eq_true, Bool.or_eq_false_iff] at hb); (try (exfalso; first | omega | exact hb trivial)))) | (apply endS trivial; rotate_left; (· exact eva); (· rfl); try refine ⟨?_, rfl⟩) | fail)
    (apply EvR.aCall h1.at_; (· exact eva); (· exact  h1.ok _ (σ.length + 0) 0 W H wr sv lv sp lo (PtAt.own rfl) ⟨r1.ext _, r2.ext _⟩ n1 n2); (rintro _ _ ⟨rfl, rfl⟩; refine EvR.nrm ?_))
    rw [hs]
    repeat' (first | refine ff ?_ | ((first | refine EvR.aSplB ?_ ?_ | refine Ev.aSplB ?_ ?_) <;> (intro hb; (try rw [hb]); (try simp only [Bool.not_eq_true', Bool.not_eq_false', Bool.not_eq_eq_eq_not, Bool.not_true, Bool.not_false, decide_eq_true_eq, decide_eq_false_iff_not, Bool.and_eq_true, Bool.and_eq_false_iff, Bool.or_eq_true, Bool.or_eq_false_iff] at hb); (try (exfalso; first | omega | exact hb trivial)))) | (apply endS trivial; rotate_left; (· exact eva); (· rfl); try refine ⟨?_, rfl⟩) | fail)
    (apply EvR.aCall h2.at_; (· exact eva); (· exact  h2.ok _ (σ.length + 0) 0 (σ.length + 1) 0 W H wr sv lv ev xv yv f.e f.x f.y (PtAt.own rfl) (PtAt.own rfl) ⟨r3.ext _, r4.ext _, r5.ext _⟩ m1 m2 m3 (by omega) (by omega) (by omega) (by omega) (by omega)); (rintro _ _ ⟨rfl, rfl⟩; refine EvR.nrm ?_))
    rw [← hff, hFi]
    repeat' (first | refine ff ?_ | ((first | refine EvR.aSplB ?_ ?_ | refine Ev.aSplB ?_ ?_) <;> (intro hb; (try rw [hb]); (try simp only [Bool.not_eq_true', Bool.not_eq_false', Bool.not_eq_eq_eq_not, Bool.not_true, Bool.not_false, decide_eq_true_eq, decide_eq_false_iff_not, Bool.and_eq_true, Bool.and_eq_false_iff, Bool.or_eq_true, Bool.or_eq_false_iff] at hb); (try (exfalso; first | omega | exact hb trivial)))) | (apply endS trivial; rotate_left; (· exact eva); (· rfl); try refine ⟨?_, rfl⟩) | fail)
    apply endB trivial
    · exact eva
    · exact FmRes.no rfl
  cases hR : inR n 0 64
  · rw [show foOk W H wr sp lo f n k = false from by unfold foOk; rw [hR]; simp]
    refine ret_bd rfl rfl ?_
    repeat' (first | refine ff ?_ | ((first | refine EvR.aSplB ?_ ?_ | refine Ev.aSplB ?_ ?_) <;> (intro hb; (try rw [hb]); (try simp only [Bool.not_eq_true', Bool.not_eq_false', Bool.not_eq_eq_eq_not, Bool.not_true, Bool.not_false, decide_eq_true_eq, decide_eq_false_iff_not, Bool.and_eq_true, Bool.and_eq_false_iff, Bool.or_eq_true, Bool.or_eq_false_iff] at hb); (try (exfalso; first | omega | exact hb trivial)))) | (apply endS trivial; rotate_left; (· exact eva); (· rfl); try refine ⟨?_, rfl⟩) | fail)
    (apply EvR.aCall h1.at_; (· exact eva); (· exact  h1.ok _ (σ.length + 0) 0 W H wr sv lv sp lo (PtAt.own rfl) ⟨r1.ext _, r2.ext _⟩ n1 n2); (rintro _ _ ⟨rfl, rfl⟩; refine EvR.nrm ?_))
    rw [hs]
    repeat' (first | refine ff ?_ | ((first | refine EvR.aSplB ?_ ?_ | refine Ev.aSplB ?_ ?_) <;> (intro hb; (try rw [hb]); (try simp only [Bool.not_eq_true', Bool.not_eq_false', Bool.not_eq_eq_eq_not, Bool.not_true, Bool.not_false, decide_eq_true_eq, decide_eq_false_iff_not, Bool.and_eq_true, Bool.and_eq_false_iff, Bool.or_eq_true, Bool.or_eq_false_iff] at hb); (try (exfalso; first | omega | exact hb trivial)))) | (apply endS trivial; rotate_left; (· exact eva); (· rfl); try refine ⟨?_, rfl⟩) | fail)
    (apply EvR.aCall h2.at_; (· exact eva); (· exact  h2.ok _ (σ.length + 0) 0 (σ.length + 1) 0 W H wr sv lv ev xv yv f.e f.x f.y (PtAt.own rfl) (PtAt.own rfl) ⟨r3.ext _, r4.ext _, r5.ext _⟩ m1 m2 m3 (by omega) (by omega) (by omega) (by omega) (by omega)); (rintro _ _ ⟨rfl, rfl⟩; refine EvR.nrm ?_))
    rw [← hff, hFi]
    repeat' (first | refine ff ?_ | (apply EvR.aCall h3.at_; (· exact eva); (· apply h3.ok <;> exact sid); (rintro _ _ ⟨rfl, rfl⟩; refine EvR.nrm ?_; try simp only [hR])) | ((first | refine EvR.aSplB ?_ ?_ | refine Ev.aSplB ?_ ?_) <;> (intro hb; (try rw [hb]); (try simp only [Bool.not_eq_true', Bool.not_eq_false', Bool.not_eq_eq_eq_not, Bool.not_true, Bool.not_false, decide_eq_true_eq, decide_eq_false_iff_not, Bool.and_eq_true, Bool.and_eq_false_iff, Bool.or_eq_true, Bool.or_eq_false_iff] at hb); (try (exfalso; first | omega | exact hb trivial)))) | (apply endS trivial; rotate_left; (· exact eva); (· rfl); try refine ⟨?_, rfl⟩) | fail)
    apply endB trivial
    · exact eva
    · exact FmRes.no rfl
  cases hK : inR k 0 16
  · rw [show foOk W H wr sp lo f n k = false from by unfold foOk; rw [hK]; simp]
    refine ret_bd rfl rfl ?_
    repeat' (first | refine ff ?_ | ((first | refine EvR.aSplB ?_ ?_ | refine Ev.aSplB ?_ ?_) <;> (intro hb; (try rw [hb]); (try simp only [Bool.not_eq_true', Bool.not_eq_false', Bool.not_eq_eq_eq_not, Bool.not_true, Bool.not_false, decide_eq_true_eq, decide_eq_false_iff_not, Bool.and_eq_true, Bool.and_eq_false_iff, Bool.or_eq_true, Bool.or_eq_false_iff] at hb); (try (exfalso; first | omega | exact hb trivial)))) | (apply endS trivial; rotate_left; (· exact eva); (· rfl); try refine ⟨?_, rfl⟩) | fail)
    (apply EvR.aCall h1.at_; (· exact eva); (· exact  h1.ok _ (σ.length + 0) 0 W H wr sv lv sp lo (PtAt.own rfl) ⟨r1.ext _, r2.ext _⟩ n1 n2); (rintro _ _ ⟨rfl, rfl⟩; refine EvR.nrm ?_))
    rw [hs]
    repeat' (first | refine ff ?_ | ((first | refine EvR.aSplB ?_ ?_ | refine Ev.aSplB ?_ ?_) <;> (intro hb; (try rw [hb]); (try simp only [Bool.not_eq_true', Bool.not_eq_false', Bool.not_eq_eq_eq_not, Bool.not_true, Bool.not_false, decide_eq_true_eq, decide_eq_false_iff_not, Bool.and_eq_true, Bool.and_eq_false_iff, Bool.or_eq_true, Bool.or_eq_false_iff] at hb); (try (exfalso; first | omega | exact hb trivial)))) | (apply endS trivial; rotate_left; (· exact eva); (· rfl); try refine ⟨?_, rfl⟩) | fail)
    (apply EvR.aCall h2.at_; (· exact eva); (· exact  h2.ok _ (σ.length + 0) 0 (σ.length + 1) 0 W H wr sv lv ev xv yv f.e f.x f.y (PtAt.own rfl) (PtAt.own rfl) ⟨r3.ext _, r4.ext _, r5.ext _⟩ m1 m2 m3 (by omega) (by omega) (by omega) (by omega) (by omega)); (rintro _ _ ⟨rfl, rfl⟩; refine EvR.nrm ?_))
    rw [← hff, hFi]
    repeat' (first | refine ff ?_ | (apply EvR.aCall h3.at_; (· exact eva); (· apply h3.ok <;> exact sid); (rintro _ _ ⟨rfl, rfl⟩; refine EvR.nrm ?_; try simp only [hR, hK])) | ((first | refine EvR.aSplB ?_ ?_ | refine Ev.aSplB ?_ ?_) <;> (intro hb; (try rw [hb]); (try simp only [Bool.not_eq_true', Bool.not_eq_false', Bool.not_eq_eq_eq_not, Bool.not_true, Bool.not_false, decide_eq_true_eq, decide_eq_false_iff_not, Bool.and_eq_true, Bool.and_eq_false_iff, Bool.or_eq_true, Bool.or_eq_false_iff] at hb); (try (exfalso; first | omega | exact hb trivial)))) | (apply endS trivial; rotate_left; (· exact eva); (· rfl); try refine ⟨?_, rfl⟩) | fail)
    apply endB trivial
    · exact eva
    · exact FmRes.no rfl
  rw [show foOk W H wr sp lo f n k = true from by unfold foOk; rw [hFi, hR, hK]; rfl]
  obtain ⟨_, t1, t2, t3⟩ := isField_len hFi
  have hn := inR_true hR
  obtain ⟨M, rfl⟩ := Int.eq_ofNat_of_zero_le (show 0 ≤ n by omega)
  have hk := inR_true hK
  obtain ⟨K, rfl⟩ := Int.eq_ofNat_of_zero_le (show 0 ≤ k by omega)
  obtain ⟨N, hN⟩ : ∃ N, W * H = N := ⟨_, rfl⟩
  obtain ⟨G, hG⟩ : ∃ G : Nat → Fld, G = fun t => runF W H wr sp lo t f := ⟨_, rfl⟩
  have G0 : G 0 = f := by rw [hG]; rfl
  have GS : ∀ t, G (t + 1) = stepF W H wr sp lo (G t) := fun t => by rw [hG]; rfl
  have fl : ∀ t, lenF N (G t) := fun t => by rw [hG]; exact runF_len (f := f) ⟨by omega, by omega, by omega⟩ t
  rw [show foFs W H wr sp lo f M K = framesF (fun i => G (M * i)) K from by rw [hG]; unfold foFs; rw [Int.toNat_natCast]; rfl]
  have e1 : f.e.length = N := by omega
  have e2 : f.x.length = N := by omega
  have e3 : f.y.length = N := by omega
  obtain ⟨g, hg⟩ : ∃ g : Nat → Fld, g = fun i => G (M * i) := ⟨_, rfl⟩
  rw [← hg]
  have hgi : ∀ i, g i = G (M * i) := fun i => by rw [hg]
  refine ret_bd rfl rfl ?_
  repeat' (first | refine ff ?_ | ((first | refine EvR.aSplB ?_ ?_ | refine Ev.aSplB ?_ ?_) <;> (intro hb; (try rw [hb]); (try simp only [Bool.not_eq_true', Bool.not_eq_false', Bool.not_eq_eq_eq_not, Bool.not_true, Bool.not_false, decide_eq_true_eq, decide_eq_false_iff_not, Bool.and_eq_true, Bool.and_eq_false_iff, Bool.or_eq_true, Bool.or_eq_false_iff] at hb); (try (exfalso; first | omega | exact hb trivial)))) | (apply endS trivial; rotate_left; (· exact eva); (· rfl); try refine ⟨?_, rfl⟩) | fail)
  (apply EvR.aCall h1.at_; (· exact eva); (· exact  h1.ok _ (σ.length + 0) 0 W H wr sv lv sp lo (PtAt.own rfl) ⟨r1.ext _, r2.ext _⟩ n1 n2); (rintro _ _ ⟨rfl, rfl⟩; refine EvR.nrm ?_))
  rw [hs]
  repeat' (first | refine ff ?_ | ((first | refine EvR.aSplB ?_ ?_ | refine Ev.aSplB ?_ ?_) <;> (intro hb; (try rw [hb]); (try simp only [Bool.not_eq_true', Bool.not_eq_false', Bool.not_eq_eq_eq_not, Bool.not_true, Bool.not_false, decide_eq_true_eq, decide_eq_false_iff_not, Bool.and_eq_true, Bool.and_eq_false_iff, Bool.or_eq_true, Bool.or_eq_false_iff] at hb); (try (exfalso; first | omega | exact hb trivial)))) | (apply endS trivial; rotate_left; (· exact eva); (· rfl); try refine ⟨?_, rfl⟩) | fail)
  (apply EvR.aCall h2.at_; (· exact eva); (· exact  h2.ok _ (σ.length + 0) 0 (σ.length + 1) 0 W H wr sv lv ev xv yv f.e f.x f.y (PtAt.own rfl) (PtAt.own rfl) ⟨r3.ext _, r4.ext _, r5.ext _⟩ m1 m2 m3 (by omega) (by omega) (by omega) (by omega) (by omega)); (rintro _ _ ⟨rfl, rfl⟩; refine EvR.nrm ?_))
  rw [← hff, hFi]
  repeat' (first | refine ff ?_ | (apply EvR.aCall h3.at_; (· exact eva); (· apply h3.ok <;> exact sid); (rintro _ _ ⟨rfl, rfl⟩; refine EvR.nrm ?_; try simp only [hR, hK])) | ((first | refine EvR.aSplB ?_ ?_ | refine Ev.aSplB ?_ ?_) <;> (intro hb; (try rw [hb]); (try simp only [Bool.not_eq_true', Bool.not_eq_false', Bool.not_eq_eq_eq_not, Bool.not_true, Bool.not_false, decide_eq_true_eq, decide_eq_false_iff_not, Bool.and_eq_true, Bool.and_eq_false_iff, Bool.or_eq_true, Bool.or_eq_false_iff] at hb); (try (exfalso; first | omega | exact hb trivial)))) | (apply endS trivial; rotate_left; (· exact eva); (· rfl); try refine ⟨?_, rfl⟩) | fail)
  (apply EvR.aCall h4.at_; (· exact eva); (· exact  h4.ok _ (σ.length + 0) 0 W H wr sv lv sp lo (PtAt.own rfl) ⟨r1.ext _, r2.ext _⟩ n1 n2); (rintro _ _ ⟨rfl, rfl⟩; refine EvR.nrm ?_))
  repeat' (first | refine ff ?_ | ((first | refine EvR.aSplB ?_ ?_ | refine Ev.aSplB ?_ ?_) <;> (intro hb; (try rw [hb]); (try simp only [Bool.not_eq_true', Bool.not_eq_false', Bool.not_eq_eq_eq_not, Bool.not_true, Bool.not_false, decide_eq_true_eq, decide_eq_false_iff_not, Bool.and_eq_true, Bool.and_eq_false_iff, Bool.or_eq_true, Bool.or_eq_false_iff] at hb); (try (exfalso; first | omega | exact hb trivial)))) | (apply endS trivial; rotate_left; (· exact eva); (· rfl); try refine ⟨?_, rfl⟩) | fail)
  (apply EvR.aCall h5.at_; (· exact eva); (· exact  h5.ok _ (σ.length + 1) ev xv yv f.e f.x f.y (PtAt.own rfl) ⟨r3.ext _, r4.ext _, r5.ext _⟩ m1 m2 m3); (rintro _ _ ⟨rfl, rfl⟩; refine EvR.nrm ?_))
  repeat' (first | refine ff ?_ | ((first | refine EvR.aSplB ?_ ?_ | refine Ev.aSplB ?_ ?_) <;> (intro hb; (try rw [hb]); (try simp only [Bool.not_eq_true', Bool.not_eq_false', Bool.not_eq_eq_eq_not, Bool.not_true, Bool.not_false, decide_eq_true_eq, decide_eq_false_iff_not, Bool.and_eq_true, Bool.and_eq_false_iff, Bool.or_eq_true, Bool.or_eq_false_iff] at hb); (try (exfalso; first | omega | exact hb trivial)))) | (apply endS trivial; rotate_left; (· exact eva); (· rfl); try refine ⟨?_, rfl⟩) | fail)
  rw [e1, e2, e3]
  obtain ⟨P5, hP5⟩ : ∃ P : Heap, P = [⟨[.int .i64 W, .int .i64 H, .bool wr, sv, lv], 0, true⟩, ⟨[ev, xv, yv], 0, true⟩, ⟨[.int .i64 0, .int .i64 0, .bool false, .slice none 0 0, .slice none 0 0, .slice none 0 0], 0, true⟩, rowO sp, rowO lo] := ⟨_, rfl⟩
  refine Ev.whlH (S := Nat × Nat × Rws × Heap) (fun st => K - st.1) (fun st => [(12, .int .i64 st.1)])
    (fun st => σ ++ (⟨[.int .i64 W, .int .i64 H, .bool wr, sv, lv], 0, true⟩ :: ⟨[ev, xv, yv], 0, true⟩ :: ⟨[.int .i64 0, .int .i64 0, .bool false, .slice none 0 0, .slice none 0 0, .slice none 0 0], 0, true⟩ :: rowO sp :: rowO lo :: ⟨st.2.2.1.map slOf, 3, true⟩ ::
      ⟨[.int .i64 W, .int .i64 H, .bool wr, slV (σ.length + 3) sp.length, slV (σ.length + 4) lo.length, slV (σ.length + 5) st.1], 0, true⟩ :: rowO f.e :: rowO f.x :: rowO f.y :: ⟨[slV (σ.length + st.2.1) N, slV (σ.length + (st.2.1 + 1)) N, slV (σ.length + (st.2.1 + 2)) N], 0, true⟩ :: st.2.2.2))
    (fun st => st.1 ≤ K ∧ (∀ X Y Z : AObj, (P5 ++ X :: Y :: rowO f.e :: rowO f.x :: rowO f.y :: Z :: st.2.2.2)[st.2.1]? = some (rowO (g st.1).e) ∧ (P5 ++ X :: Y :: rowO f.e :: rowO f.x :: rowO f.y :: Z :: st.2.2.2)[st.2.1 + 1]? = some (rowO (g st.1).x) ∧ (P5 ++ X :: Y :: rowO f.e :: rowO f.x :: rowO f.y :: Z :: st.2.2.2)[st.2.1 + 2]? = some (rowO (g st.1).y)) ∧
      st.2.2.1.map Prod.snd = rowsOf (framesF g st.1) ∧ (∀ T : Heap, T.length = 11 → RInv (σ ++ (T ++ st.2.2.2)) (σ.length + 11) st.2.2.1))
    (0, 7, [], []) (by (simp only [List.cons_append, List.nil_append, ↓fget_cons, push_cast, Nat.reduceEqDiff, reduceIte] <;> rfl)) rfl ⟨Nat.zero_le _, fun X Y Z => by rw [hP5, hgi, Nat.mul_zero, G0]; exact ⟨rfl, rfl, rfl⟩, rfl, fun P _ => RInv.nil _ _⟩ ?_
  rintro ⟨i, q, R, rub⟩ F hF ⟨hi, hq, hcon, hinv⟩
  dsimp only at hi hF hq hcon hinv ⊢
  (simp only [List.cons_append, List.nil_append, ↓fget_cons, fkeep_cons, fkeep_nil, Nat.reduceEqDiff, reduceIte] at hF; subst hF)
  by_cases hlt : i < K
  · have kg : ∀ {l : Heap} {o : Nat} {x : AObj} (t : Heap), l[o]? = some x → (l ++ t)[o]? = some x := fun t h => by rw [List.getElem?_append_left (List.getElem?_eq_some_iff.1 h).1]; exact h
    obtain ⟨u1, u2, u3⟩ := fl (M * i)
    rw [← hgi] at u1 u2 u3
    have G1 : ∀ X Y Z : AObj, Row (σ ++ (P5 ++ X :: Y :: rowO f.e :: rowO f.x :: rowO f.y :: Z :: rub)) 1 (slV (σ.length + q) N) (g i).e.length (f32s (g i).e) := fun X Y Z => by rw [← u1]; exact Row.own (hq X Y Z).1 (by omega) (by rw [f32s_length]; omega)
    have G2 : ∀ X Y Z : AObj, Row (σ ++ (P5 ++ X :: Y :: rowO f.e :: rowO f.x :: rowO f.y :: Z :: rub)) 1 (slV (σ.length + (q + 1)) N) (g i).x.length (f32s (g i).x) := fun X Y Z => by rw [← u2]; exact Row.own (hq X Y Z).2.1 (by omega) (by rw [f32s_length]; omega)
    have G3 : ∀ X Y Z : AObj, Row (σ ++ (P5 ++ X :: Y :: rowO f.e :: rowO f.x :: rowO f.y :: Z :: rub)) 1 (slV (σ.length + (q + 2)) N) (g i).y.length (f32s (g i).y) := fun X Y Z => by rw [← u3]; exact Row.own (hq X Y Z).2.2 (by omega) (by rw [f32s_length]; omega)
    rw [hP5] at G1 G2 G3
    simp only [List.cons_append, List.nil_append] at G1 G2 G3
    have hRl : R.length = i * 3 := by have := congrArg List.length hcon; rw [List.length_map, rowsOf_length, framesF_len] at this; exact this
    repeat' (first | refine ff ?_ | ((first | refine EvR.aSplB ?_ ?_ | refine Ev.aSplB ?_ ?_) <;> (intro hb; (try rw [hb]); (try simp only [Bool.not_eq_true', Bool.not_eq_false', Bool.not_eq_eq_eq_not, Bool.not_true, Bool.not_false, decide_eq_true_eq, decide_eq_false_iff_not, Bool.and_eq_true, Bool.and_eq_false_iff, Bool.or_eq_true, Bool.or_eq_false_iff] at hb); (try (exfalso; first | omega | exact hb trivial)))) | (apply endS trivial; rotate_left; (· exact eva); (· rfl); try refine ⟨?_, rfl⟩) | fail)
    (apply EvR.aCall h5.at_; (· exact eva); (· exact  h5.ok _ (σ.length + 10) _ _ _ (g i).e (g i).x (g i).y (PtAt.own rfl) ⟨G1 _ _ _, G2 _ _ _, G3 _ _ _⟩ (by omega) (by omega) (by omega)); (rintro _ _ ⟨rfl, rfl⟩; refine EvR.nrm ?_))
    repeat' (first | refine ff ?_ | ((first | refine EvR.aSplB ?_ ?_ | refine Ev.aSplB ?_ ?_) <;> (intro hb; (try rw [hb]); (try simp only [Bool.not_eq_true', Bool.not_eq_false', Bool.not_eq_eq_eq_not, Bool.not_true, Bool.not_false, decide_eq_true_eq, decide_eq_false_iff_not, Bool.and_eq_true, Bool.and_eq_false_iff, Bool.or_eq_true, Bool.or_eq_false_iff] at hb); (try (exfalso; first | omega | exact hb trivial)))) | (apply endS trivial; rotate_left; (· exact eva); (· rfl); try refine ⟨?_, rfl⟩) | fail)
    obtain ⟨R1, hR1⟩ : ∃ R1 : Rws, R1 = R ++ [(σ.length + (rub.length + 11), (g i).e), (σ.length + (rub.length + 12), (g i).x), (σ.length + (rub.length + 13), (g i).y)] := ⟨_, rfl⟩
    rw [show R.map slOf ++ [slV (σ.length + (rub.length + 11)) (g i).e.length, slV (σ.length + (rub.length + 12)) (g i).x.length, slV (σ.length + (rub.length + 13)) (g i).y.length] = R1.map slOf from by rw [hR1, List.map_append]; rfl]
    obtain ⟨rub1, hr1⟩ : ∃ r, r = rub ++ [rowO (g i).e, rowO (g i).x, rowO (g i).y, ⟨[slV (σ.length + (rub.length + 11)) (g i).e.length, slV (σ.length + (rub.length + 12)) (g i).x.length, slV (σ.length + (rub.length + 13)) (g i).y.length], 3, true⟩] := ⟨_, rfl⟩
    rw [← hr1]
    have hcon1 : R1.map Prod.snd = rowsOf (framesF g (i + 1)) := by rw [hR1, List.map_append, hcon, rowsOf_frames g i]; rfl
    have hinv1 : ∀ T : Heap, T.length = 11 → RInv (σ ++ (T ++ rub1)) (σ.length + 11) R1 := fun T hT => by
      have h2 := (hinv T hT).snoc3 (by simp only [List.length_append, hT]; omega) (g i) [⟨[slV (σ.length + (rub.length + 11)) (g i).e.length, slV (σ.length + (rub.length + 12)) (g i).x.length, slV (σ.length + (rub.length + 13)) (g i).y.length], 3, true⟩]
      have e1 : (σ ++ (T ++ rub)).length = σ.length + (rub.length + 11) := by simp only [List.length_append, hT]; omega
      rw [e1] at h2
      rw [hr1, hR1]
      simp only [List.append_assoc, List.cons_append, List.nil_append, Nat.add_assoc, Nat.reduceAdd] at h2 ⊢
      exact h2
    have hb1 : ∀ X Y Z : AObj, (P5 ++ X :: Y :: rowO f.e :: rowO f.x :: rowO f.y :: Z :: rub1)[q]? = some (rowO (g i).e) ∧ (P5 ++ X :: Y :: rowO f.e :: rowO f.x :: rowO f.y :: Z :: rub1)[q + 1]? = some (rowO (g i).x) ∧ (P5 ++ X :: Y :: rowO f.e :: rowO f.x :: rowO f.y :: Z :: rub1)[q + 2]? = some (rowO (g i).y) := fun X Y Z => by
      obtain ⟨c1, c2, c3⟩ := hq X Y Z
      have e : ∀ t : Heap, P5 ++ X :: Y :: rowO f.e :: rowO f.x :: rowO f.y :: Z :: (rub ++ t) = (P5 ++ X :: Y :: rowO f.e :: rowO f.x :: rowO f.y :: Z :: rub) ++ t := fun t => by simp
      rw [hr1, e]
      exact ⟨kg _ c1, kg _ c2, kg _ c3⟩
    clear G1 G2 G3 hq hinv hcon hr1
    refine Ev.whlH (S := Nat × Nat × Heap) (fun st => M - st.1) (fun st => [(13, .int .i64 st.1)])
      (fun st => σ ++ (⟨[.int .i64 W, .int .i64 H, .bool wr, sv, lv], 0, true⟩ :: ⟨[ev, xv, yv], 0, true⟩ :: ⟨[.int .i64 0, .int .i64 0, .bool false, .slice none 0 0, .slice none 0 0, .slice none 0 0], 0, true⟩ :: rowO sp :: rowO lo :: ⟨R1.map slOf, 3, true⟩ ::
        ⟨[.int .i64 W, .int .i64 H, .bool wr, slV (σ.length + 3) sp.length, slV (σ.length + 4) lo.length, slV (σ.length + 5) (i + 1)], 0, true⟩ :: rowO f.e :: rowO f.x :: rowO f.y :: ⟨[slV (σ.length + st.2.1) N, slV (σ.length + (st.2.1 + 1)) N, slV (σ.length + (st.2.1 + 2)) N], 0, true⟩ :: (rub1 ++ st.2.2)))
      (fun st => st.1 ≤ M ∧ (∀ X Y Z : AObj, (P5 ++ X :: Y :: rowO f.e :: rowO f.x :: rowO f.y :: Z :: (rub1 ++ st.2.2))[st.2.1]? = some (rowO (G (M * i + st.1)).e) ∧ (P5 ++ X :: Y :: rowO f.e :: rowO f.x :: rowO f.y :: Z :: (rub1 ++ st.2.2))[st.2.1 + 1]? = some (rowO (G (M * i + st.1)).x) ∧ (P5 ++ X :: Y :: rowO f.e :: rowO f.x :: rowO f.y :: Z :: (rub1 ++ st.2.2))[st.2.1 + 2]? = some (rowO (G (M * i + st.1)).y)))
      (0, q, []) (by (simp only [List.cons_append, List.nil_append, ↓fget_cons, push_cast, Nat.reduceEqDiff, reduceIte] <;> rfl)) (by dsimp only; rw [List.append_nil]) ⟨Nat.zero_le _, fun X Y Z => by dsimp only; rw [List.append_nil, Nat.add_zero, ← hgi]; exact hb1 X Y Z⟩ ?_
    clear hb1
    rintro ⟨m, q, more⟩ F hF ⟨hm, hq⟩
    dsimp only at hm hF hq ⊢
    (simp only [List.cons_append, List.nil_append, ↓fget_cons, fkeep_cons, fkeep_nil, Nat.reduceEqDiff, reduceIte] at hF; subst hF)
    by_cases hlt2 : m < M
    · obtain ⟨v1, v2, v3⟩ := fl (M * i + m)
      have G1 : ∀ X Y Z : AObj, Row (σ ++ (P5 ++ X :: Y :: rowO f.e :: rowO f.x :: rowO f.y :: Z :: (rub1 ++ more))) 1 (slV (σ.length + q) N) (G (M * i + m)).e.length (f32s (G (M * i + m)).e) := fun X Y Z => by rw [← v1]; exact Row.own (hq X Y Z).1 (by omega) (by rw [f32s_length]; omega)
      have G2 : ∀ X Y Z : AObj, Row (σ ++ (P5 ++ X :: Y :: rowO f.e :: rowO f.x :: rowO f.y :: Z :: (rub1 ++ more))) 1 (slV (σ.length + (q + 1)) N) (G (M * i + m)).x.length (f32s (G (M * i + m)).x) := fun X Y Z => by rw [← v2]; exact Row.own (hq X Y Z).2.1 (by omega) (by rw [f32s_length]; omega)
      have G3 : ∀ X Y Z : AObj, Row (σ ++ (P5 ++ X :: Y :: rowO f.e :: rowO f.x :: rowO f.y :: Z :: (rub1 ++ more))) 1 (slV (σ.length + (q + 2)) N) (G (M * i + m)).y.length (f32s (G (M * i + m)).y) := fun X Y Z => by rw [← v3]; exact Row.own (hq X Y Z).2.2 (by omega) (by rw [f32s_length]; omega)
      rw [hP5] at G1 G2 G3
      simp only [List.cons_append, List.nil_append] at G1 G2 G3
      repeat' (first | refine ff ?_ | ((first | refine EvR.aSplB ?_ ?_ | refine Ev.aSplB ?_ ?_) <;> (intro hb; (try rw [hb]); (try simp only [Bool.not_eq_true', Bool.not_eq_false', Bool.not_eq_eq_eq_not, Bool.not_true, Bool.not_false, decide_eq_true_eq, decide_eq_false_iff_not, Bool.and_eq_true, Bool.and_eq_false_iff, Bool.or_eq_true, Bool.or_eq_false_iff] at hb); (try (exfalso; first | omega | exact hb trivial)))) | (apply endS trivial; rotate_left; (· exact eva); (· rfl); try refine ⟨?_, rfl⟩) | fail)
      (apply EvR.aCall h6.at_; (· exact eva); (· exact  h6.ok _ (σ.length + 0) 0 (σ.length + 10) W H wr sv lv (slV (σ.length + q) N) (slV (σ.length + (q + 1)) N) (slV (σ.length + (q + 2)) N) N sp lo (G (M * i + m)).e (G (M * i + m)).x (G (M * i + m)).y (PtAt.own rfl) (PtAt.own rfl) ⟨r1.ext _, r2.ext _⟩ ⟨G1 _ _ _, G2 _ _ _, G3 _ _ _⟩ (by omega) (by omega) (by omega) (by omega) hN (by omega) (by omega) v1 v2 v3); (rintro _ _ ⟨rfl, rfl⟩; refine EvR.nrm ?_))
      repeat' (first | refine ff ?_ | ((first | refine EvR.aSplB ?_ ?_ | refine Ev.aSplB ?_ ?_) <;> (intro hb; (try rw [hb]); (try simp only [Bool.not_eq_true', Bool.not_eq_false', Bool.not_eq_eq_eq_not, Bool.not_true, Bool.not_false, decide_eq_true_eq, decide_eq_false_iff_not, Bool.and_eq_true, Bool.and_eq_false_iff, Bool.or_eq_true, Bool.or_eq_false_iff] at hb); (try (exfalso; first | omega | exact hb trivial)))) | (apply endS trivial; rotate_left; (· exact eva); (· rfl); try refine ⟨?_, rfl⟩) | fail)
      refine ⟨(m + 1, rub1.length + (more.length + 11), more ++ [rowO (G (M * i + (m + 1))).e, rowO (G (M * i + (m + 1))).x, rowO (G (M * i + (m + 1))).y]), by dsimp only; omega, by (simp only [List.cons_append, List.nil_append, ↓fget_cons, push_cast, Nat.reduceEqDiff, reduceIte] <;> rfl), ?_, by dsimp only; omega, fun X Y Z => ?_⟩
      · rw [show G (M * i + (m + 1)) = stepF W H wr sp lo (G (M * i + m)) from GS _]; rfl
      · dsimp only
        rw [hP5]
        have e : ∀ (t : Heap) (k : Nat), (rub1 ++ (more ++ t))[rub1.length + (more.length + k)]? = t[k]? := fun t k => by rw [← Nat.add_assoc, ← List.length_append, ← List.append_assoc]; exact get_end _ _ _
        simp only [List.cons_append, List.nil_append, Nat.add_assoc, Nat.reduceAdd]
        exact ⟨e _ 0, e _ 1, e _ 2⟩
    · obtain rfl : m = M := by omega
      repeat' (first | refine ff ?_ | ((first | refine EvR.aSplB ?_ ?_ | refine Ev.aSplB ?_ ?_) <;> (intro hb; (try rw [hb]); (try simp only [Bool.not_eq_true', Bool.not_eq_false', Bool.not_eq_eq_eq_not, Bool.not_true, Bool.not_false, decide_eq_true_eq, decide_eq_false_iff_not, Bool.and_eq_true, Bool.and_eq_false_iff, Bool.or_eq_true, Bool.or_eq_false_iff] at hb); (try (exfalso; first | omega | exact hb trivial)))) | (apply endS trivial; rotate_left; (· exact eva); (· rfl); try refine ⟨?_, rfl⟩) | fail)
      refine ⟨(i + 1, q, R1, rub1 ++ more), by dsimp only; omega, by (simp only [List.cons_append, List.nil_append, ↓fget_cons, push_cast, Nat.reduceEqDiff, reduceIte] <;> rfl), rfl, by dsimp only; omega, fun X Y Z => by dsimp only; rw [hgi, Nat.mul_succ]; exact hq X Y Z, hcon1, fun T hT => ?_⟩
      have := (hinv1 T hT).ext more
      simp only [List.append_assoc] at this ⊢
      exact this
  · obtain rfl : i = K := by omega
    repeat' (first | refine ff ?_ | ((first | refine EvR.aSplB ?_ ?_ | refine Ev.aSplB ?_ ?_) <;> (intro hb; (try rw [hb]); (try simp only [Bool.not_eq_true', Bool.not_eq_false', Bool.not_eq_eq_eq_not, Bool.not_true, Bool.not_false, decide_eq_true_eq, decide_eq_false_iff_not, Bool.and_eq_true, Bool.and_eq_false_iff, Bool.or_eq_true, Bool.or_eq_false_iff] at hb); (try (exfalso; first | omega | exact hb trivial)))) | (apply endS trivial; rotate_left; (· exact eva); (· rfl); try refine ⟨?_, rfl⟩) | fail)
    apply endB trivial
    · exact eva
    · exact ⟨fun _ => ⟨_, σ.length + 3, σ.length + 4, σ.length + 5, R, rfl, by rw [framesF_len], filmO_of (lo2 := σ.length + 5) ⟨hget _ _ 5, (hinv [_, _, _, _, _, _, _, _, _, _, _] rfl).less (by omega), hcon, by omega, fun hc => by
        obtain ⟨p, hp, he⟩ := List.mem_map.1 hc
        have := (hinv (List.replicate 11 ⟨[], 0, true⟩) rfl).low p hp
        omega⟩ (hget _ _ 3) (hget _ _ 4) (by omega) (by omega) (by omega)⟩, fun h => (by cases h)⟩
end Go.Abs

