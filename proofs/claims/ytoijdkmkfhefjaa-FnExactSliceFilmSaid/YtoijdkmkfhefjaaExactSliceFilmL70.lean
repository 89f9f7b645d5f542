/- Law of a row's function: SliceFilm. Conditions: the laws of what it calls. -/
import Derived.Test.YtoijdkmkfhefjaaExactSliceFilmL69
namespace Go.Abs

set_option linter.unusedSimpArgs false
set_option linter.unusedVariables false
set_option maxHeartbeats 16000000
set_option maxRecDepth 100000
/- loop.example/g01201/laws.FnExactSliceFilm -/
def laws_FnExactSliceFilm_r0 : List SOper := [
  ⟨(some 3), none, .box (.tmp 0), 0⟩,
  ⟨(some 6), none, .mov (.const (.bool false)), 0⟩]
def laws_FnExactSliceFilm_r1 : List SOper := [
  ⟨(some 7), none, .mov (.const (.int .i64 1048576)), 0⟩]
def laws_FnExactSliceFilm_r2 (i_laws_szFilm : FuncId) : List SOper := [
  ⟨(some 18), none, .loadN 6 (.tmp 3), 0⟩,
  ⟨(some 19), none, .mov (.tmp 7), 0⟩,
  ⟨(some 20), none, .call (.func i_laws_szFilm) [(.tmp 18), (.tmp 19)], 3⟩,
  ⟨(some 7), none, .mov (.tmp 20), 7⟩]
def laws_FnExactSliceFilm_r3 : List SOper := [
  ⟨(some 21), none, .mov (.tmp 7), 0⟩,
  ⟨(some 22), none, .bin .lss .other (.tmp 21) (.const (.int .i64 0)), 1⟩]
def laws_FnExactSliceFilm_r4 : List SOper := [
  ⟨(some 6), none, .mov (.const (.bool true)), 0⟩]
def laws_FnExactSliceFilm_r5 (i_laws_toFilm i_spec_SliceFilm : FuncId) : List SOper := [
  ⟨(some 24), none, .loadN 6 (.tmp 3), 0⟩,
  ⟨(some 25), none, .call (.func i_laws_toFilm) [(.tmp 24)], 1⟩,
  ⟨(some 26), none, .mov (.tmp 1), 0⟩,
  ⟨(some 27), none, .mov (.tmp 2), 0⟩,
  ⟨(some 28), none, .call (.func i_spec_SliceFilm) [(.tmp 25), (.tmp 26), (.tmp 27)], 15⟩,
  ⟨(some 23), none, .mov (.tmp 28), 31⟩,
  ⟨(some 29), none, .extract (.tmp 23) 0, 63⟩,
  ⟨(some 30), none, .extract (.tmp 23) 1, 63⟩,
  ⟨(some 8), none, .alloc [(.int .i64 0), (.int .i64 0), (.bool false), (.slice none 0 0), (.slice none 0 0), (.slice none 0 0)], 0⟩,
  ⟨none, none, .store 6 (.tmp 8) (.tmp 29), 383⟩,
  ⟨(some 9), none, .mov (.tmp 30), 1023⟩]
def laws_FnExactSliceFilm_r6 (i_laws_toFilm : FuncId) : List SOper := [
  ⟨(some 31), none, .loadN 6 (.tmp 3), 0⟩,
  ⟨(some 32), none, .call (.func i_laws_toFilm) [(.tmp 31)], 1⟩,
  ⟨(some 10), none, .alloc [(.int .i64 0), (.int .i64 0), (.bool false), (.slice none 0 0), (.slice none 0 0), (.slice none 0 0)], 0⟩,
  ⟨none, none, .store 6 (.tmp 10) (.tmp 32), 7⟩]
def laws_FnExactSliceFilm_r7 (i_impl_SliceFilm : FuncId) : List SOper := [
  ⟨(some 34), none, .loadN 6 (.tmp 10), 0⟩,
  ⟨(some 35), none, .mov (.tmp 1), 0⟩,
  ⟨(some 36), none, .mov (.tmp 2), 0⟩,
  ⟨(some 37), none, .call (.func i_impl_SliceFilm) [(.tmp 34), (.tmp 35), (.tmp 36)], 7⟩,
  ⟨(some 33), none, .mov (.tmp 37), 15⟩,
  ⟨(some 38), none, .extract (.tmp 33) 0, 31⟩,
  ⟨(some 39), none, .extract (.tmp 33) 1, 31⟩,
  ⟨(some 11), none, .alloc [(.int .i64 0), (.int .i64 0), (.bool false), (.slice none 0 0), (.slice none 0 0), (.slice none 0 0)], 0⟩,
  ⟨none, none, .store 6 (.tmp 11) (.tmp 38), 191⟩,
  ⟨(some 12), none, .mov (.tmp 39), 511⟩]
def laws_FnExactSliceFilm_r8 (i_laws_eqFilm : FuncId) : List SOper := [
  ⟨(some 40), none, .loadN 6 (.tmp 11), 0⟩,
  ⟨(some 41), none, .loadN 6 (.tmp 8), 0⟩,
  ⟨(some 42), none, .call (.func i_laws_eqFilm) [(.tmp 40), (.tmp 41)], 3⟩,
  ⟨(some 43), none, .un .not (.tmp 42), 7⟩,
  ⟨(some 44), none, .mov (.tmp 43), 15⟩,
  ⟨(some 45), (some (44, false)), .mov (.tmp 12), 31⟩,
  ⟨(some 46), (some (44, false)), .mov (.tmp 9), 31⟩,
  ⟨(some 47), (some (44, false)), .bin .neq .bool (.tmp 45) (.tmp 46), 127⟩,
  ⟨(some 48), none, .pick (.tmp 44) (.const (.bool true)) (.tmp 47), 255⟩]
def laws_FnExactSliceFilm_r9 : List SOper := [
  ⟨(some 6), none, .mov (.const (.bool false)), 0⟩]
def laws_FnExactSliceFilm_r10 (i_laws_toFilm i_laws_eqFilm : FuncId) : List SOper := [
  ⟨(some 49), none, .loadN 6 (.tmp 10), 0⟩,
  ⟨(some 50), none, .loadN 6 (.tmp 3), 0⟩,
  ⟨(some 51), none, .call (.func i_laws_toFilm) [(.tmp 50)], 2⟩,
  ⟨(some 52), none, .call (.func i_laws_eqFilm) [(.tmp 49), (.tmp 51)], 7⟩,
  ⟨(some 53), none, .un .not (.tmp 52), 15⟩]
def laws_FnExactSliceFilm_r11 : List SOper := [
  ⟨(some 6), none, .mov (.const (.bool false)), 0⟩]
def laws_FnExactSliceFilm_r12 : List SOper := [
  ⟨(some 13), none, .mov (.const (.int .i64 1)), 0⟩]
def laws_FnExactSliceFilm_r13 (i_laws_markFilm : FuncId) : List SOper := [
  ⟨(some 54), none, .loadN 6 (.tmp 10), 0⟩,
  ⟨(some 55), none, .mov (.tmp 13), 0⟩,
  ⟨(some 56), none, .call (.func i_laws_markFilm) [(.tmp 54), (.tmp 55)], 3⟩,
  ⟨(some 13), none, .mov (.tmp 56), 7⟩]
def laws_FnExactSliceFilm_r14 (i_laws_eqFilm : FuncId) : List SOper := [
  ⟨(some 57), none, .mov (.tmp 13), 0⟩,
  ⟨(some 58), none, .bin .lss .other (.tmp 57) (.const (.int .i64 0)), 1⟩,
  ⟨(some 59), none, .mov (.tmp 58), 3⟩,
  ⟨(some 60), (some (59, false)), .loadN 6 (.tmp 11), 7⟩,
  ⟨(some 61), (some (59, false)), .loadN 6 (.tmp 8), 7⟩,
  ⟨(some 62), (some (59, false)), .call (.func i_laws_eqFilm) [(.tmp 60), (.tmp 61)], 31⟩,
  ⟨(some 63), (some (59, false)), .un .not (.tmp 62), 63⟩,
  ⟨(some 64), none, .pick (.tmp 59) (.const (.bool true)) (.tmp 63), 127⟩,
  ⟨(some 65), none, .mov (.tmp 64), 255⟩,
  ⟨(some 66), (some (65, false)), .mov (.tmp 12), 511⟩,
  ⟨(some 67), (some (65, false)), .mov (.tmp 9), 511⟩,
  ⟨(some 68), (some (65, false)), .bin .neq .bool (.tmp 66) (.tmp 67), 2047⟩,
  ⟨(some 69), none, .pick (.tmp 65) (.const (.bool true)) (.tmp 68), 4095⟩]
def laws_FnExactSliceFilm_r15 : List SOper := [
  ⟨(some 6), none, .mov (.const (.bool false)), 0⟩]
def laws_FnExactSliceFilm_r16 : List SOper := [
  ⟨(some 14), none, .mov (.const (.int .i64 1)), 0⟩]
def laws_FnExactSliceFilm_r17 (i_laws_markFilm : FuncId) : List SOper := [
  ⟨(some 70), none, .loadN 6 (.tmp 11), 0⟩,
  ⟨(some 71), none, .mov (.tmp 14), 0⟩,
  ⟨(some 72), none, .call (.func i_laws_markFilm) [(.tmp 70), (.tmp 71)], 3⟩,
  ⟨(some 14), none, .mov (.tmp 72), 7⟩]
def laws_FnExactSliceFilm_r18 : List SOper := [
  ⟨(some 15), none, .mov (.const (.int .i64 1)), 0⟩]
def laws_FnExactSliceFilm_r19 (i_laws_heldFilm : FuncId) : List SOper := [
  ⟨(some 73), none, .loadN 6 (.tmp 11), 0⟩,
  ⟨(some 74), none, .mov (.tmp 15), 0⟩,
  ⟨(some 75), none, .call (.func i_laws_heldFilm) [(.tmp 73), (.tmp 74)], 3⟩,
  ⟨(some 15), none, .mov (.tmp 75), 7⟩]
def laws_FnExactSliceFilm_r20 : List SOper := [
  ⟨(some 76), none, .mov (.tmp 15), 0⟩,
  ⟨(some 77), none, .bin .lss .other (.tmp 76) (.const (.int .i64 0)), 1⟩]
def laws_FnExactSliceFilm_r21 : List SOper := [
  ⟨(some 6), none, .mov (.const (.bool false)), 0⟩]
def laws_FnExactSliceFilm_r22 : List SOper := [
  ⟨(some 78), none, .mov (.tmp 15), 0⟩,
  ⟨(some 79), none, .mov (.tmp 14), 0⟩,
  ⟨(some 80), none, .bin .neq .other (.tmp 78) (.tmp 79), 3⟩]
def laws_FnExactSliceFilm_r23 : List SOper := [
  ⟨(some 6), none, .mov (.const (.bool false)), 0⟩]
def laws_FnExactSliceFilm_r24 (i_laws_toFilm i_impl_SliceFilm : FuncId) : List SOper := [
  ⟨(some 82), none, .loadN 6 (.tmp 3), 0⟩,
  ⟨(some 83), none, .call (.func i_laws_toFilm) [(.tmp 82)], 1⟩,
  ⟨(some 84), none, .mov (.tmp 1), 0⟩,
  ⟨(some 85), none, .mov (.tmp 2), 0⟩,
  ⟨(some 86), none, .call (.func i_impl_SliceFilm) [(.tmp 83), (.tmp 84), (.tmp 85)], 15⟩,
  ⟨(some 81), none, .mov (.tmp 86), 31⟩,
  ⟨(some 87), none, .extract (.tmp 81) 0, 63⟩,
  ⟨(some 88), none, .extract (.tmp 81) 1, 63⟩,
  ⟨(some 16), none, .alloc [(.int .i64 0), (.int .i64 0), (.bool false), (.slice none 0 0), (.slice none 0 0), (.slice none 0 0)], 0⟩,
  ⟨none, none, .store 6 (.tmp 16) (.tmp 87), 383⟩,
  ⟨(some 17), none, .mov (.tmp 88), 1023⟩]
def laws_FnExactSliceFilm_r25 (i_laws_eqFilm : FuncId) : List SOper := [
  ⟨(some 89), none, .loadN 6 (.tmp 16), 0⟩,
  ⟨(some 90), none, .loadN 6 (.tmp 8), 0⟩,
  ⟨(some 91), none, .call (.func i_laws_eqFilm) [(.tmp 89), (.tmp 90)], 3⟩,
  ⟨(some 92), none, .un .not (.tmp 91), 7⟩,
  ⟨(some 93), none, .mov (.tmp 92), 15⟩,
  ⟨(some 94), (some (93, false)), .mov (.tmp 17), 31⟩,
  ⟨(some 95), (some (93, false)), .mov (.tmp 9), 31⟩,
  ⟨(some 96), (some (93, false)), .bin .neq .bool (.tmp 94) (.tmp 95), 127⟩,
  ⟨(some 97), none, .pick (.tmp 93) (.const (.bool true)) (.tmp 96), 255⟩]
def laws_FnExactSliceFilm_r26 : List SOper := [
  ⟨(some 6), none, .mov (.const (.bool false)), 0⟩]
def laws_FnExactSliceFilm_r27 : List SOper := [
  ⟨(some 15), none, .mov (.const (.int .i64 1)), 0⟩]
def laws_FnExactSliceFilm_r28 (i_laws_heldFilm : FuncId) : List SOper := [
  ⟨(some 98), none, .loadN 6 (.tmp 11), 0⟩,
  ⟨(some 99), none, .mov (.tmp 15), 0⟩,
  ⟨(some 100), none, .call (.func i_laws_heldFilm) [(.tmp 98), (.tmp 99)], 3⟩,
  ⟨(some 15), none, .mov (.tmp 100), 7⟩]
def laws_FnExactSliceFilm_r29 : List SOper := [
  ⟨(some 101), none, .mov (.tmp 15), 0⟩,
  ⟨(some 102), none, .bin .lss .other (.tmp 101) (.const (.int .i64 0)), 1⟩]
def laws_FnExactSliceFilm_r30 : List SOper := [
  ⟨(some 6), none, .mov (.const (.bool false)), 0⟩]
def laws_FnExactSliceFilm_r31 : List SOper := [
  ⟨(some 103), none, .mov (.tmp 15), 0⟩,
  ⟨(some 104), none, .mov (.tmp 14), 0⟩,
  ⟨(some 105), none, .bin .neq .other (.tmp 103) (.tmp 104), 3⟩]
def laws_FnExactSliceFilm_r32 : List SOper := [
  ⟨(some 6), none, .mov (.const (.bool false)), 0⟩]
def laws_FnExactSliceFilm_r33 : List SOper := [
  ⟨(some 6), none, .mov (.const (.bool true)), 0⟩]
def laws_FnExactSliceFilm (i_laws_szFilm i_laws_toFilm i_spec_SliceFilm i_impl_SliceFilm i_laws_eqFilm i_laws_markFilm i_laws_heldFilm : FuncId) : SFunc := ⟨106, [.tmp 6], (.kp [0, 1, 2] (.seq (.region laws_FnExactSliceFilm_r0 false) (.kp [1, 2, 3] (.seq (.region laws_FnExactSliceFilm_r1 false) (.kp [1, 2, 3, 7] (.seq (.region (laws_FnExactSliceFilm_r2 i_laws_szFilm) false) (.kp [1, 2, 3, 7] (.seq (.seq (.region laws_FnExactSliceFilm_r3 false) (.kp [1, 2, 3, 22] (.cond (.tmp 22) (.seq (.region laws_FnExactSliceFilm_r4 false) .ret) .skip))) (.kp [1, 2, 3] (.seq (.region (laws_FnExactSliceFilm_r5 i_laws_toFilm i_spec_SliceFilm) false) (.kp [1, 2, 3, 8, 9] (.seq (.region (laws_FnExactSliceFilm_r6 i_laws_toFilm) false) (.kp [1, 2, 3, 8, 9, 10] (.seq (.region (laws_FnExactSliceFilm_r7 i_impl_SliceFilm) false) (.kp [1, 2, 3, 8, 9, 10, 11, 12] (.seq (.seq (.region (laws_FnExactSliceFilm_r8 i_laws_eqFilm) false) (.kp [1, 2, 3, 8, 9, 10, 11, 12, 48] (.cond (.tmp 48) (.seq (.region laws_FnExactSliceFilm_r9 false) .ret) .skip))) (.kp [1, 2, 3, 8, 9, 10, 11, 12] (.seq (.seq (.region (laws_FnExactSliceFilm_r10 i_laws_toFilm i_laws_eqFilm) true) (.kp [1, 2, 3, 8, 9, 10, 11, 12, 53] (.cond (.tmp 53) (.seq (.region laws_FnExactSliceFilm_r11 false) .ret) .skip))) (.kp [1, 2, 3, 8, 9, 10, 11, 12] (.seq (.region laws_FnExactSliceFilm_r12 false) (.kp [1, 2, 3, 8, 9, 10, 11, 12, 13] (.seq (.region (laws_FnExactSliceFilm_r13 i_laws_markFilm) false) (.kp [1, 2, 3, 8, 9, 11, 12, 13] (.seq (.seq (.region (laws_FnExactSliceFilm_r14 i_laws_eqFilm) false) (.kp [1, 2, 3, 8, 9, 11, 69] (.cond (.tmp 69) (.seq (.region laws_FnExactSliceFilm_r15 false) .ret) .skip))) (.kp [1, 2, 3, 8, 9, 11] (.seq (.region laws_FnExactSliceFilm_r16 false) (.kp [1, 2, 3, 8, 9, 11, 14] (.seq (.region (laws_FnExactSliceFilm_r17 i_laws_markFilm) false) (.kp [1, 2, 3, 8, 9, 11, 14] (.seq (.region laws_FnExactSliceFilm_r18 false) (.kp [1, 2, 3, 8, 9, 11, 14, 15] (.seq (.region (laws_FnExactSliceFilm_r19 i_laws_heldFilm) false) (.kp [1, 2, 3, 8, 9, 11, 14, 15] (.seq (.seq (.region laws_FnExactSliceFilm_r20 false) (.kp [1, 2, 3, 8, 9, 11, 14, 15, 77] (.cond (.tmp 77) (.seq (.region laws_FnExactSliceFilm_r21 false) .ret) .skip))) (.kp [1, 2, 3, 8, 9, 11, 14, 15] (.seq (.seq (.region laws_FnExactSliceFilm_r22 false) (.kp [1, 2, 3, 8, 9, 11, 14, 80] (.cond (.tmp 80) (.seq (.region laws_FnExactSliceFilm_r23 false) .ret) .skip))) (.kp [1, 2, 3, 8, 9, 11, 14] (.seq (.region (laws_FnExactSliceFilm_r24 i_laws_toFilm i_impl_SliceFilm) false) (.kp [8, 9, 11, 14, 16, 17] (.seq (.seq (.region (laws_FnExactSliceFilm_r25 i_laws_eqFilm) false) (.kp [11, 14, 97] (.cond (.tmp 97) (.seq (.region laws_FnExactSliceFilm_r26 false) .ret) .skip))) (.kp [11, 14] (.seq (.region laws_FnExactSliceFilm_r27 false) (.kp [11, 14, 15] (.seq (.region (laws_FnExactSliceFilm_r28 i_laws_heldFilm) false) (.kp [14, 15] (.seq (.seq (.region laws_FnExactSliceFilm_r29 false) (.kp [14, 15, 102] (.cond (.tmp 102) (.seq (.region laws_FnExactSliceFilm_r30 false) .ret) .skip))) (.kp [14, 15] (.seq (.seq (.region laws_FnExactSliceFilm_r31 false) (.kp [105] (.cond (.tmp 105) (.seq (.region laws_FnExactSliceFilm_r32 false) .ret) .skip))) (.kp [] (.seq (.region laws_FnExactSliceFilm_r33 false) .ret))))))))))))))))))))))))))))))))))))))))))))))))))⟩
theorem laws_FnExactSliceFilm_r10_dr {i_laws_toFilm i_laws_eqFilm : FuncId} : drawOkW wStat (laws_FnExactSliceFilm_r10 i_laws_toFilm i_laws_eqFilm) = true := by kernel_rfl
attribute [push_cast] laws_FnExactSliceFilm_r10_dr
def laws_FnExactSliceFilm_ok (c : Contract) : Prop := AlwaysTrue [filmK, intK, intK] c
theorem rowSliceFilm_t {C : Ctab} {i1 i2 i3 i4 i5 i6 i7 : FuncId} {c1 c2 c3 c4 c5 c6 c7 : Contract} (h1 : Has C i1 c1 laws_szFilm_ok) (h2 : Has C i2 c2 laws_toFilm_ok) (h3 : Has C i3 c3 spec_SliceFilm_ok) (h4 : Has C i4 c4 impl_SliceFilm_ok) (h5 : Has C i5 c5 laws_eqFilm_ok) (h6 : HasW C i6 c6 laws_markFilm_ok) (h7 : Has C i7 c7 laws_heldFilm_ok)
    (σ : Heap) (w h : Int) (wr : Bool) (sv lv fv : Value) (sp lo : List Nat) (fs : List Fld) (n m : Int) (r : ShR σ sv lv sp lo) (rf : FlsR σ fv fs) (hb1 : sp.length ≤ 9223372036854775807) (hb2 : lo.length ≤ 9223372036854775807) (hbf : bigF fs)
    (hz : ¬ szFilm sp lo fs 1048576 < 0) (hok : slOk w h wr sp lo fs n m = true) : Ret (gcC C (laws_FnExactSliceFilm i1 i2 i3 i4 i5 i6 i7) true) [fmV w h wr sv lv fv, .int .i64 n, .int .i64 m] σ fun v _ => v = .bool true := by
  have k1 := r.s.ok
  have k2 := r.l.ok
  have k3 := rf.ok
  have z := szFilm_fact sp lo fs 1048576 (by omega) (by omega)
  have hy : decide (szFilm sp lo fs 1048576 < 0) = false := decide_eq_false hz
  obtain ⟨n1, n2, hfit, hsum⟩ := z.2.2 (by omega)
  obtain ⟨gs, hgs⟩ : ∃ gs, gs = (fs.drop n.toNat).take m.toNat := ⟨_, rfl⟩
  have gfit : fitsF gs := by rw [hgs]; exact fitsF_sub hfit _ _
  have gsum : sumF gs ≤ 1048576 := by
    have := sumF_take (fs.drop n.toNat) m.toNat
    have := sumF_drop fs n.toNat
    rw [hgs]; omega
  refine ret_gc rfl rfl ?_
  repeat' (first | refine ff ?_ | ((first | refine EvR.aSplB ?_ ?_ | refine Ev.aSplB ?_ ?_) <;> (intro hb; (try rw [hb]); (try simp only [Bool.not_eq_true', Bool.not_eq_false', Bool.not_eq_eq_eq_not, Bool.not_true, Bool.not_false, decide_eq_true_eq, decide_eq_false_iff_not, Bool.and_eq_true, Bool.and_eq_false_iff, Bool.or_eq_true, Bool.or_eq_false_iff] at hb); (try (exfalso; first | omega | exact hb trivial)))) | (apply endS trivial; rotate_left; (· exact eva); (· rfl); try refine ⟨?_, rfl⟩) | fail)
  (apply EvR.aCall h1.at_; (· exact eva); (· exact  h1.ok _ w h wr sv lv fv sp lo fs 1048576 ⟨r.s.ext _, r.l.ext _⟩ (rf.ext _) hb1 hb2 hbf (by omega) (by omega)); (rintro _ _ ⟨rfl, rfl⟩; refine EvR.nrm ?_))
  repeat' (first | refine ff ?_ | ((first | refine EvR.aSplB ?_ ?_ | refine Ev.aSplB ?_ ?_) <;> (intro hb; (try rw [hb]); (try simp only [Bool.not_eq_true', Bool.not_eq_false', Bool.not_eq_eq_eq_not, Bool.not_true, Bool.not_false, decide_eq_true_eq, decide_eq_false_iff_not, Bool.and_eq_true, Bool.and_eq_false_iff, Bool.or_eq_true, Bool.or_eq_false_iff] at hb); (try (exfalso; first | omega | exact hb trivial)))) | (apply endS trivial; rotate_left; (· exact eva); (· rfl); try refine ⟨?_, rfl⟩) | fail)
  apply EvR.aCall h2.at_; (· exact eva); (· exact h2.ok _ w h wr sv lv fv sp lo fs ⟨r.s.ext _, r.l.ext _⟩ (rf.ext _) n1 n2 hfit); rintro _ _ ⟨τ1, s1, l1, b1, R1, rfl, rfl, o1⟩
  refine EvR.base2 fun A1 S1 f1 e1 q1 => ?_
  rw [← e1] at o1
  have x1 : Pre σ S1 := Pre.trans (by rw [f1]; exact (Pre.refl _).app _) q1
  have p3 : PtAt S1 (σ.length + 0) 0 [.int .i64 w, .int .i64 h, .bool wr, sv, lv, fv] := PtAt.pre q1 (by rw [f1]; exact PtAt.own rfl)
  clear e1 f1
  refine EvR.nrm ?_
  repeat' (first | refine ff ?_ | ((first | refine EvR.aSplB ?_ ?_ | refine Ev.aSplB ?_ ?_) <;> (intro hb; (try rw [hb]); (try simp only [Bool.not_eq_true', Bool.not_eq_false', Bool.not_eq_eq_eq_not, Bool.not_true, Bool.not_false, decide_eq_true_eq, decide_eq_false_iff_not, Bool.and_eq_true, Bool.and_eq_false_iff, Bool.or_eq_true, Bool.or_eq_false_iff] at hb); (try (exfalso; first | omega | exact hb trivial)))) | (apply endS trivial; rotate_left; (· exact eva); (· rfl); try refine ⟨?_, rfl⟩) | fail)
  apply EvR.aCall h3.at_; (· exact eva); (· exact h3.ok _ w h wr _ _ _ sp lo fs n m (o1.ext _).sheet (o1.ext _).fls n1 n2 hfit); rintro _ _ hres
  obtain ⟨τ8, s8, l8, b8, R8, rfl, rfl, o8⟩ := hres.t hok
  clear hres
  rw [← hgs] at o8 ⊢
  refine EvR.base2 fun A8 S8 f8 e8 q8 => ?_
  rw [← e8] at o8
  have x8 : Pre σ S8 := x1.trans (Pre.trans (by rw [f8]; exact (Pre.refl _).app _) q8)
  replace p3 := p3.pre (Pre.trans (by rw [f8]; exact (Pre.refl S1).app _) q8)
  clear e8 f8
  refine EvR.nrm ?_
  repeat' (first | refine ff ?_ | ((first | refine EvR.aSplB ?_ ?_ | refine Ev.aSplB ?_ ?_) <;> (intro hb; (try rw [hb]); (try simp only [Bool.not_eq_true', Bool.not_eq_false', Bool.not_eq_eq_eq_not, Bool.not_true, Bool.not_false, decide_eq_true_eq, decide_eq_false_iff_not, Bool.and_eq_true, Bool.and_eq_false_iff, Bool.or_eq_true, Bool.or_eq_false_iff] at hb); (try (exfalso; first | omega | exact hb trivial)))) | (apply endS trivial; rotate_left; (· exact eva); (· rfl); try refine ⟨?_, rfl⟩) | fail)
  apply EvR.aCall h2.at_; (· exact eva); (· exact h2.ok _ w h wr sv lv fv sp lo fs (r.pre (x8.app _)) (rf.pre (x8.app _)) n1 n2 hfit); rintro _ _ ⟨τ10, s10, l10, b10, R10, rfl, rfl, o10⟩
  refine EvR.base2 fun A10 S10 f10 e10 q10 => ?_
  rw [← e10, ← f10] at o10
  have w8 : Pre S8 A10 := by rw [f10]; exact (Pre.refl _).app _
  have p8 : PtAt A10 (S8.length + 0) 0 [.int .i64 w, .int .i64 h, .bool wr, slV s8 sp.length, slV l8 lo.length, slV b8 gs.length] := by rw [f10]; exact PtAt.own rfl
  replace p3 := p3.pre w8
  replace o8 := o8.pre w8
  have x10 := x8.trans w8
  clear e10 f10
  have g3 := p3.pre q10
  have g8 := p8.pre q10
  refine EvR.nrm ?_
  repeat' (first | refine ff ?_ | ((first | refine EvR.aSplB ?_ ?_ | refine Ev.aSplB ?_ ?_) <;> (intro hb; (try rw [hb]); (try simp only [Bool.not_eq_true', Bool.not_eq_false', Bool.not_eq_eq_eq_not, Bool.not_true, Bool.not_false, decide_eq_true_eq, decide_eq_false_iff_not, Bool.and_eq_true, Bool.and_eq_false_iff, Bool.or_eq_true, Bool.or_eq_false_iff] at hb); (try (exfalso; first | omega | exact hb trivial)))) | (apply endS trivial; rotate_left; (· exact eva); (· rfl); try refine ⟨?_, rfl⟩) | fail)
  apply EvR.aCall h4.at_; (· exact eva); (· exact h4.ok _ w h wr _ _ _ sp lo fs n m (o10.ext _).sheet (o10.ext _).fls n1 n2 hfit); rintro _ _ hres
  obtain ⟨τ11, s11, l11, b11, R11, rfl, rfl, o11⟩ := hres.t hok
  clear hres
  rw [← hgs] at o11 ⊢
  refine EvR.base2 fun A11 S11 f11 e11 q11 => ?_
  rw [← e11, ← f11] at o11
  have w10 : Pre S10 A11 := by rw [f11]; exact (Pre.refl _).app _
  have p10 : PtAt S11 (S10.length + 0) 0 [.int .i64 w, .int .i64 h, .bool wr, slV s10 sp.length, slV l10 lo.length, slV b10 fs.length] := PtAt.pre q11 (by rw [f11]; exact PtAt.own rfl)
  clear e11 f11
  have w11 : Pre S10 S11 := w10.trans q11
  have v11 : Pre A10 S11 := q10.trans w11
  replace g3 := g3.pre w11
  replace g8 := g8.pre w11
  refine EvR.nrm ?_
  repeat' (first | refine ff ?_ | ((first | refine EvR.aSplB ?_ ?_ | refine Ev.aSplB ?_ ?_) <;> (intro hb; (try rw [hb]); (try simp only [Bool.not_eq_true', Bool.not_eq_false', Bool.not_eq_eq_eq_not, Bool.not_true, Bool.not_false, decide_eq_true_eq, decide_eq_false_iff_not, Bool.and_eq_true, Bool.and_eq_false_iff, Bool.or_eq_true, Bool.or_eq_false_iff] at hb); (try (exfalso; first | omega | exact hb trivial)))) | (apply endS trivial; rotate_left; (· exact eva); (· rfl); try refine ⟨?_, rfl⟩) | fail)
  (apply EvR.aCall h5.at_; (· exact eva); (· exact  h5.ok _ w h wr _ _ _ _ _ _ sp lo gs (o11.ext _).sheet (o11.ext _).fls ((o8.pre v11).ext _).sheet ((o8.pre v11).ext _).fls n1 n2 gfit); (rintro _ _ ⟨rfl, rfl⟩; refine EvR.nrm ?_))
  repeat' (first | refine ff ?_ | ((first | refine EvR.aSplB ?_ ?_ | refine Ev.aSplB ?_ ?_) <;> (intro hb; (try rw [hb]); (try simp only [Bool.not_eq_true', Bool.not_eq_false', Bool.not_eq_eq_eq_not, Bool.not_true, Bool.not_false, decide_eq_true_eq, decide_eq_false_iff_not, Bool.and_eq_true, Bool.and_eq_false_iff, Bool.or_eq_true, Bool.or_eq_false_iff] at hb); (try (exfalso; first | omega | exact hb trivial)))) | (apply endS trivial; rotate_left; (· exact eva); (· rfl); try refine ⟨?_, rfl⟩) | fail)
  apply EvR.aCall h2.at_; (· exact eva); (· exact h2.ok _ w h wr sv lv fv sp lo fs (r.pre ((x10.trans v11).app _)) (rf.pre ((x10.trans v11).app _)) n1 n2 hfit); rintro _ _ ⟨τ12, s12, l12, b12, R12, rfl, rfl, o12⟩
  refine EvR.base2 fun A12 S12 f12 e12 q12 => ?_
  rw [← e12] at o12
  have w12 : Pre S11 A12 := by rw [f12]; exact (Pre.refl _).app _
  have p11 : PtAt A12 (S11.length + 0) 0 [.int .i64 w, .int .i64 h, .bool wr, slV s11 sp.length, slV l11 lo.length, slV b11 gs.length] := by rw [f12]; exact PtAt.own rfl
  clear e12 f12
  have u12 : Pre S11 S12 := w12.trans q12
  have g10 := p10.pre u12
  replace g3 := g3.pre u12
  replace g8 := g8.pre u12
  have g11 := p11.pre q12
  refine EvR.nrm ?_
  repeat' (first | refine ff ?_ | ((first | refine EvR.aSplB ?_ ?_ | refine Ev.aSplB ?_ ?_) <;> (intro hb; (try rw [hb]); (try simp only [Bool.not_eq_true', Bool.not_eq_false', Bool.not_eq_eq_eq_not, Bool.not_true, Bool.not_false, decide_eq_true_eq, decide_eq_false_iff_not, Bool.and_eq_true, Bool.and_eq_false_iff, Bool.or_eq_true, Bool.or_eq_false_iff] at hb); (try (exfalso; first | omega | exact hb trivial)))) | (apply endS trivial; rotate_left; (· exact eva); (· rfl); try refine ⟨?_, rfl⟩) | fail)
  (apply EvR.aCall h5.at_; (· exact eva); (· exact  h5.ok _ w h wr _ _ _ _ _ _ sp lo fs (((o10.pre w11).pre u12).ext _).sheet (((o10.pre w11).pre u12).ext _).fls (o12.ext _).sheet (o12.ext _).fls n1 n2 hfit); (rintro _ _ ⟨rfl, rfl⟩; refine EvR.nrm ?_))
  repeat' (first | refine ff ?_ | ((first | refine EvR.aSplB ?_ ?_ | refine Ev.aSplB ?_ ?_) <;> (intro hb; (try rw [hb]); (try simp only [Bool.not_eq_true', Bool.not_eq_false', Bool.not_eq_eq_eq_not, Bool.not_true, Bool.not_false, decide_eq_true_eq, decide_eq_false_iff_not, Bool.and_eq_true, Bool.and_eq_false_iff, Bool.or_eq_true, Bool.or_eq_false_iff] at hb); (try (exfalso; first | omega | exact hb trivial)))) | (apply endS trivial; rotate_left; (· exact eva); (· rfl); try refine ⟨?_, rfl⟩) | fail)
  apply EvR.aCall h6.at_; (· exact eva); (· exact h6.ok.2 _ w h wr A10.length s10 l10 b10 R10 sp lo fs 1 (((o10.pre w11).pre u12).ext _) n1 n2 hfit.1 (small_of o10.con hfit) (by rw [tot_sum o10.con]; omega) (by omega) (by omega)); rintro _ _ ⟨rfl, t13, rfl⟩
  obtain ⟨T10, eT10⟩ : ∃ T : Nat, T = tot ((s10, sp) :: (l10, lo) :: R10) := ⟨_, rfl⟩
  rw [← eT10]
  refine EvR.baseM fun A13 S13 f13 e13 q13 => ?_
  have w13 : Pre S12 A13 := by rw [f13]; exact (Pre.refl _).app _
  clear e13 f13
  have v13 : Pre A10 S13 := Pre.trans (Pre.mark (v11.trans (u12.trans w13)) 1 o10.lows) q13
  have x13 : Pre σ S13 := x10.trans v13
  have a11 : S10.length ≤ A11.length := w10.len
  have b11_ : A11.length ≤ S11.length := q11.len
  have r3 := p3.pre v13
  have r8 := p8.pre v13
  have r11 : PtAt S13 (S11.length + 0) 0 [.int .i64 w, .int .i64 h, .bool wr, slV s11 sp.length, slV l11 lo.length, slV b11 gs.length] := p11.same (mark_at q13 o10.tops (by omega) (q12.trans w13) p11.lt)
  have o13 : FilmO S13 A11.length s11 l11 b11 R11 sp lo gs := o11.keep fun o h0 h1 => mark_at q13 o10.tops (by omega) (u12.trans w13) h1
  clear g3 g8 g10 g11
  refine EvR.nrm ?_
  repeat' (first | refine ff ?_ | ((first | refine EvR.aSplB ?_ ?_ | refine Ev.aSplB ?_ ?_) <;> (intro hb; (try rw [hb]); (try simp only [Bool.not_eq_true', Bool.not_eq_false', Bool.not_eq_eq_eq_not, Bool.not_true, Bool.not_false, decide_eq_true_eq, decide_eq_false_iff_not, Bool.and_eq_true, Bool.and_eq_false_iff, Bool.or_eq_true, Bool.or_eq_false_iff] at hb); (try (exfalso; first | omega | exact hb trivial)))) | (apply endS trivial; rotate_left; (· exact eva); (· rfl); try refine ⟨?_, rfl⟩) | fail)
  (apply EvR.aCall h5.at_; (· exact eva); (· exact  h5.ok _ w h wr _ _ _ _ _ _ sp lo gs (o13.ext _).sheet (o13.ext _).fls ((o8.pre v13).ext _).sheet ((o8.pre v13).ext _).fls n1 n2 gfit); (rintro _ _ ⟨rfl, rfl⟩; refine EvR.nrm ?_))
  repeat' (first | refine ff ?_ | ((first | refine EvR.aSplB ?_ ?_ | refine Ev.aSplB ?_ ?_) <;> (intro hb; (try rw [hb]); (try simp only [Bool.not_eq_true', Bool.not_eq_false', Bool.not_eq_eq_eq_not, Bool.not_true, Bool.not_false, decide_eq_true_eq, decide_eq_false_iff_not, Bool.and_eq_true, Bool.and_eq_false_iff, Bool.or_eq_true, Bool.or_eq_false_iff] at hb); (try (exfalso; first | omega | exact hb trivial)))) | (apply endS trivial; rotate_left; (· exact eva); (· rfl); try refine ⟨?_, rfl⟩) | fail)
  apply EvR.aCall h6.at_; (· exact eva); (· exact h6.ok.2 _ w h wr A11.length s11 l11 b11 R11 sp lo gs 1 (o13.ext _) n1 n2 gfit.1 (small_of o13.con gfit) (by rw [tot_sum o13.con]; omega) (by omega) (by omega)); rintro _ _ ⟨rfl, t17, rfl⟩
  refine EvR.baseM fun A17 S17 f17 e17 q17 => ?_
  have w17 : Pre S13 A17 := by rw [f17]; exact (Pre.refl _).app _
  clear e17 f17
  obtain ⟨m1, m2⟩ := (o13.pre w17).marked 1
  have v17 : Pre A10 S17 := Pre.trans (Pre.mark (v13.trans w17) 1 fun p hp => by have := o13.lows p hp; have := q10.len; omega) q17
  have x17 : Pre σ S17 := x10.trans v17
  have d3 := p3.pre v17
  have d8 := p8.pre v17
  have d11 : PtAt S17 (S11.length + 0) 0 [.int .i64 w, .int .i64 h, .bool wr, slV s11 sp.length, slV l11 lo.length, slV b11 gs.length] := r11.same (mark_at q17 o11.tops (by omega) w17 r11.lt)
  have M1 := q17.get m1
  have M2 := fun p hp => q17.get (m2 p hp)
  clear r3 r8 r11
  obtain ⟨T11, eT11⟩ : ∃ T : Nat, T = tot ((s11, sp) :: (l11, lo) :: R11) := ⟨_, rfl⟩
  rw [← eT11]
  refine EvR.nrm ?_
  repeat' (first | refine ff ?_ | ((first | refine EvR.aSplB ?_ ?_ | refine Ev.aSplB ?_ ?_) <;> (intro hb; (try rw [hb]); (try simp only [Bool.not_eq_true', Bool.not_eq_false', Bool.not_eq_eq_eq_not, Bool.not_true, Bool.not_false, decide_eq_true_eq, decide_eq_false_iff_not, Bool.and_eq_true, Bool.and_eq_false_iff, Bool.or_eq_true, Bool.or_eq_false_iff] at hb); (try (exfalso; first | omega | exact hb trivial)))) | (apply endS trivial; rotate_left; (· exact eva); (· rfl); try refine ⟨?_, rfl⟩) | fail)
  (apply EvR.aCall h7.at_; (· exact eva); (· exact  h7.ok.2 _ w h wr s11 l11 b11 gs.length R11 sp lo 1 ((Pre.app (Pre.refl _) _).get M1) (fun p hp => (Pre.app (Pre.refl _) _).get (M2 p hp)) o11.flds.len n1 n2 gfit.1 (small_of o11.con gfit) (by rw [tot_sum o11.con]; omega) (by omega) (by omega)); (rintro _ _ ⟨rfl, rfl⟩; refine EvR.nrm ?_))
  rw [← eT11]
  repeat' (first | refine ff ?_ | ((first | refine EvR.aSplB ?_ ?_ | refine Ev.aSplB ?_ ?_) <;> (intro hb; (try rw [hb]); (try simp only [Bool.not_eq_true', Bool.not_eq_false', Bool.not_eq_eq_eq_not, Bool.not_true, Bool.not_false, decide_eq_true_eq, decide_eq_false_iff_not, Bool.and_eq_true, Bool.and_eq_false_iff, Bool.or_eq_true, Bool.or_eq_false_iff] at hb); (try (exfalso; first | omega | exact hb trivial)))) | (apply endS trivial; rotate_left; (· exact eva); (· rfl); try refine ⟨?_, rfl⟩) | fail)
  apply EvR.aCall h2.at_; (· exact eva); (· exact h2.ok _ w h wr sv lv fv sp lo fs (r.pre (x17.app _)) (rf.pre (x17.app _)) n1 n2 hfit); rintro _ _ ⟨τ24, s24, l24, b24, R24, rfl, rfl, o24⟩
  refine EvR.base2 fun A24 S24 f24 e24 q24 => ?_
  rw [← e24] at o24
  have w24 : Pre S17 S24 := Pre.trans (by rw [f24]; exact (Pre.refl _).app _) q24
  clear e24 f24
  have j8 := d8.pre w24
  have j11 := d11.pre w24
  refine EvR.nrm ?_
  repeat' (first | refine ff ?_ | ((first | refine EvR.aSplB ?_ ?_ | refine Ev.aSplB ?_ ?_) <;> (intro hb; (try rw [hb]); (try simp only [Bool.not_eq_true', Bool.not_eq_false', Bool.not_eq_eq_eq_not, Bool.not_true, Bool.not_false, decide_eq_true_eq, decide_eq_false_iff_not, Bool.and_eq_true, Bool.and_eq_false_iff, Bool.or_eq_true, Bool.or_eq_false_iff] at hb); (try (exfalso; first | omega | exact hb trivial)))) | (apply endS trivial; rotate_left; (· exact eva); (· rfl); try refine ⟨?_, rfl⟩) | fail)
  apply EvR.aCall h4.at_; (· exact eva); (· exact h4.ok _ w h wr _ _ _ sp lo fs n m (o24.ext _).sheet (o24.ext _).fls n1 n2 hfit); rintro _ _ hres
  obtain ⟨τ16, s16, l16, b16, R16, rfl, rfl, o16⟩ := hres.t hok
  clear hres
  rw [← hgs] at o16 ⊢
  refine EvR.base2 fun A16 S16 f16 e16 q16 => ?_
  rw [← e16] at o16
  have w16 : Pre S24 S16 := Pre.trans (by rw [f16]; exact (Pre.refl _).app _) q16
  clear e16 f16
  replace j8 := j8.pre w16
  replace j11 := j11.pre w16
  have u16 : Pre S17 S16 := w24.trans w16
  refine EvR.nrm ?_
  repeat' (first | refine ff ?_ | ((first | refine EvR.aSplB ?_ ?_ | refine Ev.aSplB ?_ ?_) <;> (intro hb; (try rw [hb]); (try simp only [Bool.not_eq_true', Bool.not_eq_false', Bool.not_eq_eq_eq_not, Bool.not_true, Bool.not_false, decide_eq_true_eq, decide_eq_false_iff_not, Bool.and_eq_true, Bool.and_eq_false_iff, Bool.or_eq_true, Bool.or_eq_false_iff] at hb); (try (exfalso; first | omega | exact hb trivial)))) | (apply endS trivial; rotate_left; (· exact eva); (· rfl); try refine ⟨?_, rfl⟩) | fail)
  (apply EvR.aCall h5.at_; (· exact eva); (· exact  h5.ok _ w h wr _ _ _ _ _ _ sp lo gs (o16.ext _).sheet (o16.ext _).fls ((o8.pre (v17.trans u16)).ext _).sheet ((o8.pre (v17.trans u16)).ext _).fls n1 n2 gfit); (rintro _ _ ⟨rfl, rfl⟩; refine EvR.nrm ?_))
  repeat' (first | refine ff ?_ | ((first | refine EvR.aSplB ?_ ?_ | refine Ev.aSplB ?_ ?_) <;> (intro hb; (try rw [hb]); (try simp only [Bool.not_eq_true', Bool.not_eq_false', Bool.not_eq_eq_eq_not, Bool.not_true, Bool.not_false, decide_eq_true_eq, decide_eq_false_iff_not, Bool.and_eq_true, Bool.and_eq_false_iff, Bool.or_eq_true, Bool.or_eq_false_iff] at hb); (try (exfalso; first | omega | exact hb trivial)))) | (apply endS trivial; rotate_left; (· exact eva); (· rfl); try refine ⟨?_, rfl⟩) | fail)
  (apply EvR.aCall h7.at_; (· exact eva); (· exact  h7.ok.2 _ w h wr s11 l11 b11 gs.length R11 sp lo 1 ((Pre.app u16 _).get M1) (fun p hp => (Pre.app u16 _).get (M2 p hp)) o11.flds.len n1 n2 gfit.1 (small_of o11.con gfit) (by rw [tot_sum o11.con]; omega) (by omega) (by omega)); (rintro _ _ ⟨rfl, rfl⟩; refine EvR.nrm ?_))
  rw [← eT11]
  repeat' (first | refine ff ?_ | ((first | refine EvR.aSplB ?_ ?_ | refine Ev.aSplB ?_ ?_) <;> (intro hb; (try rw [hb]); (try simp only [Bool.not_eq_true', Bool.not_eq_false', Bool.not_eq_eq_eq_not, Bool.not_true, Bool.not_false, decide_eq_true_eq, decide_eq_false_iff_not, Bool.and_eq_true, Bool.and_eq_false_iff, Bool.or_eq_true, Bool.or_eq_false_iff] at hb); (try (exfalso; first | omega | exact hb trivial)))) | (apply endS trivial; rotate_left; (· exact eva); (· rfl); try refine ⟨?_, rfl⟩) | fail)
  apply endK ((x17.trans u16))
  · trivial
  · rfl
  · exact eva
  · rfl
theorem rowSliceFilm_f {C : Ctab} {i1 i2 i3 i4 i5 i6 i7 : FuncId} {c1 c2 c3 c4 c5 c6 c7 : Contract} (h1 : Has C i1 c1 laws_szFilm_ok) (h2 : Has C i2 c2 laws_toFilm_ok) (h3 : Has C i3 c3 spec_SliceFilm_ok) (h4 : Has C i4 c4 impl_SliceFilm_ok) (h5 : Has C i5 c5 laws_eqFilm_ok) (h6 : HasW C i6 c6 laws_markFilm_ok) (h7 : Has C i7 c7 laws_heldFilm_ok)
    (σ : Heap) (w h : Int) (wr : Bool) (sv lv fv : Value) (sp lo : List Nat) (fs : List Fld) (n m : Int) (r : ShR σ sv lv sp lo) (rf : FlsR σ fv fs) (hb1 : sp.length ≤ 9223372036854775807) (hb2 : lo.length ≤ 9223372036854775807) (hbf : bigF fs)
    (hz : ¬ szFilm sp lo fs 1048576 < 0) (hok : slOk w h wr sp lo fs n m = false) : Ret (gcC C (laws_FnExactSliceFilm i1 i2 i3 i4 i5 i6 i7) true) [fmV w h wr sv lv fv, .int .i64 n, .int .i64 m] σ fun v _ => v = .bool true := by
  have k1 := r.s.ok
  have k2 := r.l.ok
  have k3 := rf.ok
  have z := szFilm_fact sp lo fs 1048576 (by omega) (by omega)
  have hy : decide (szFilm sp lo fs 1048576 < 0) = false := decide_eq_false hz
  obtain ⟨n1, n2, hfit, hsum⟩ := z.2.2 (by omega)
  refine ret_gc rfl rfl ?_
  repeat' (first | refine ff ?_ | ((first | refine EvR.aSplB ?_ ?_ | refine Ev.aSplB ?_ ?_) <;> (intro hb; (try rw [hb]); (try simp only [Bool.not_eq_true', Bool.not_eq_false', Bool.not_eq_eq_eq_not, Bool.not_true, Bool.not_false, decide_eq_true_eq, decide_eq_false_iff_not, Bool.and_eq_true, Bool.and_eq_false_iff, Bool.or_eq_true, Bool.or_eq_false_iff] at hb); (try (exfalso; first | omega | exact hb trivial)))) | (apply endS trivial; rotate_left; (· exact eva); (· rfl); try refine ⟨?_, rfl⟩) | fail)
  (apply EvR.aCall h1.at_; (· exact eva); (· exact  h1.ok _ w h wr sv lv fv sp lo fs 1048576 ⟨r.s.ext _, r.l.ext _⟩ (rf.ext _) hb1 hb2 hbf (by omega) (by omega)); (rintro _ _ ⟨rfl, rfl⟩; refine EvR.nrm ?_))
  repeat' (first | refine ff ?_ | ((first | refine EvR.aSplB ?_ ?_ | refine Ev.aSplB ?_ ?_) <;> (intro hb; (try rw [hb]); (try simp only [Bool.not_eq_true', Bool.not_eq_false', Bool.not_eq_eq_eq_not, Bool.not_true, Bool.not_false, decide_eq_true_eq, decide_eq_false_iff_not, Bool.and_eq_true, Bool.and_eq_false_iff, Bool.or_eq_true, Bool.or_eq_false_iff] at hb); (try (exfalso; first | omega | exact hb trivial)))) | (apply endS trivial; rotate_left; (· exact eva); (· rfl); try refine ⟨?_, rfl⟩) | fail)
  apply EvR.aCall h2.at_; (· exact eva); (· exact h2.ok _ w h wr sv lv fv sp lo fs ⟨r.s.ext _, r.l.ext _⟩ (rf.ext _) n1 n2 hfit); rintro _ _ ⟨τ1, s1, l1, b1, R1, rfl, rfl, o1⟩
  refine EvR.base2 fun A1 S1 f1 e1 q1 => ?_
  rw [← e1] at o1
  have x1 : Pre σ S1 := Pre.trans (by rw [f1]; exact (Pre.refl _).app _) q1
  have p3 : PtAt S1 (σ.length + 0) 0 [.int .i64 w, .int .i64 h, .bool wr, sv, lv, fv] := PtAt.pre q1 (by rw [f1]; exact PtAt.own rfl)
  clear e1 f1
  refine EvR.nrm ?_
  repeat' (first | refine ff ?_ | ((first | refine EvR.aSplB ?_ ?_ | refine Ev.aSplB ?_ ?_) <;> (intro hb; (try rw [hb]); (try simp only [Bool.not_eq_true', Bool.not_eq_false', Bool.not_eq_eq_eq_not, Bool.not_true, Bool.not_false, decide_eq_true_eq, decide_eq_false_iff_not, Bool.and_eq_true, Bool.and_eq_false_iff, Bool.or_eq_true, Bool.or_eq_false_iff] at hb); (try (exfalso; first | omega | exact hb trivial)))) | (apply endS trivial; rotate_left; (· exact eva); (· rfl); try refine ⟨?_, rfl⟩) | fail)
  apply EvR.aCall h3.at_; (· exact eva); (· exact h3.ok _ w h wr _ _ _ sp lo fs n m (o1.ext _).sheet (o1.ext _).fls n1 n2 hfit); rintro _ _ hres
  obtain ⟨⟨τ8, rfl⟩, rfl⟩ := hres.f hok
  clear hres
  refine EvR.base2 fun A8 S8 f8 e8 q8 => ?_
  have x8 : Pre σ S8 := x1.trans (Pre.trans (by rw [f8]; exact (Pre.refl _).app _) q8)
  replace p3 := p3.pre (Pre.trans (by rw [f8]; exact (Pre.refl S1).app _) q8)
  clear e8 f8
  refine EvR.nrm ?_
  repeat' (first | refine ff ?_ | ((first | refine EvR.aSplB ?_ ?_ | refine Ev.aSplB ?_ ?_) <;> (intro hb; (try rw [hb]); (try simp only [Bool.not_eq_true', Bool.not_eq_false', Bool.not_eq_eq_eq_not, Bool.not_true, Bool.not_false, decide_eq_true_eq, decide_eq_false_iff_not, Bool.and_eq_true, Bool.and_eq_false_iff, Bool.or_eq_true, Bool.or_eq_false_iff] at hb); (try (exfalso; first | omega | exact hb trivial)))) | (apply endS trivial; rotate_left; (· exact eva); (· rfl); try refine ⟨?_, rfl⟩) | fail)
  apply EvR.aCall h2.at_; (· exact eva); (· exact h2.ok _ w h wr sv lv fv sp lo fs (r.pre (x8.app _)) (rf.pre (x8.app _)) n1 n2 hfit); rintro _ _ ⟨τ10, s10, l10, b10, R10, rfl, rfl, o10⟩
  refine EvR.base2 fun A10 S10 f10 e10 q10 => ?_
  rw [← e10, ← f10] at o10
  have w8 : Pre S8 A10 := by rw [f10]; exact (Pre.refl _).app _
  have p8 : PtAt A10 (S8.length + 0) 0 [.int .i64 0, .int .i64 0, .bool false, .slice none 0 0, .slice none 0 0, .slice none 0 0] := by rw [f10]; exact PtAt.own rfl
  replace p3 := p3.pre w8
  have x10 := x8.trans w8
  clear e10 f10
  have g3 := p3.pre q10
  have g8 := p8.pre q10
  refine EvR.nrm ?_
  repeat' (first | refine ff ?_ | ((first | refine EvR.aSplB ?_ ?_ | refine Ev.aSplB ?_ ?_) <;> (intro hb; (try rw [hb]); (try simp only [Bool.not_eq_true', Bool.not_eq_false', Bool.not_eq_eq_eq_not, Bool.not_true, Bool.not_false, decide_eq_true_eq, decide_eq_false_iff_not, Bool.and_eq_true, Bool.and_eq_false_iff, Bool.or_eq_true, Bool.or_eq_false_iff] at hb); (try (exfalso; first | omega | exact hb trivial)))) | (apply endS trivial; rotate_left; (· exact eva); (· rfl); try refine ⟨?_, rfl⟩) | fail)
  apply EvR.aCall h4.at_; (· exact eva); (· exact h4.ok _ w h wr _ _ _ sp lo fs n m (o10.ext _).sheet (o10.ext _).fls n1 n2 hfit); rintro _ _ hres
  obtain ⟨⟨τ11, rfl⟩, rfl⟩ := hres.f hok
  clear hres
  refine EvR.base2 fun A11 S11 f11 e11 q11 => ?_
  have w10 : Pre S10 A11 := by rw [f11]; exact (Pre.refl _).app _
  have p10 : PtAt S11 (S10.length + 0) 0 [.int .i64 w, .int .i64 h, .bool wr, slV s10 sp.length, slV l10 lo.length, slV b10 fs.length] := PtAt.pre q11 (by rw [f11]; exact PtAt.own rfl)
  clear e11 f11
  have w11 : Pre S10 S11 := w10.trans q11
  have v11 : Pre A10 S11 := q10.trans w11
  replace g3 := g3.pre w11
  replace g8 := g8.pre w11
  refine EvR.nrm ?_
  repeat' (first | refine ff ?_ | ((first | refine EvR.aSplB ?_ ?_ | refine Ev.aSplB ?_ ?_) <;> (intro hb; (try rw [hb]); (try simp only [Bool.not_eq_true', Bool.not_eq_false', Bool.not_eq_eq_eq_not, Bool.not_true, Bool.not_false, decide_eq_true_eq, decide_eq_false_iff_not, Bool.and_eq_true, Bool.and_eq_false_iff, Bool.or_eq_true, Bool.or_eq_false_iff] at hb); (try (exfalso; first | omega | exact hb trivial)))) | (apply endS trivial; rotate_left; (· exact eva); (· rfl); try refine ⟨?_, rfl⟩) | fail)
  (apply EvR.aCall h5.at_; (· exact eva); (· exact  h5.ok _ 0 0 false _ _ _ _ _ _ [] [] [] (noShR _) (noFlsR _) (noShR _) (noFlsR _) (by simp) (by simp) noFits); (rintro _ _ ⟨rfl, rfl⟩; refine EvR.nrm ?_))
  repeat' (first | refine ff ?_ | ((first | refine EvR.aSplB ?_ ?_ | refine Ev.aSplB ?_ ?_) <;> (intro hb; (try rw [hb]); (try simp only [Bool.not_eq_true', Bool.not_eq_false', Bool.not_eq_eq_eq_not, Bool.not_true, Bool.not_false, decide_eq_true_eq, decide_eq_false_iff_not, Bool.and_eq_true, Bool.and_eq_false_iff, Bool.or_eq_true, Bool.or_eq_false_iff] at hb); (try (exfalso; first | omega | exact hb trivial)))) | (apply endS trivial; rotate_left; (· exact eva); (· rfl); try refine ⟨?_, rfl⟩) | fail)
  apply EvR.aCall h2.at_; (· exact eva); (· exact h2.ok _ w h wr sv lv fv sp lo fs (r.pre ((x10.trans v11).app _)) (rf.pre ((x10.trans v11).app _)) n1 n2 hfit); rintro _ _ ⟨τ12, s12, l12, b12, R12, rfl, rfl, o12⟩
  refine EvR.base2 fun A12 S12 f12 e12 q12 => ?_
  rw [← e12] at o12
  have w12 : Pre S11 A12 := by rw [f12]; exact (Pre.refl _).app _
  have p11 : PtAt A12 (S11.length + 0) 0 [.int .i64 0, .int .i64 0, .bool false, .slice none 0 0, .slice none 0 0, .slice none 0 0] := by rw [f12]; exact PtAt.own rfl
  clear e12 f12
  have u12 : Pre S11 S12 := w12.trans q12
  have g10 := p10.pre u12
  replace g3 := g3.pre u12
  replace g8 := g8.pre u12
  have g11 := p11.pre q12
  refine EvR.nrm ?_
  repeat' (first | refine ff ?_ | ((first | refine EvR.aSplB ?_ ?_ | refine Ev.aSplB ?_ ?_) <;> (intro hb; (try rw [hb]); (try simp only [Bool.not_eq_true', Bool.not_eq_false', Bool.not_eq_eq_eq_not, Bool.not_true, Bool.not_false, decide_eq_true_eq, decide_eq_false_iff_not, Bool.and_eq_true, Bool.and_eq_false_iff, Bool.or_eq_true, Bool.or_eq_false_iff] at hb); (try (exfalso; first | omega | exact hb trivial)))) | (apply endS trivial; rotate_left; (· exact eva); (· rfl); try refine ⟨?_, rfl⟩) | fail)
  (apply EvR.aCall h5.at_; (· exact eva); (· exact  h5.ok _ w h wr _ _ _ _ _ _ sp lo fs (((o10.pre w11).pre u12).ext _).sheet (((o10.pre w11).pre u12).ext _).fls (o12.ext _).sheet (o12.ext _).fls n1 n2 hfit); (rintro _ _ ⟨rfl, rfl⟩; refine EvR.nrm ?_))
  repeat' (first | refine ff ?_ | ((first | refine EvR.aSplB ?_ ?_ | refine Ev.aSplB ?_ ?_) <;> (intro hb; (try rw [hb]); (try simp only [Bool.not_eq_true', Bool.not_eq_false', Bool.not_eq_eq_eq_not, Bool.not_true, Bool.not_false, decide_eq_true_eq, decide_eq_false_iff_not, Bool.and_eq_true, Bool.and_eq_false_iff, Bool.or_eq_true, Bool.or_eq_false_iff] at hb); (try (exfalso; first | omega | exact hb trivial)))) | (apply endS trivial; rotate_left; (· exact eva); (· rfl); try refine ⟨?_, rfl⟩) | fail)
  apply EvR.aCall h6.at_; (· exact eva); (· exact h6.ok.2 _ w h wr A10.length s10 l10 b10 R10 sp lo fs 1 (((o10.pre w11).pre u12).ext _) n1 n2 hfit.1 (small_of o10.con hfit) (by rw [tot_sum o10.con]; omega) (by omega) (by omega)); rintro _ _ ⟨rfl, t13, rfl⟩
  obtain ⟨T10, eT10⟩ : ∃ T : Nat, T = tot ((s10, sp) :: (l10, lo) :: R10) := ⟨_, rfl⟩
  rw [← eT10]
  refine EvR.baseM fun A13 S13 f13 e13 q13 => ?_
  have w13 : Pre S12 A13 := by rw [f13]; exact (Pre.refl _).app _
  clear e13 f13
  have v13 : Pre A10 S13 := Pre.trans (Pre.mark (v11.trans (u12.trans w13)) 1 o10.lows) q13
  have x13 : Pre σ S13 := x10.trans v13
  have a11 : S10.length ≤ S11.length := w11.len
  have r3 := p3.pre v13
  have r8 := p8.pre v13
  have r11 : PtAt S13 (S11.length + 0) 0 [.int .i64 0, .int .i64 0, .bool false, .slice none 0 0, .slice none 0 0, .slice none 0 0] := p11.same (mark_at q13 o10.tops (by omega) (q12.trans w13) p11.lt)
  clear g3 g8 g10 g11
  refine EvR.nrm ?_
  repeat' (first | refine ff ?_ | ((first | refine EvR.aSplB ?_ ?_ | refine Ev.aSplB ?_ ?_) <;> (intro hb; (try rw [hb]); (try simp only [Bool.not_eq_true', Bool.not_eq_false', Bool.not_eq_eq_eq_not, Bool.not_true, Bool.not_false, decide_eq_true_eq, decide_eq_false_iff_not, Bool.and_eq_true, Bool.and_eq_false_iff, Bool.or_eq_true, Bool.or_eq_false_iff] at hb); (try (exfalso; first | omega | exact hb trivial)))) | (apply endS trivial; rotate_left; (· exact eva); (· rfl); try refine ⟨?_, rfl⟩) | fail)
  (apply EvR.aCall h5.at_; (· exact eva); (· exact  h5.ok _ 0 0 false _ _ _ _ _ _ [] [] [] (noShR _) (noFlsR _) (noShR _) (noFlsR _) (by simp) (by simp) noFits); (rintro _ _ ⟨rfl, rfl⟩; refine EvR.nrm ?_))
  repeat' (first | refine ff ?_ | ((first | refine EvR.aSplB ?_ ?_ | refine Ev.aSplB ?_ ?_) <;> (intro hb; (try rw [hb]); (try simp only [Bool.not_eq_true', Bool.not_eq_false', Bool.not_eq_eq_eq_not, Bool.not_true, Bool.not_false, decide_eq_true_eq, decide_eq_false_iff_not, Bool.and_eq_true, Bool.and_eq_false_iff, Bool.or_eq_true, Bool.or_eq_false_iff] at hb); (try (exfalso; first | omega | exact hb trivial)))) | (apply endS trivial; rotate_left; (· exact eva); (· rfl); try refine ⟨?_, rfl⟩) | fail)
  apply EvR.aCall h6.at_; (· exact eva); (· exact h6.ok.1 _ 1); rintro _ _ ⟨rfl, t17, rfl⟩
  refine EvR.base2 fun A17 S17 f17 e17 q17 => ?_
  have w17 : Pre S13 S17 := Pre.trans (by rw [f17]; exact (Pre.refl _).app _) q17
  clear e17 f17
  have v17 : Pre A10 S17 := v13.trans w17
  have x17 : Pre σ S17 := x10.trans v17
  have d3 := p3.pre v17
  have d8 := p8.pre v17
  have d11 := r11.pre w17
  clear r3 r8 r11
  refine EvR.nrm ?_
  repeat' (first | refine ff ?_ | ((first | refine EvR.aSplB ?_ ?_ | refine Ev.aSplB ?_ ?_) <;> (intro hb; (try rw [hb]); (try simp only [Bool.not_eq_true', Bool.not_eq_false', Bool.not_eq_eq_eq_not, Bool.not_true, Bool.not_false, decide_eq_true_eq, decide_eq_false_iff_not, Bool.and_eq_true, Bool.and_eq_false_iff, Bool.or_eq_true, Bool.or_eq_false_iff] at hb); (try (exfalso; first | omega | exact hb trivial)))) | (apply endS trivial; rotate_left; (· exact eva); (· rfl); try refine ⟨?_, rfl⟩) | fail)
  (apply EvR.aCall h7.at_; (· exact eva); (· exact  h7.ok.1 _ 1 (by omega) (by omega)); (rintro _ _ ⟨rfl, rfl⟩; refine EvR.nrm ?_))
  repeat' (first | refine ff ?_ | ((first | refine EvR.aSplB ?_ ?_ | refine Ev.aSplB ?_ ?_) <;> (intro hb; (try rw [hb]); (try simp only [Bool.not_eq_true', Bool.not_eq_false', Bool.not_eq_eq_eq_not, Bool.not_true, Bool.not_false, decide_eq_true_eq, decide_eq_false_iff_not, Bool.and_eq_true, Bool.and_eq_false_iff, Bool.or_eq_true, Bool.or_eq_false_iff] at hb); (try (exfalso; first | omega | exact hb trivial)))) | (apply endS trivial; rotate_left; (· exact eva); (· rfl); try refine ⟨?_, rfl⟩) | fail)
  apply EvR.aCall h2.at_; (· exact eva); (· exact h2.ok _ w h wr sv lv fv sp lo fs (r.pre (x17.app _)) (rf.pre (x17.app _)) n1 n2 hfit); rintro _ _ ⟨τ24, s24, l24, b24, R24, rfl, rfl, o24⟩
  refine EvR.base2 fun A24 S24 f24 e24 q24 => ?_
  rw [← e24] at o24
  have w24 : Pre S17 S24 := Pre.trans (by rw [f24]; exact (Pre.refl _).app _) q24
  clear e24 f24
  have j8 := d8.pre w24
  have j11 := d11.pre w24
  refine EvR.nrm ?_
  repeat' (first | refine ff ?_ | ((first | refine EvR.aSplB ?_ ?_ | refine Ev.aSplB ?_ ?_) <;> (intro hb; (try rw [hb]); (try simp only [Bool.not_eq_true', Bool.not_eq_false', Bool.not_eq_eq_eq_not, Bool.not_true, Bool.not_false, decide_eq_true_eq, decide_eq_false_iff_not, Bool.and_eq_true, Bool.and_eq_false_iff, Bool.or_eq_true, Bool.or_eq_false_iff] at hb); (try (exfalso; first | omega | exact hb trivial)))) | (apply endS trivial; rotate_left; (· exact eva); (· rfl); try refine ⟨?_, rfl⟩) | fail)
  apply EvR.aCall h4.at_; (· exact eva); (· exact h4.ok _ w h wr _ _ _ sp lo fs n m (o24.ext _).sheet (o24.ext _).fls n1 n2 hfit); rintro _ _ hres
  obtain ⟨⟨τ16, rfl⟩, rfl⟩ := hres.f hok
  clear hres
  refine EvR.base2 fun A16 S16 f16 e16 q16 => ?_
  have w16 : Pre S24 S16 := Pre.trans (by rw [f16]; exact (Pre.refl _).app _) q16
  clear e16 f16
  replace j8 := j8.pre w16
  replace j11 := j11.pre w16
  have u16 : Pre S17 S16 := w24.trans w16
  refine EvR.nrm ?_
  repeat' (first | refine ff ?_ | ((first | refine EvR.aSplB ?_ ?_ | refine Ev.aSplB ?_ ?_) <;> (intro hb; (try rw [hb]); (try simp only [Bool.not_eq_true', Bool.not_eq_false', Bool.not_eq_eq_eq_not, Bool.not_true, Bool.not_false, decide_eq_true_eq, decide_eq_false_iff_not, Bool.and_eq_true, Bool.and_eq_false_iff, Bool.or_eq_true, Bool.or_eq_false_iff] at hb); (try (exfalso; first | omega | exact hb trivial)))) | (apply endS trivial; rotate_left; (· exact eva); (· rfl); try refine ⟨?_, rfl⟩) | fail)
  (apply EvR.aCall h5.at_; (· exact eva); (· exact  h5.ok _ 0 0 false _ _ _ _ _ _ [] [] [] (noShR _) (noFlsR _) (noShR _) (noFlsR _) (by simp) (by simp) noFits); (rintro _ _ ⟨rfl, rfl⟩; refine EvR.nrm ?_))
  repeat' (first | refine ff ?_ | ((first | refine EvR.aSplB ?_ ?_ | refine Ev.aSplB ?_ ?_) <;> (intro hb; (try rw [hb]); (try simp only [Bool.not_eq_true', Bool.not_eq_false', Bool.not_eq_eq_eq_not, Bool.not_true, Bool.not_false, decide_eq_true_eq, decide_eq_false_iff_not, Bool.and_eq_true, Bool.and_eq_false_iff, Bool.or_eq_true, Bool.or_eq_false_iff] at hb); (try (exfalso; first | omega | exact hb trivial)))) | (apply endS trivial; rotate_left; (· exact eva); (· rfl); try refine ⟨?_, rfl⟩) | fail)
  (apply EvR.aCall h7.at_; (· exact eva); (· exact  h7.ok.1 _ 1 (by omega) (by omega)); (rintro _ _ ⟨rfl, rfl⟩; refine EvR.nrm ?_))
  repeat' (first | refine ff ?_ | ((first | refine EvR.aSplB ?_ ?_ | refine Ev.aSplB ?_ ?_) <;> (intro hb; (try rw [hb]); (try simp only [Bool.not_eq_true', Bool.not_eq_false', Bool.not_eq_eq_eq_not, Bool.not_true, Bool.not_false, decide_eq_true_eq, decide_eq_false_iff_not, Bool.and_eq_true, Bool.and_eq_false_iff, Bool.or_eq_true, Bool.or_eq_false_iff] at hb); (try (exfalso; first | omega | exact hb trivial)))) | (apply endS trivial; rotate_left; (· exact eva); (· rfl); try refine ⟨?_, rfl⟩) | fail)
  apply endK ((x17.trans u16))
  · trivial
  · rfl
  · exact eva
  · rfl
theorem laws_FnExactSliceFilm_law {C : Ctab} {i1 i2 i3 i4 i5 i6 i7 : FuncId} {c1 c2 c3 c4 c5 c6 c7 : Contract} (h1 : Has C i1 c1 laws_szFilm_ok) (h2 : Has C i2 c2 laws_toFilm_ok) (h3 : Has C i3 c3 spec_SliceFilm_ok) (h4 : Has C i4 c4 impl_SliceFilm_ok) (h5 : Has C i5 c5 laws_eqFilm_ok) (h6 : HasW C i6 c6 laws_markFilm_ok) (h7 : Has C i7 c7 laws_heldFilm_ok) :
    laws_FnExactSliceFilm_ok (gcC C (laws_FnExactSliceFilm i1 i2 i3 i4 i5 i6 i7) true) := by
  intro σ avs hh
  match avs, hh with
  | [v0, v1, v2], ⟨g0, g1, g2, _⟩ =>
    obtain ⟨w, h, wr, sv, lv, fv, sp, lo, fs, rfl, r, rf, hb1, hb2, hbf, _, _⟩ := film_abs g0
    obtain ⟨n, rfl, hi1⟩ := int_abs g1
    obtain ⟨m, rfl, hi2⟩ := int_abs g2
    have k1 := r.s.ok
    have k2 := r.l.ok
    have k3 := rf.ok
    have z := szFilm_fact sp lo fs 1048576 (by omega) (by omega)
    by_cases hz : szFilm sp lo fs 1048576 < 0
    · refine ret_gc rfl rfl ?_
      repeat' (first | refine ff ?_ | ((first | refine EvR.aSplB ?_ ?_ | refine Ev.aSplB ?_ ?_) <;> (intro hb; (try rw [hb]); (try simp only [Bool.not_eq_true', Bool.not_eq_false', Bool.not_eq_eq_eq_not, Bool.not_true, Bool.not_false, decide_eq_true_eq, decide_eq_false_iff_not, Bool.and_eq_true, Bool.and_eq_false_iff, Bool.or_eq_true, Bool.or_eq_false_iff] at hb); (try (exfalso; first | omega | exact hb trivial)))) | (apply endS trivial; rotate_left; (· exact eva); (· rfl); try refine ⟨?_, rfl⟩) | fail)
      (apply EvR.aCall h1.at_; (· exact eva); (· exact  h1.ok _ w h wr sv lv fv sp lo fs 1048576 ⟨r.s.ext _, r.l.ext _⟩ (rf.ext _) hb1 hb2 hbf (by omega) (by omega)); (rintro _ _ ⟨rfl, rfl⟩; refine EvR.nrm ?_))
      repeat' (first | refine ff ?_ | ((first | refine EvR.aSplB ?_ ?_ | refine Ev.aSplB ?_ ?_) <;> (intro hb; (try rw [hb]); (try simp only [Bool.not_eq_true', Bool.not_eq_false', Bool.not_eq_eq_eq_not, Bool.not_true, Bool.not_false, decide_eq_true_eq, decide_eq_false_iff_not, Bool.and_eq_true, Bool.and_eq_false_iff, Bool.or_eq_true, Bool.or_eq_false_iff] at hb); (try (exfalso; first | omega | exact hb trivial)))) | (apply endS trivial; rotate_left; (· exact eva); (· rfl); try refine ⟨?_, rfl⟩) | fail)
      all_goals rfl
    cases hok : slOk w h wr sp lo fs n m
    · exact rowSliceFilm_f h1 h2 h3 h4 h5 h6 h7 σ w h wr sv lv fv sp lo fs n m r rf hb1 hb2 hbf hz hok
    · exact rowSliceFilm_t h1 h2 h3 h4 h5 h6 h7 σ w h wr sv lv fv sp lo fs n m r rf hb1 hb2 hbf hz hok
end Go.Abs

