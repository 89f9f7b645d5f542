/- Law of a row's function: SameFilm. Conditions: the laws of what it calls. -/
import Derived.Test.YtogekdhkcndbdaaExactSameFilmL90
namespace Go.Abs

set_option linter.unusedSimpArgs false
set_option linter.unusedVariables false
set_option maxHeartbeats 16000000
set_option maxRecDepth 100000
/- loop.example/g01201/laws.FnExactSameFilm -/
def laws_FnExactSameFilm_r0 : List SOper := [
  ⟨(some 2), none, .box (.tmp 0), 0⟩,
  ⟨(some 3), none, .box (.tmp 1), 0⟩,
  ⟨(some 4), none, .mov (.const (.bool false)), 0⟩]
def laws_FnExactSameFilm_r1 : List SOper := [
  ⟨(some 5), none, .mov (.const (.int .i64 1048576)), 0⟩]
def laws_FnExactSameFilm_r2 (i_laws_szFilm : FuncId) : List SOper := [
  ⟨(some 10), none, .loadN 6 (.tmp 2), 0⟩,
  ⟨(some 11), none, .mov (.tmp 5), 0⟩,
  ⟨(some 12), none, .call (.func i_laws_szFilm) [(.tmp 10), (.tmp 11)], 3⟩,
  ⟨(some 5), none, .mov (.tmp 12), 7⟩]
def laws_FnExactSameFilm_r3 : List SOper := [
  ⟨(some 13), none, .mov (.tmp 5), 0⟩,
  ⟨(some 14), none, .bin .lss .other (.tmp 13) (.const (.int .i64 0)), 1⟩]
def laws_FnExactSameFilm_r4 : List SOper := [
  ⟨(some 4), none, .mov (.const (.bool true)), 0⟩]
def laws_FnExactSameFilm_r5 (i_laws_szFilm : FuncId) : List SOper := [
  ⟨(some 15), none, .loadN 6 (.tmp 3), 0⟩,
  ⟨(some 16), none, .mov (.tmp 5), 0⟩,
  ⟨(some 17), none, .call (.func i_laws_szFilm) [(.tmp 15), (.tmp 16)], 3⟩,
  ⟨(some 5), none, .mov (.tmp 17), 7⟩]
def laws_FnExactSameFilm_r6 : List SOper := [
  ⟨(some 18), none, .mov (.tmp 5), 0⟩,
  ⟨(some 19), none, .bin .lss .other (.tmp 18) (.const (.int .i64 0)), 1⟩]
def laws_FnExactSameFilm_r7 : List SOper := [
  ⟨(some 4), none, .mov (.const (.bool true)), 0⟩]
def laws_FnExactSameFilm_r8 (i_laws_toFilm i_spec_SameFilm : FuncId) : List SOper := [
  ⟨(some 20), none, .loadN 6 (.tmp 2), 0⟩,
  ⟨(some 21), none, .call (.func i_laws_toFilm) [(.tmp 20)], 1⟩,
  ⟨(some 22), none, .loadN 6 (.tmp 3), 0⟩,
  ⟨(some 23), none, .call (.func i_laws_toFilm) [(.tmp 22)], 7⟩,
  ⟨(some 24), none, .call (.func i_spec_SameFilm) [(.tmp 21), (.tmp 23)], 15⟩,
  ⟨(some 6), none, .mov (.tmp 24), 31⟩]
def laws_FnExactSameFilm_r9 (i_laws_toFilm : FuncId) : List SOper := [
  ⟨(some 25), none, .loadN 6 (.tmp 2), 0⟩,
  ⟨(some 26), none, .call (.func i_laws_toFilm) [(.tmp 25)], 1⟩,
  ⟨(some 7), none, .alloc [(.int .i64 0), (.int .i64 0), (.bool false), (.slice none 0 0), (.slice none 0 0), (.slice none 0 0)], 0⟩,
  ⟨none, none, .store 6 (.tmp 7) (.tmp 26), 7⟩]
def laws_FnExactSameFilm_r10 (i_laws_toFilm : FuncId) : List SOper := [
  ⟨(some 27), none, .loadN 6 (.tmp 3), 0⟩,
  ⟨(some 28), none, .call (.func i_laws_toFilm) [(.tmp 27)], 1⟩,
  ⟨(some 8), none, .alloc [(.int .i64 0), (.int .i64 0), (.bool false), (.slice none 0 0), (.slice none 0 0), (.slice none 0 0)], 0⟩,
  ⟨none, none, .store 6 (.tmp 8) (.tmp 28), 7⟩]
def laws_FnExactSameFilm_r11 (i_impl_SameFilm : FuncId) : List SOper := [
  ⟨(some 29), none, .loadN 6 (.tmp 7), 0⟩,
  ⟨(some 30), none, .loadN 6 (.tmp 8), 0⟩,
  ⟨(some 31), none, .call (.func i_impl_SameFilm) [(.tmp 29), (.tmp 30)], 3⟩,
  ⟨(some 9), none, .mov (.tmp 31), 7⟩]
def laws_FnExactSameFilm_r12 : List SOper := [
  ⟨(some 32), none, .mov (.tmp 9), 0⟩,
  ⟨(some 33), none, .mov (.tmp 6), 0⟩,
  ⟨(some 34), none, .bin .neq .bool (.tmp 32) (.tmp 33), 3⟩]
def laws_FnExactSameFilm_r13 : List SOper := [
  ⟨(some 4), none, .mov (.const (.bool false)), 0⟩]
def laws_FnExactSameFilm_r14 (i_laws_toFilm i_laws_eqFilm : FuncId) : List SOper := [
  ⟨(some 35), none, .loadN 6 (.tmp 7), 0⟩,
  ⟨(some 36), none, .loadN 6 (.tmp 2), 0⟩,
  ⟨(some 37), none, .call (.func i_laws_toFilm) [(.tmp 36)], 2⟩,
  ⟨(some 38), none, .call (.func i_laws_eqFilm) [(.tmp 35), (.tmp 37)], 7⟩,
  ⟨(some 39), none, .un .not (.tmp 38), 15⟩]
def laws_FnExactSameFilm_r15 : List SOper := [
  ⟨(some 4), none, .mov (.const (.bool false)), 0⟩]
def laws_FnExactSameFilm_r16 (i_laws_toFilm i_laws_eqFilm : FuncId) : List SOper := [
  ⟨(some 40), none, .loadN 6 (.tmp 8), 0⟩,
  ⟨(some 41), none, .loadN 6 (.tmp 3), 0⟩,
  ⟨(some 42), none, .call (.func i_laws_toFilm) [(.tmp 41)], 2⟩,
  ⟨(some 43), none, .call (.func i_laws_eqFilm) [(.tmp 40), (.tmp 42)], 7⟩,
  ⟨(some 44), none, .un .not (.tmp 43), 15⟩]
def laws_FnExactSameFilm_r17 : List SOper := [
  ⟨(some 4), none, .mov (.const (.bool false)), 0⟩]
def laws_FnExactSameFilm_r18 : List SOper := [
  ⟨(some 4), none, .mov (.const (.bool true)), 0⟩]
def laws_FnExactSameFilm (i_laws_szFilm i_laws_toFilm i_spec_SameFilm i_impl_SameFilm i_laws_eqFilm : FuncId) : SFunc := ⟨45, [.tmp 4], (.kp [0, 1] (.seq (.region laws_FnExactSameFilm_r0 false) (.kp [2, 3] (.seq (.region laws_FnExactSameFilm_r1 false) (.kp [2, 3, 5] (.seq (.region (laws_FnExactSameFilm_r2 i_laws_szFilm) false) (.kp [2, 3, 5] (.seq (.seq (.region laws_FnExactSameFilm_r3 false) (.kp [2, 3, 5, 14] (.cond (.tmp 14) (.seq (.region laws_FnExactSameFilm_r4 false) .ret) .skip))) (.kp [2, 3, 5] (.seq (.region (laws_FnExactSameFilm_r5 i_laws_szFilm) false) (.kp [2, 3, 5] (.seq (.seq (.region laws_FnExactSameFilm_r6 false) (.kp [2, 3, 19] (.cond (.tmp 19) (.seq (.region laws_FnExactSameFilm_r7 false) .ret) .skip))) (.kp [2, 3] (.seq (.region (laws_FnExactSameFilm_r8 i_laws_toFilm i_spec_SameFilm) true) (.kp [2, 3, 6] (.seq (.region (laws_FnExactSameFilm_r9 i_laws_toFilm) false) (.kp [2, 3, 6, 7] (.seq (.region (laws_FnExactSameFilm_r10 i_laws_toFilm) false) (.kp [2, 3, 6, 7, 8] (.seq (.region (laws_FnExactSameFilm_r11 i_impl_SameFilm) false) (.kp [2, 3, 6, 7, 8, 9] (.seq (.seq (.region laws_FnExactSameFilm_r12 false) (.kp [2, 3, 7, 8, 34] (.cond (.tmp 34) (.seq (.region laws_FnExactSameFilm_r13 false) .ret) .skip))) (.kp [2, 3, 7, 8] (.seq (.seq (.region (laws_FnExactSameFilm_r14 i_laws_toFilm i_laws_eqFilm) true) (.kp [3, 8, 39] (.cond (.tmp 39) (.seq (.region laws_FnExactSameFilm_r15 false) .ret) .skip))) (.kp [3, 8] (.seq (.seq (.region (laws_FnExactSameFilm_r16 i_laws_toFilm i_laws_eqFilm) true) (.kp [44] (.cond (.tmp 44) (.seq (.region laws_FnExactSameFilm_r17 false) .ret) .skip))) (.kp [] (.seq (.region laws_FnExactSameFilm_r18 false) .ret))))))))))))))))))))))))))))⟩
theorem laws_FnExactSameFilm_r8_dr {i_laws_toFilm i_spec_SameFilm : FuncId} : drawOkW wStat (laws_FnExactSameFilm_r8 i_laws_toFilm i_spec_SameFilm) = true := by kernel_rfl
attribute [push_cast] laws_FnExactSameFilm_r8_dr
theorem laws_FnExactSameFilm_r14_dr {i_laws_toFilm i_laws_eqFilm : FuncId} : drawOkW wStat (laws_FnExactSameFilm_r14 i_laws_toFilm i_laws_eqFilm) = true := by kernel_rfl
attribute [push_cast] laws_FnExactSameFilm_r14_dr
theorem laws_FnExactSameFilm_r16_dr {i_laws_toFilm i_laws_eqFilm : FuncId} : drawOkW wStat (laws_FnExactSameFilm_r16 i_laws_toFilm i_laws_eqFilm) = true := by kernel_rfl
attribute [push_cast] laws_FnExactSameFilm_r16_dr
def laws_FnExactSameFilm_ok (c : Contract) : Prop := AlwaysTrue [filmK, filmK] c
theorem rowSameFilm_f {C : Ctab} {i1 i2 i3 i4 i5 : FuncId} {c1 c2 c3 c4 c5 : Contract} (h1 : Has C i1 c1 laws_szFilm_ok) (h2 : Has C i2 c2 laws_toFilm_ok) (h3 : Has C i3 c3 spec_SameFilm_ok) (h4 : Has C i4 c4 impl_SameFilm_ok) (h5 : Has C i5 c5 laws_eqFilm_ok) (σ : Heap) (w0 h0_ : Int) (wr0 : Bool) (sv0 lv0 : Value) (sp0 lo0 : List Nat) (r0 : ShR σ sv0 lv0 sp0 lo0) (ba0 : sp0.length ≤ 9223372036854775807) (bb0 : lo0.length ≤ 9223372036854775807) (fv0 : Value) (fs0 : List Fld) (rf0 : FlsR σ fv0 fs0) (bf0 : bigF fs0) (ia0 : in32 sp0) (ib0 : in32 lo0) (ic0 : lowF fs0) (w1 h1_ : Int) (wr1 : Bool) (sv1 lv1 : Value) (sp1 lo1 : List Nat) (r1 : ShR σ sv1 lv1 sp1 lo1) (ba1 : sp1.length ≤ 9223372036854775807) (bb1 : lo1.length ≤ 9223372036854775807) (fv1 : Value) (fs1 : List Fld) (rf1 : FlsR σ fv1 fs1) (bf1 : bigF fs1) (ia1 : in32 sp1) (ib1 : in32 lo1) (ic1 : lowF fs1) (hz0 : ¬ szFilm sp0 lo0 fs0 (1048576) < 0) (hz1 : ¬ szFilm sp1 lo1 fs1 (szFilm sp0 lo0 fs0 (1048576)) < 0)
    (hok : sameFm w0 h0_ wr0 sp0 lo0 fs0 w1 h1_ wr1 sp1 lo1 fs1 = false) : Ret (gcC C (laws_FnExactSameFilm i1 i2 i3 i4 i5) true) [fmV w0 h0_ wr0 sv0 lv0 fv0, fmV w1 h1_ wr1 sv1 lv1 fv1] σ fun v _ => v = .bool true := by
  have ka0 := r0.s.ok
  have kb0 := r0.l.ok
  have kc0 := rf0.ok
  have ka1 := r1.s.ok
  have kb1 := r1.l.ok
  have kc1 := rf1.ok
  have z0 := szFilm_fact sp0 lo0 fs0 (1048576) (by omega) (by omega)
  obtain ⟨na0, nb0, hfit0, hsum0⟩ := z0.2.2 (by omega)
  have z1 := szFilm_fact sp1 lo1 fs1 (szFilm sp0 lo0 fs0 (1048576)) (by omega) (by omega)
  obtain ⟨na1, nb1, hfit1, hsum1⟩ := z1.2.2 (by omega)
  refine ret_gc rfl rfl ?_
  repeat' (first | refine ff ?_ | ((first | refine EvR.aSplB ?_ ?_ | refine Ev.aSplB ?_ ?_) <;> (intro hb; (try rw [hb]); (try simp only [Bool.not_eq_true', Bool.not_eq_false', Bool.not_eq_eq_eq_not, Bool.not_true, Bool.not_false, decide_eq_true_eq, decide_eq_false_iff_not, Bool.and_eq_true, Bool.and_eq_false_iff, Bool.or_eq_true, Bool.or_eq_false_iff] at hb); (try (exfalso; first | omega | exact hb trivial)))) | (apply endS trivial; rotate_left; (· exact eva); (· rfl); try refine ⟨?_, rfl⟩) | fail)
  (apply EvR.aCall h1.at_; (· exact eva); (· exact  h1.ok _ w0 h0_ wr0 sv0 lv0 fv0 sp0 lo0 fs0 (1048576) ⟨r0.s.ext _, r0.l.ext _⟩ (rf0.ext _) ba0 bb0 bf0 (by omega) (by omega)); (rintro _ _ ⟨rfl, rfl⟩; refine EvR.nrm ?_))
  repeat' (first | refine ff ?_ | ((first | refine EvR.aSplB ?_ ?_ | refine Ev.aSplB ?_ ?_) <;> (intro hb; (try rw [hb]); (try simp only [Bool.not_eq_true', Bool.not_eq_false', Bool.not_eq_eq_eq_not, Bool.not_true, Bool.not_false, decide_eq_true_eq, decide_eq_false_iff_not, Bool.and_eq_true, Bool.and_eq_false_iff, Bool.or_eq_true, Bool.or_eq_false_iff] at hb); (try (exfalso; first | omega | exact hb trivial)))) | (apply endS trivial; rotate_left; (· exact eva); (· rfl); try refine ⟨?_, rfl⟩) | fail)
  (apply EvR.aCall h1.at_; (· exact eva); (· exact  h1.ok _ w1 h1_ wr1 sv1 lv1 fv1 sp1 lo1 fs1 (szFilm sp0 lo0 fs0 (1048576)) ⟨r1.s.ext _, r1.l.ext _⟩ (rf1.ext _) ba1 bb1 bf1 (by omega) (by omega)); (rintro _ _ ⟨rfl, rfl⟩; refine EvR.nrm ?_))
  repeat' (first | refine ff ?_ | ((first | refine EvR.aSplB ?_ ?_ | refine Ev.aSplB ?_ ?_) <;> (intro hb; (try rw [hb]); (try simp only [Bool.not_eq_true', Bool.not_eq_false', Bool.not_eq_eq_eq_not, Bool.not_true, Bool.not_false, decide_eq_true_eq, decide_eq_false_iff_not, Bool.and_eq_true, Bool.and_eq_false_iff, Bool.or_eq_true, Bool.or_eq_false_iff] at hb); (try (exfalso; first | omega | exact hb trivial)))) | (apply endS trivial; rotate_left; (· exact eva); (· rfl); try refine ⟨?_, rfl⟩) | fail)
  apply EvR.aCall h2.at_; (· exact eva); (· exact h2.ok _ w0 h0_ wr0 sv0 lv0 fv0 sp0 lo0 fs0 (r0.pre ((Pre.refl σ).app _)) (rf0.pre ((Pre.refl σ).app _)) na0 nb0 hfit0); rintro _ _ ⟨τ1, s1, l1, b1, R1, rfl, rfl, o1⟩
  refine EvR.base2 fun A1 S1 f_1 e_1 q_1 => ?_
  rw [← e_1, ← f_1] at o1
  have v_1 : Pre σ A1 := by rw [f_1]; exact (Pre.refl _).app _
  have pt_t0 : PtAt A1 (σ.length + 0) 0 [.int .i64 w0, .int .i64 h0_, .bool wr0, sv0, lv0, fv0] := by rw [f_1]; exact PtAt.own rfl
  have pt_t1 : PtAt A1 (σ.length + 1) 0 [.int .i64 w1, .int .i64 h1_, .bool wr1, sv1, lv1, fv1] := by rw [f_1]; exact PtAt.own rfl
  have g_t0_1 : PtAt S1 (σ.length + 0) 0 [.int .i64 w0, .int .i64 h0_, .bool wr0, sv0, lv0, fv0] := pt_t0.pre q_1
  have g_t1_1 : PtAt S1 (σ.length + 1) 0 [.int .i64 w1, .int .i64 h1_, .bool wr1, sv1, lv1, fv1] := pt_t1.pre q_1
  refine EvR.nrm ?_
  repeat' (first | refine ff ?_ | ((first | refine EvR.aSplB ?_ ?_ | refine Ev.aSplB ?_ ?_) <;> (intro hb; (try rw [hb]); (try simp only [Bool.not_eq_true', Bool.not_eq_false', Bool.not_eq_eq_eq_not, Bool.not_true, Bool.not_false, decide_eq_true_eq, decide_eq_false_iff_not, Bool.and_eq_true, Bool.and_eq_false_iff, Bool.or_eq_true, Bool.or_eq_false_iff] at hb); (try (exfalso; first | omega | exact hb trivial)))) | (apply endS trivial; rotate_left; (· exact eva); (· rfl); try refine ⟨?_, rfl⟩) | fail)
  apply EvR.aCall h2.at_; (· exact eva); (· exact h2.ok _ w1 h1_ wr1 sv1 lv1 fv1 sp1 lo1 fs1 (r1.pre ((v_1.trans q_1).app _)) (rf1.pre ((v_1.trans q_1).app _)) na1 nb1 hfit1); rintro _ _ ⟨τ2, s2, l2, b2, R2, rfl, rfl, o2⟩
  refine EvR.base2 fun A2 S2 f_2 e_2 q_2 => ?_
  rw [← e_2, ← f_2] at o2
  have v_2 : Pre S1 A2 := by rw [f_2]; exact (Pre.refl _).app _
  clear g_t0_1 g_t1_1
  have g_t0_2 : PtAt S2 (σ.length + 0) 0 [.int .i64 w0, .int .i64 h0_, .bool wr0, sv0, lv0, fv0] := pt_t0.pre (q_1.trans (v_2.trans q_2))
  have g_t1_2 : PtAt S2 (σ.length + 1) 0 [.int .i64 w1, .int .i64 h1_, .bool wr1, sv1, lv1, fv1] := pt_t1.pre (q_1.trans (v_2.trans q_2))
  refine EvR.nrm ?_
  repeat' (first | refine ff ?_ | ((first | refine EvR.aSplB ?_ ?_ | refine Ev.aSplB ?_ ?_) <;> (intro hb; (try rw [hb]); (try simp only [Bool.not_eq_true', Bool.not_eq_false', Bool.not_eq_eq_eq_not, Bool.not_true, Bool.not_false, decide_eq_true_eq, decide_eq_false_iff_not, Bool.and_eq_true, Bool.and_eq_false_iff, Bool.or_eq_true, Bool.or_eq_false_iff] at hb); (try (exfalso; first | omega | exact hb trivial)))) | (apply endS trivial; rotate_left; (· exact eva); (· rfl); try refine ⟨?_, rfl⟩) | fail)
  (apply EvR.aCall h3.at_; (· exact eva); (· exact  h3.ok _ w0 h0_ wr0 _ _ _ sp0 lo0 fs0 w1 h1_ wr1 _ _ _ sp1 lo1 fs1 ((o1.pre (v_2.trans q_2)).ext _).sheet ((o1.pre (v_2.trans q_2)).ext _).fls ((o2.pre (Pre.refl S2)).ext _).sheet ((o2.pre (Pre.refl S2)).ext _).fls na0 nb0 hfit0 na1 nb1 hfit1 ia0 ib0 ia1 ib1 ic0 ic1); (rintro _ _ ⟨rfl, rfl⟩; refine EvR.nrm ?_))
  rw [hok]
  repeat' (first | refine ff ?_ | ((first | refine EvR.aSplB ?_ ?_ | refine Ev.aSplB ?_ ?_) <;> (intro hb; (try rw [hb]); (try simp only [Bool.not_eq_true', Bool.not_eq_false', Bool.not_eq_eq_eq_not, Bool.not_true, Bool.not_false, decide_eq_true_eq, decide_eq_false_iff_not, Bool.and_eq_true, Bool.and_eq_false_iff, Bool.or_eq_true, Bool.or_eq_false_iff] at hb); (try (exfalso; first | omega | exact hb trivial)))) | (apply endS trivial; rotate_left; (· exact eva); (· rfl); try refine ⟨?_, rfl⟩) | fail)
  apply EvR.aCall h2.at_; (· exact eva); (· exact h2.ok _ w0 h0_ wr0 sv0 lv0 fv0 sp0 lo0 fs0 (r0.pre ((v_1.trans (q_1.trans (v_2.trans q_2))).app _)) (rf0.pre ((v_1.trans (q_1.trans (v_2.trans q_2))).app _)) na0 nb0 hfit0); rintro _ _ ⟨τ3, s3, l3, b3, R3, rfl, rfl, o3⟩
  refine EvR.base2 fun A3 S3 f_3 e_3 q_3 => ?_
  rw [← e_3, ← f_3] at o3
  have v_3 : Pre S2 A3 := by rw [f_3]; exact (Pre.refl _).app _
  clear g_t0_2 g_t1_2
  have g_t0_3 : PtAt S3 (σ.length + 0) 0 [.int .i64 w0, .int .i64 h0_, .bool wr0, sv0, lv0, fv0] := pt_t0.pre (q_1.trans (v_2.trans (q_2.trans (v_3.trans q_3))))
  have g_t1_3 : PtAt S3 (σ.length + 1) 0 [.int .i64 w1, .int .i64 h1_, .bool wr1, sv1, lv1, fv1] := pt_t1.pre (q_1.trans (v_2.trans (q_2.trans (v_3.trans q_3))))
  refine EvR.nrm ?_
  repeat' (first | refine ff ?_ | ((first | refine EvR.aSplB ?_ ?_ | refine Ev.aSplB ?_ ?_) <;> (intro hb; (try rw [hb]); (try simp only [Bool.not_eq_true', Bool.not_eq_false', Bool.not_eq_eq_eq_not, Bool.not_true, Bool.not_false, decide_eq_true_eq, decide_eq_false_iff_not, Bool.and_eq_true, Bool.and_eq_false_iff, Bool.or_eq_true, Bool.or_eq_false_iff] at hb); (try (exfalso; first | omega | exact hb trivial)))) | (apply endS trivial; rotate_left; (· exact eva); (· rfl); try refine ⟨?_, rfl⟩) | fail)
  apply EvR.aCall h2.at_; (· exact eva); (· exact h2.ok _ w1 h1_ wr1 sv1 lv1 fv1 sp1 lo1 fs1 (r1.pre ((v_1.trans (q_1.trans (v_2.trans (q_2.trans (v_3.trans q_3))))).app _)) (rf1.pre ((v_1.trans (q_1.trans (v_2.trans (q_2.trans (v_3.trans q_3))))).app _)) na1 nb1 hfit1); rintro _ _ ⟨τ4, s4, l4, b4, R4, rfl, rfl, o4⟩
  refine EvR.base2 fun A4 S4 f_4 e_4 q_4 => ?_
  rw [← e_4, ← f_4] at o4
  have v_4 : Pre S3 A4 := by rw [f_4]; exact (Pre.refl _).app _
  have pt_c0 : PtAt A4 (S3.length + 0) 0 [.int .i64 w0, .int .i64 h0_, .bool wr0, slV s3 sp0.length, slV l3 lo0.length, slV b3 fs0.length] := by rw [f_4]; exact PtAt.own rfl
  clear g_t0_3 g_t1_3
  have g_t0_4 : PtAt S4 (σ.length + 0) 0 [.int .i64 w0, .int .i64 h0_, .bool wr0, sv0, lv0, fv0] := pt_t0.pre (q_1.trans (v_2.trans (q_2.trans (v_3.trans (q_3.trans (v_4.trans q_4))))))
  have g_t1_4 : PtAt S4 (σ.length + 1) 0 [.int .i64 w1, .int .i64 h1_, .bool wr1, sv1, lv1, fv1] := pt_t1.pre (q_1.trans (v_2.trans (q_2.trans (v_3.trans (q_3.trans (v_4.trans q_4))))))
  have g_c0_4 : PtAt S4 (S3.length + 0) 0 [.int .i64 w0, .int .i64 h0_, .bool wr0, slV s3 sp0.length, slV l3 lo0.length, slV b3 fs0.length] := pt_c0.pre q_4
  refine EvR.nrm ?_
  repeat' (first | refine ff ?_ | ((first | refine EvR.aSplB ?_ ?_ | refine Ev.aSplB ?_ ?_) <;> (intro hb; (try rw [hb]); (try simp only [Bool.not_eq_true', Bool.not_eq_false', Bool.not_eq_eq_eq_not, Bool.not_true, Bool.not_false, decide_eq_true_eq, decide_eq_false_iff_not, Bool.and_eq_true, Bool.and_eq_false_iff, Bool.or_eq_true, Bool.or_eq_false_iff] at hb); (try (exfalso; first | omega | exact hb trivial)))) | (apply endS trivial; rotate_left; (· exact eva); (· rfl); try refine ⟨?_, rfl⟩) | fail)
  (apply EvR.aCall h4.at_; (· exact eva); (· exact  h4.ok _ w0 h0_ wr0 _ _ _ sp0 lo0 fs0 w1 h1_ wr1 _ _ _ sp1 lo1 fs1 ((o3.pre (v_4.trans q_4)).ext _).sheet ((o3.pre (v_4.trans q_4)).ext _).fls ((o4.pre (Pre.refl S4)).ext _).sheet ((o4.pre (Pre.refl S4)).ext _).fls na0 nb0 hfit0 na1 nb1 hfit1 ia0 ib0 ia1 ib1 ic0 ic1); (rintro _ _ ⟨rfl, rfl⟩; refine EvR.nrm ?_))
  rw [hok]
  repeat' (first | refine ff ?_ | ((first | refine EvR.aSplB ?_ ?_ | refine Ev.aSplB ?_ ?_) <;> (intro hb; (try rw [hb]); (try simp only [Bool.not_eq_true', Bool.not_eq_false', Bool.not_eq_eq_eq_not, Bool.not_true, Bool.not_false, decide_eq_true_eq, decide_eq_false_iff_not, Bool.and_eq_true, Bool.and_eq_false_iff, Bool.or_eq_true, Bool.or_eq_false_iff] at hb); (try (exfalso; first | omega | exact hb trivial)))) | (apply endS trivial; rotate_left; (· exact eva); (· rfl); try refine ⟨?_, rfl⟩) | fail)
  apply EvR.aCall h2.at_; (· exact eva); (· exact h2.ok _ w0 h0_ wr0 sv0 lv0 fv0 sp0 lo0 fs0 (r0.pre ((v_1.trans (q_1.trans (v_2.trans (q_2.trans (v_3.trans (q_3.trans (v_4.trans q_4))))))).app _)) (rf0.pre ((v_1.trans (q_1.trans (v_2.trans (q_2.trans (v_3.trans (q_3.trans (v_4.trans q_4))))))).app _)) na0 nb0 hfit0); rintro _ _ ⟨τ5, s5, l5, b5, R5, rfl, rfl, o5⟩
  refine EvR.base2 fun A5 S5 f_5 e_5 q_5 => ?_
  rw [← e_5, ← f_5] at o5
  have v_5 : Pre S4 A5 := by rw [f_5]; exact (Pre.refl _).app _
  have pt_c1 : PtAt A5 (S4.length + 0) 0 [.int .i64 w1, .int .i64 h1_, .bool wr1, slV s4 sp1.length, slV l4 lo1.length, slV b4 fs1.length] := by rw [f_5]; exact PtAt.own rfl
  clear g_t0_4 g_t1_4 g_c0_4
  have g_t0_5 : PtAt S5 (σ.length + 0) 0 [.int .i64 w0, .int .i64 h0_, .bool wr0, sv0, lv0, fv0] := pt_t0.pre (q_1.trans (v_2.trans (q_2.trans (v_3.trans (q_3.trans (v_4.trans (q_4.trans (v_5.trans q_5))))))))
  have g_t1_5 : PtAt S5 (σ.length + 1) 0 [.int .i64 w1, .int .i64 h1_, .bool wr1, sv1, lv1, fv1] := pt_t1.pre (q_1.trans (v_2.trans (q_2.trans (v_3.trans (q_3.trans (v_4.trans (q_4.trans (v_5.trans q_5))))))))
  have g_c0_5 : PtAt S5 (S3.length + 0) 0 [.int .i64 w0, .int .i64 h0_, .bool wr0, slV s3 sp0.length, slV l3 lo0.length, slV b3 fs0.length] := pt_c0.pre (q_4.trans (v_5.trans q_5))
  have g_c1_5 : PtAt S5 (S4.length + 0) 0 [.int .i64 w1, .int .i64 h1_, .bool wr1, slV s4 sp1.length, slV l4 lo1.length, slV b4 fs1.length] := pt_c1.pre q_5
  refine EvR.nrm ?_
  repeat' (first | refine ff ?_ | ((first | refine EvR.aSplB ?_ ?_ | refine Ev.aSplB ?_ ?_) <;> (intro hb; (try rw [hb]); (try simp only [Bool.not_eq_true', Bool.not_eq_false', Bool.not_eq_eq_eq_not, Bool.not_true, Bool.not_false, decide_eq_true_eq, decide_eq_false_iff_not, Bool.and_eq_true, Bool.and_eq_false_iff, Bool.or_eq_true, Bool.or_eq_false_iff] at hb); (try (exfalso; first | omega | exact hb trivial)))) | (apply endS trivial; rotate_left; (· exact eva); (· rfl); try refine ⟨?_, rfl⟩) | fail)
  (apply EvR.aCall h5.at_; (· exact eva); (· exact  h5.ok _ w0 h0_ wr0 _ _ _ _ _ _ sp0 lo0 fs0 ((o3.pre (v_4.trans (q_4.trans (v_5.trans q_5)))).ext _).sheet ((o3.pre (v_4.trans (q_4.trans (v_5.trans q_5)))).ext _).fls (o5.ext _).sheet (o5.ext _).fls na0 nb0 hfit0); (rintro _ _ ⟨rfl, rfl⟩; refine EvR.nrm ?_))
  repeat' (first | refine ff ?_ | ((first | refine EvR.aSplB ?_ ?_ | refine Ev.aSplB ?_ ?_) <;> (intro hb; (try rw [hb]); (try simp only [Bool.not_eq_true', Bool.not_eq_false', Bool.not_eq_eq_eq_not, Bool.not_true, Bool.not_false, decide_eq_true_eq, decide_eq_false_iff_not, Bool.and_eq_true, Bool.and_eq_false_iff, Bool.or_eq_true, Bool.or_eq_false_iff] at hb); (try (exfalso; first | omega | exact hb trivial)))) | (apply endS trivial; rotate_left; (· exact eva); (· rfl); try refine ⟨?_, rfl⟩) | fail)
  apply EvR.aCall h2.at_; (· exact eva); (· exact h2.ok _ w1 h1_ wr1 sv1 lv1 fv1 sp1 lo1 fs1 (r1.pre ((v_1.trans (q_1.trans (v_2.trans (q_2.trans (v_3.trans (q_3.trans (v_4.trans (q_4.trans (v_5.trans q_5))))))))).app _)) (rf1.pre ((v_1.trans (q_1.trans (v_2.trans (q_2.trans (v_3.trans (q_3.trans (v_4.trans (q_4.trans (v_5.trans q_5))))))))).app _)) na1 nb1 hfit1); rintro _ _ ⟨τ6, s6, l6, b6, R6, rfl, rfl, o6⟩
  refine EvR.base2 fun A6 S6 f_6 e_6 q_6 => ?_
  rw [← e_6, ← f_6] at o6
  have v_6 : Pre S5 A6 := by rw [f_6]; exact (Pre.refl _).app _
  clear g_t0_5 g_t1_5 g_c0_5 g_c1_5
  have g_t0_6 : PtAt S6 (σ.length + 0) 0 [.int .i64 w0, .int .i64 h0_, .bool wr0, sv0, lv0, fv0] := pt_t0.pre (q_1.trans (v_2.trans (q_2.trans (v_3.trans (q_3.trans (v_4.trans (q_4.trans (v_5.trans (q_5.trans (v_6.trans q_6))))))))))
  have g_t1_6 : PtAt S6 (σ.length + 1) 0 [.int .i64 w1, .int .i64 h1_, .bool wr1, sv1, lv1, fv1] := pt_t1.pre (q_1.trans (v_2.trans (q_2.trans (v_3.trans (q_3.trans (v_4.trans (q_4.trans (v_5.trans (q_5.trans (v_6.trans q_6))))))))))
  have g_c0_6 : PtAt S6 (S3.length + 0) 0 [.int .i64 w0, .int .i64 h0_, .bool wr0, slV s3 sp0.length, slV l3 lo0.length, slV b3 fs0.length] := pt_c0.pre (q_4.trans (v_5.trans (q_5.trans (v_6.trans q_6))))
  have g_c1_6 : PtAt S6 (S4.length + 0) 0 [.int .i64 w1, .int .i64 h1_, .bool wr1, slV s4 sp1.length, slV l4 lo1.length, slV b4 fs1.length] := pt_c1.pre (q_5.trans (v_6.trans q_6))
  refine EvR.nrm ?_
  repeat' (first | refine ff ?_ | ((first | refine EvR.aSplB ?_ ?_ | refine Ev.aSplB ?_ ?_) <;> (intro hb; (try rw [hb]); (try simp only [Bool.not_eq_true', Bool.not_eq_false', Bool.not_eq_eq_eq_not, Bool.not_true, Bool.not_false, decide_eq_true_eq, decide_eq_false_iff_not, Bool.and_eq_true, Bool.and_eq_false_iff, Bool.or_eq_true, Bool.or_eq_false_iff] at hb); (try (exfalso; first | omega | exact hb trivial)))) | (apply endS trivial; rotate_left; (· exact eva); (· rfl); try refine ⟨?_, rfl⟩) | fail)
  (apply EvR.aCall h5.at_; (· exact eva); (· exact  h5.ok _ w1 h1_ wr1 _ _ _ _ _ _ sp1 lo1 fs1 ((o4.pre (v_5.trans (q_5.trans (v_6.trans q_6)))).ext _).sheet ((o4.pre (v_5.trans (q_5.trans (v_6.trans q_6)))).ext _).fls (o6.ext _).sheet (o6.ext _).fls na1 nb1 hfit1); (rintro _ _ ⟨rfl, rfl⟩; refine EvR.nrm ?_))
  repeat' (first | refine ff ?_ | ((first | refine EvR.aSplB ?_ ?_ | refine Ev.aSplB ?_ ?_) <;> (intro hb; (try rw [hb]); (try simp only [Bool.not_eq_true', Bool.not_eq_false', Bool.not_eq_eq_eq_not, Bool.not_true, Bool.not_false, decide_eq_true_eq, decide_eq_false_iff_not, Bool.and_eq_true, Bool.and_eq_false_iff, Bool.or_eq_true, Bool.or_eq_false_iff] at hb); (try (exfalso; first | omega | exact hb trivial)))) | (apply endS trivial; rotate_left; (· exact eva); (· rfl); try refine ⟨?_, rfl⟩) | fail)
  apply endK (v_1.trans (q_1.trans (v_2.trans (q_2.trans (v_3.trans (q_3.trans (v_4.trans (q_4.trans (v_5.trans (q_5.trans (v_6.trans q_6)))))))))))
  · trivial
  · rfl
  · exact eva
  · rfl
theorem rowSameFilm_t {C : Ctab} {i1 i2 i3 i4 i5 : FuncId} {c1 c2 c3 c4 c5 : Contract} (h1 : Has C i1 c1 laws_szFilm_ok) (h2 : Has C i2 c2 laws_toFilm_ok) (h3 : Has C i3 c3 spec_SameFilm_ok) (h4 : Has C i4 c4 impl_SameFilm_ok) (h5 : Has C i5 c5 laws_eqFilm_ok) (σ : Heap) (w0 h0_ : Int) (wr0 : Bool) (sv0 lv0 : Value) (sp0 lo0 : List Nat) (r0 : ShR σ sv0 lv0 sp0 lo0) (ba0 : sp0.length ≤ 9223372036854775807) (bb0 : lo0.length ≤ 9223372036854775807) (fv0 : Value) (fs0 : List Fld) (rf0 : FlsR σ fv0 fs0) (bf0 : bigF fs0) (ia0 : in32 sp0) (ib0 : in32 lo0) (ic0 : lowF fs0) (w1 h1_ : Int) (wr1 : Bool) (sv1 lv1 : Value) (sp1 lo1 : List Nat) (r1 : ShR σ sv1 lv1 sp1 lo1) (ba1 : sp1.length ≤ 9223372036854775807) (bb1 : lo1.length ≤ 9223372036854775807) (fv1 : Value) (fs1 : List Fld) (rf1 : FlsR σ fv1 fs1) (bf1 : bigF fs1) (ia1 : in32 sp1) (ib1 : in32 lo1) (ic1 : lowF fs1) (hz0 : ¬ szFilm sp0 lo0 fs0 (1048576) < 0) (hz1 : ¬ szFilm sp1 lo1 fs1 (szFilm sp0 lo0 fs0 (1048576)) < 0)
    (hok : sameFm w0 h0_ wr0 sp0 lo0 fs0 w1 h1_ wr1 sp1 lo1 fs1 = true) : Ret (gcC C (laws_FnExactSameFilm i1 i2 i3 i4 i5) true) [fmV w0 h0_ wr0 sv0 lv0 fv0, fmV w1 h1_ wr1 sv1 lv1 fv1] σ fun v _ => v = .bool true := by
  have ka0 := r0.s.ok
  have kb0 := r0.l.ok
  have kc0 := rf0.ok
  have ka1 := r1.s.ok
  have kb1 := r1.l.ok
  have kc1 := rf1.ok
  have z0 := szFilm_fact sp0 lo0 fs0 (1048576) (by omega) (by omega)
  obtain ⟨na0, nb0, hfit0, hsum0⟩ := z0.2.2 (by omega)
  have z1 := szFilm_fact sp1 lo1 fs1 (szFilm sp0 lo0 fs0 (1048576)) (by omega) (by omega)
  obtain ⟨na1, nb1, hfit1, hsum1⟩ := z1.2.2 (by omega)
  refine ret_gc rfl rfl ?_
  repeat' (first | refine ff ?_ | ((first | refine EvR.aSplB ?_ ?_ | refine Ev.aSplB ?_ ?_) <;> (intro hb; (try rw [hb]); (try simp only [Bool.not_eq_true', Bool.not_eq_false', Bool.not_eq_eq_eq_not, Bool.not_true, Bool.not_false, decide_eq_true_eq, decide_eq_false_iff_not, Bool.and_eq_true, Bool.and_eq_false_iff, Bool.or_eq_true, Bool.or_eq_false_iff] at hb); (try (exfalso; first | omega | exact hb trivial)))) | (apply endS trivial; rotate_left; (· exact eva); (· rfl); try refine ⟨?_, rfl⟩) | fail)
  (apply EvR.aCall h1.at_; (· exact eva); (· exact  h1.ok _ w0 h0_ wr0 sv0 lv0 fv0 sp0 lo0 fs0 (1048576) ⟨r0.s.ext _, r0.l.ext _⟩ (rf0.ext _) ba0 bb0 bf0 (by omega) (by omega)); (rintro _ _ ⟨rfl, rfl⟩; refine EvR.nrm ?_))
  repeat' (first | refine ff ?_ | ((first | refine EvR.aSplB ?_ ?_ | refine Ev.aSplB ?_ ?_) <;> (intro hb; (try rw [hb]); (try simp only [Bool.not_eq_true', Bool.not_eq_false', Bool.not_eq_eq_eq_not, Bool.not_true, Bool.not_false, decide_eq_true_eq, decide_eq_false_iff_not, Bool.and_eq_true, Bool.and_eq_false_iff, Bool.or_eq_true, Bool.or_eq_false_iff] at hb); (try (exfalso; first | omega | exact hb trivial)))) | (apply endS trivial; rotate_left; (· exact eva); (· rfl); try refine ⟨?_, rfl⟩) | fail)
  (apply EvR.aCall h1.at_; (· exact eva); (· exact  h1.ok _ w1 h1_ wr1 sv1 lv1 fv1 sp1 lo1 fs1 (szFilm sp0 lo0 fs0 (1048576)) ⟨r1.s.ext _, r1.l.ext _⟩ (rf1.ext _) ba1 bb1 bf1 (by omega) (by omega)); (rintro _ _ ⟨rfl, rfl⟩; refine EvR.nrm ?_))
  repeat' (first | refine ff ?_ | ((first | refine EvR.aSplB ?_ ?_ | refine Ev.aSplB ?_ ?_) <;> (intro hb; (try rw [hb]); (try simp only [Bool.not_eq_true', Bool.not_eq_false', Bool.not_eq_eq_eq_not, Bool.not_true, Bool.not_false, decide_eq_true_eq, decide_eq_false_iff_not, Bool.and_eq_true, Bool.and_eq_false_iff, Bool.or_eq_true, Bool.or_eq_false_iff] at hb); (try (exfalso; first | omega | exact hb trivial)))) | (apply endS trivial; rotate_left; (· exact eva); (· rfl); try refine ⟨?_, rfl⟩) | fail)
  apply EvR.aCall h2.at_; (· exact eva); (· exact h2.ok _ w0 h0_ wr0 sv0 lv0 fv0 sp0 lo0 fs0 (r0.pre ((Pre.refl σ).app _)) (rf0.pre ((Pre.refl σ).app _)) na0 nb0 hfit0); rintro _ _ ⟨τ1, s1, l1, b1, R1, rfl, rfl, o1⟩
  refine EvR.base2 fun A1 S1 f_1 e_1 q_1 => ?_
  rw [← e_1, ← f_1] at o1
  have v_1 : Pre σ A1 := by rw [f_1]; exact (Pre.refl _).app _
  have pt_t0 : PtAt A1 (σ.length + 0) 0 [.int .i64 w0, .int .i64 h0_, .bool wr0, sv0, lv0, fv0] := by rw [f_1]; exact PtAt.own rfl
  have pt_t1 : PtAt A1 (σ.length + 1) 0 [.int .i64 w1, .int .i64 h1_, .bool wr1, sv1, lv1, fv1] := by rw [f_1]; exact PtAt.own rfl
  have g_t0_1 : PtAt S1 (σ.length + 0) 0 [.int .i64 w0, .int .i64 h0_, .bool wr0, sv0, lv0, fv0] := pt_t0.pre q_1
  have g_t1_1 : PtAt S1 (σ.length + 1) 0 [.int .i64 w1, .int .i64 h1_, .bool wr1, sv1, lv1, fv1] := pt_t1.pre q_1
  refine EvR.nrm ?_
  repeat' (first | refine ff ?_ | ((first | refine EvR.aSplB ?_ ?_ | refine Ev.aSplB ?_ ?_) <;> (intro hb; (try rw [hb]); (try simp only [Bool.not_eq_true', Bool.not_eq_false', Bool.not_eq_eq_eq_not, Bool.not_true, Bool.not_false, decide_eq_true_eq, decide_eq_false_iff_not, Bool.and_eq_true, Bool.and_eq_false_iff, Bool.or_eq_true, Bool.or_eq_false_iff] at hb); (try (exfalso; first | omega | exact hb trivial)))) | (apply endS trivial; rotate_left; (· exact eva); (· rfl); try refine ⟨?_, rfl⟩) | fail)
  apply EvR.aCall h2.at_; (· exact eva); (· exact h2.ok _ w1 h1_ wr1 sv1 lv1 fv1 sp1 lo1 fs1 (r1.pre ((v_1.trans q_1).app _)) (rf1.pre ((v_1.trans q_1).app _)) na1 nb1 hfit1); rintro _ _ ⟨τ2, s2, l2, b2, R2, rfl, rfl, o2⟩
  refine EvR.base2 fun A2 S2 f_2 e_2 q_2 => ?_
  rw [← e_2, ← f_2] at o2
  have v_2 : Pre S1 A2 := by rw [f_2]; exact (Pre.refl _).app _
  clear g_t0_1 g_t1_1
  have g_t0_2 : PtAt S2 (σ.length + 0) 0 [.int .i64 w0, .int .i64 h0_, .bool wr0, sv0, lv0, fv0] := pt_t0.pre (q_1.trans (v_2.trans q_2))
  have g_t1_2 : PtAt S2 (σ.length + 1) 0 [.int .i64 w1, .int .i64 h1_, .bool wr1, sv1, lv1, fv1] := pt_t1.pre (q_1.trans (v_2.trans q_2))
  refine EvR.nrm ?_
  repeat' (first | refine ff ?_ | ((first | refine EvR.aSplB ?_ ?_ | refine Ev.aSplB ?_ ?_) <;> (intro hb; (try rw [hb]); (try simp only [Bool.not_eq_true', Bool.not_eq_false', Bool.not_eq_eq_eq_not, Bool.not_true, Bool.not_false, decide_eq_true_eq, decide_eq_false_iff_not, Bool.and_eq_true, Bool.and_eq_false_iff, Bool.or_eq_true, Bool.or_eq_false_iff] at hb); (try (exfalso; first | omega | exact hb trivial)))) | (apply endS trivial; rotate_left; (· exact eva); (· rfl); try refine ⟨?_, rfl⟩) | fail)
  (apply EvR.aCall h3.at_; (· exact eva); (· exact  h3.ok _ w0 h0_ wr0 _ _ _ sp0 lo0 fs0 w1 h1_ wr1 _ _ _ sp1 lo1 fs1 ((o1.pre (v_2.trans q_2)).ext _).sheet ((o1.pre (v_2.trans q_2)).ext _).fls ((o2.pre (Pre.refl S2)).ext _).sheet ((o2.pre (Pre.refl S2)).ext _).fls na0 nb0 hfit0 na1 nb1 hfit1 ia0 ib0 ia1 ib1 ic0 ic1); (rintro _ _ ⟨rfl, rfl⟩; refine EvR.nrm ?_))
  rw [hok]
  repeat' (first | refine ff ?_ | ((first | refine EvR.aSplB ?_ ?_ | refine Ev.aSplB ?_ ?_) <;> (intro hb; (try rw [hb]); (try simp only [Bool.not_eq_true', Bool.not_eq_false', Bool.not_eq_eq_eq_not, Bool.not_true, Bool.not_false, decide_eq_true_eq, decide_eq_false_iff_not, Bool.and_eq_true, Bool.and_eq_false_iff, Bool.or_eq_true, Bool.or_eq_false_iff] at hb); (try (exfalso; first | omega | exact hb trivial)))) | (apply endS trivial; rotate_left; (· exact eva); (· rfl); try refine ⟨?_, rfl⟩) | fail)
  apply EvR.aCall h2.at_; (· exact eva); (· exact h2.ok _ w0 h0_ wr0 sv0 lv0 fv0 sp0 lo0 fs0 (r0.pre ((v_1.trans (q_1.trans (v_2.trans q_2))).app _)) (rf0.pre ((v_1.trans (q_1.trans (v_2.trans q_2))).app _)) na0 nb0 hfit0); rintro _ _ ⟨τ3, s3, l3, b3, R3, rfl, rfl, o3⟩
  refine EvR.base2 fun A3 S3 f_3 e_3 q_3 => ?_
  rw [← e_3, ← f_3] at o3
  have v_3 : Pre S2 A3 := by rw [f_3]; exact (Pre.refl _).app _
  clear g_t0_2 g_t1_2
  have g_t0_3 : PtAt S3 (σ.length + 0) 0 [.int .i64 w0, .int .i64 h0_, .bool wr0, sv0, lv0, fv0] := pt_t0.pre (q_1.trans (v_2.trans (q_2.trans (v_3.trans q_3))))
  have g_t1_3 : PtAt S3 (σ.length + 1) 0 [.int .i64 w1, .int .i64 h1_, .bool wr1, sv1, lv1, fv1] := pt_t1.pre (q_1.trans (v_2.trans (q_2.trans (v_3.trans q_3))))
  refine EvR.nrm ?_
  repeat' (first | refine ff ?_ | ((first | refine EvR.aSplB ?_ ?_ | refine Ev.aSplB ?_ ?_) <;> (intro hb; (try rw [hb]); (try simp only [Bool.not_eq_true', Bool.not_eq_false', Bool.not_eq_eq_eq_not, Bool.not_true, Bool.not_false, decide_eq_true_eq, decide_eq_false_iff_not, Bool.and_eq_true, Bool.and_eq_false_iff, Bool.or_eq_true, Bool.or_eq_false_iff] at hb); (try (exfalso; first | omega | exact hb trivial)))) | (apply endS trivial; rotate_left; (· exact eva); (· rfl); try refine ⟨?_, rfl⟩) | fail)
  apply EvR.aCall h2.at_; (· exact eva); (· exact h2.ok _ w1 h1_ wr1 sv1 lv1 fv1 sp1 lo1 fs1 (r1.pre ((v_1.trans (q_1.trans (v_2.trans (q_2.trans (v_3.trans q_3))))).app _)) (rf1.pre ((v_1.trans (q_1.trans (v_2.trans (q_2.trans (v_3.trans q_3))))).app _)) na1 nb1 hfit1); rintro _ _ ⟨τ4, s4, l4, b4, R4, rfl, rfl, o4⟩
  refine EvR.base2 fun A4 S4 f_4 e_4 q_4 => ?_
  rw [← e_4, ← f_4] at o4
  have v_4 : Pre S3 A4 := by rw [f_4]; exact (Pre.refl _).app _
  have pt_c0 : PtAt A4 (S3.length + 0) 0 [.int .i64 w0, .int .i64 h0_, .bool wr0, slV s3 sp0.length, slV l3 lo0.length, slV b3 fs0.length] := by rw [f_4]; exact PtAt.own rfl
  clear g_t0_3 g_t1_3
  have g_t0_4 : PtAt S4 (σ.length + 0) 0 [.int .i64 w0, .int .i64 h0_, .bool wr0, sv0, lv0, fv0] := pt_t0.pre (q_1.trans (v_2.trans (q_2.trans (v_3.trans (q_3.trans (v_4.trans q_4))))))
  have g_t1_4 : PtAt S4 (σ.length + 1) 0 [.int .i64 w1, .int .i64 h1_, .bool wr1, sv1, lv1, fv1] := pt_t1.pre (q_1.trans (v_2.trans (q_2.trans (v_3.trans (q_3.trans (v_4.trans q_4))))))
  have g_c0_4 : PtAt S4 (S3.length + 0) 0 [.int .i64 w0, .int .i64 h0_, .bool wr0, slV s3 sp0.length, slV l3 lo0.length, slV b3 fs0.length] := pt_c0.pre q_4
  refine EvR.nrm ?_
  repeat' (first | refine ff ?_ | ((first | refine EvR.aSplB ?_ ?_ | refine Ev.aSplB ?_ ?_) <;> (intro hb; (try rw [hb]); (try simp only [Bool.not_eq_true', Bool.not_eq_false', Bool.not_eq_eq_eq_not, Bool.not_true, Bool.not_false, decide_eq_true_eq, decide_eq_false_iff_not, Bool.and_eq_true, Bool.and_eq_false_iff, Bool.or_eq_true, Bool.or_eq_false_iff] at hb); (try (exfalso; first | omega | exact hb trivial)))) | (apply endS trivial; rotate_left; (· exact eva); (· rfl); try refine ⟨?_, rfl⟩) | fail)
  (apply EvR.aCall h4.at_; (· exact eva); (· exact  h4.ok _ w0 h0_ wr0 _ _ _ sp0 lo0 fs0 w1 h1_ wr1 _ _ _ sp1 lo1 fs1 ((o3.pre (v_4.trans q_4)).ext _).sheet ((o3.pre (v_4.trans q_4)).ext _).fls ((o4.pre (Pre.refl S4)).ext _).sheet ((o4.pre (Pre.refl S4)).ext _).fls na0 nb0 hfit0 na1 nb1 hfit1 ia0 ib0 ia1 ib1 ic0 ic1); (rintro _ _ ⟨rfl, rfl⟩; refine EvR.nrm ?_))
  rw [hok]
  repeat' (first | refine ff ?_ | ((first | refine EvR.aSplB ?_ ?_ | refine Ev.aSplB ?_ ?_) <;> (intro hb; (try rw [hb]); (try simp only [Bool.not_eq_true', Bool.not_eq_false', Bool.not_eq_eq_eq_not, Bool.not_true, Bool.not_false, decide_eq_true_eq, decide_eq_false_iff_not, Bool.and_eq_true, Bool.and_eq_false_iff, Bool.or_eq_true, Bool.or_eq_false_iff] at hb); (try (exfalso; first | omega | exact hb trivial)))) | (apply endS trivial; rotate_left; (· exact eva); (· rfl); try refine ⟨?_, rfl⟩) | fail)
  apply EvR.aCall h2.at_; (· exact eva); (· exact h2.ok _ w0 h0_ wr0 sv0 lv0 fv0 sp0 lo0 fs0 (r0.pre ((v_1.trans (q_1.trans (v_2.trans (q_2.trans (v_3.trans (q_3.trans (v_4.trans q_4))))))).app _)) (rf0.pre ((v_1.trans (q_1.trans (v_2.trans (q_2.trans (v_3.trans (q_3.trans (v_4.trans q_4))))))).app _)) na0 nb0 hfit0); rintro _ _ ⟨τ5, s5, l5, b5, R5, rfl, rfl, o5⟩
  refine EvR.base2 fun A5 S5 f_5 e_5 q_5 => ?_
  rw [← e_5, ← f_5] at o5
  have v_5 : Pre S4 A5 := by rw [f_5]; exact (Pre.refl _).app _
  have pt_c1 : PtAt A5 (S4.length + 0) 0 [.int .i64 w1, .int .i64 h1_, .bool wr1, slV s4 sp1.length, slV l4 lo1.length, slV b4 fs1.length] := by rw [f_5]; exact PtAt.own rfl
  clear g_t0_4 g_t1_4 g_c0_4
  have g_t0_5 : PtAt S5 (σ.length + 0) 0 [.int .i64 w0, .int .i64 h0_, .bool wr0, sv0, lv0, fv0] := pt_t0.pre (q_1.trans (v_2.trans (q_2.trans (v_3.trans (q_3.trans (v_4.trans (q_4.trans (v_5.trans q_5))))))))
  have g_t1_5 : PtAt S5 (σ.length + 1) 0 [.int .i64 w1, .int .i64 h1_, .bool wr1, sv1, lv1, fv1] := pt_t1.pre (q_1.trans (v_2.trans (q_2.trans (v_3.trans (q_3.trans (v_4.trans (q_4.trans (v_5.trans q_5))))))))
  have g_c0_5 : PtAt S5 (S3.length + 0) 0 [.int .i64 w0, .int .i64 h0_, .bool wr0, slV s3 sp0.length, slV l3 lo0.length, slV b3 fs0.length] := pt_c0.pre (q_4.trans (v_5.trans q_5))
  have g_c1_5 : PtAt S5 (S4.length + 0) 0 [.int .i64 w1, .int .i64 h1_, .bool wr1, slV s4 sp1.length, slV l4 lo1.length, slV b4 fs1.length] := pt_c1.pre q_5
  refine EvR.nrm ?_
  repeat' (first | refine ff ?_ | ((first | refine EvR.aSplB ?_ ?_ | refine Ev.aSplB ?_ ?_) <;> (intro hb; (try rw [hb]); (try simp only [Bool.not_eq_true', Bool.not_eq_false', Bool.not_eq_eq_eq_not, Bool.not_true, Bool.not_false, decide_eq_true_eq, decide_eq_false_iff_not, Bool.and_eq_true, Bool.and_eq_false_iff, Bool.or_eq_true, Bool.or_eq_false_iff] at hb); (try (exfalso; first | omega | exact hb trivial)))) | (apply endS trivial; rotate_left; (· exact eva); (· rfl); try refine ⟨?_, rfl⟩) | fail)
  (apply EvR.aCall h5.at_; (· exact eva); (· exact  h5.ok _ w0 h0_ wr0 _ _ _ _ _ _ sp0 lo0 fs0 ((o3.pre (v_4.trans (q_4.trans (v_5.trans q_5)))).ext _).sheet ((o3.pre (v_4.trans (q_4.trans (v_5.trans q_5)))).ext _).fls (o5.ext _).sheet (o5.ext _).fls na0 nb0 hfit0); (rintro _ _ ⟨rfl, rfl⟩; refine EvR.nrm ?_))
  repeat' (first | refine ff ?_ | ((first | refine EvR.aSplB ?_ ?_ | refine Ev.aSplB ?_ ?_) <;> (intro hb; (try rw [hb]); (try simp only [Bool.not_eq_true', Bool.not_eq_false', Bool.not_eq_eq_eq_not, Bool.not_true, Bool.not_false, decide_eq_true_eq, decide_eq_false_iff_not, Bool.and_eq_true, Bool.and_eq_false_iff, Bool.or_eq_true, Bool.or_eq_false_iff] at hb); (try (exfalso; first | omega | exact hb trivial)))) | (apply endS trivial; rotate_left; (· exact eva); (· rfl); try refine ⟨?_, rfl⟩) | fail)
  apply EvR.aCall h2.at_; (· exact eva); (· exact h2.ok _ w1 h1_ wr1 sv1 lv1 fv1 sp1 lo1 fs1 (r1.pre ((v_1.trans (q_1.trans (v_2.trans (q_2.trans (v_3.trans (q_3.trans (v_4.trans (q_4.trans (v_5.trans q_5))))))))).app _)) (rf1.pre ((v_1.trans (q_1.trans (v_2.trans (q_2.trans (v_3.trans (q_3.trans (v_4.trans (q_4.trans (v_5.trans q_5))))))))).app _)) na1 nb1 hfit1); rintro _ _ ⟨τ6, s6, l6, b6, R6, rfl, rfl, o6⟩
  refine EvR.base2 fun A6 S6 f_6 e_6 q_6 => ?_
  rw [← e_6, ← f_6] at o6
  have v_6 : Pre S5 A6 := by rw [f_6]; exact (Pre.refl _).app _
  clear g_t0_5 g_t1_5 g_c0_5 g_c1_5
  have g_t0_6 : PtAt S6 (σ.length + 0) 0 [.int .i64 w0, .int .i64 h0_, .bool wr0, sv0, lv0, fv0] := pt_t0.pre (q_1.trans (v_2.trans (q_2.trans (v_3.trans (q_3.trans (v_4.trans (q_4.trans (v_5.trans (q_5.trans (v_6.trans q_6))))))))))
  have g_t1_6 : PtAt S6 (σ.length + 1) 0 [.int .i64 w1, .int .i64 h1_, .bool wr1, sv1, lv1, fv1] := pt_t1.pre (q_1.trans (v_2.trans (q_2.trans (v_3.trans (q_3.trans (v_4.trans (q_4.trans (v_5.trans (q_5.trans (v_6.trans q_6))))))))))
  have g_c0_6 : PtAt S6 (S3.length + 0) 0 [.int .i64 w0, .int .i64 h0_, .bool wr0, slV s3 sp0.length, slV l3 lo0.length, slV b3 fs0.length] := pt_c0.pre (q_4.trans (v_5.trans (q_5.trans (v_6.trans q_6))))
  have g_c1_6 : PtAt S6 (S4.length + 0) 0 [.int .i64 w1, .int .i64 h1_, .bool wr1, slV s4 sp1.length, slV l4 lo1.length, slV b4 fs1.length] := pt_c1.pre (q_5.trans (v_6.trans q_6))
  refine EvR.nrm ?_
  repeat' (first | refine ff ?_ | ((first | refine EvR.aSplB ?_ ?_ | refine Ev.aSplB ?_ ?_) <;> (intro hb; (try rw [hb]); (try simp only [Bool.not_eq_true', Bool.not_eq_false', Bool.not_eq_eq_eq_not, Bool.not_true, Bool.not_false, decide_eq_true_eq, decide_eq_false_iff_not, Bool.and_eq_true, Bool.and_eq_false_iff, Bool.or_eq_true, Bool.or_eq_false_iff] at hb); (try (exfalso; first | omega | exact hb trivial)))) | (apply endS trivial; rotate_left; (· exact eva); (· rfl); try refine ⟨?_, rfl⟩) | fail)
  (apply EvR.aCall h5.at_; (· exact eva); (· exact  h5.ok _ w1 h1_ wr1 _ _ _ _ _ _ sp1 lo1 fs1 ((o4.pre (v_5.trans (q_5.trans (v_6.trans q_6)))).ext _).sheet ((o4.pre (v_5.trans (q_5.trans (v_6.trans q_6)))).ext _).fls (o6.ext _).sheet (o6.ext _).fls na1 nb1 hfit1); (rintro _ _ ⟨rfl, rfl⟩; refine EvR.nrm ?_))
  repeat' (first | refine ff ?_ | ((first | refine EvR.aSplB ?_ ?_ | refine Ev.aSplB ?_ ?_) <;> (intro hb; (try rw [hb]); (try simp only [Bool.not_eq_true', Bool.not_eq_false', Bool.not_eq_eq_eq_not, Bool.not_true, Bool.not_false, decide_eq_true_eq, decide_eq_false_iff_not, Bool.and_eq_true, Bool.and_eq_false_iff, Bool.or_eq_true, Bool.or_eq_false_iff] at hb); (try (exfalso; first | omega | exact hb trivial)))) | (apply endS trivial; rotate_left; (· exact eva); (· rfl); try refine ⟨?_, rfl⟩) | fail)
  apply endK (v_1.trans (q_1.trans (v_2.trans (q_2.trans (v_3.trans (q_3.trans (v_4.trans (q_4.trans (v_5.trans (q_5.trans (v_6.trans q_6)))))))))))
  · trivial
  · rfl
  · exact eva
  · rfl
theorem laws_FnExactSameFilm_law {C : Ctab} {i1 i2 i3 i4 i5 : FuncId} {c1 c2 c3 c4 c5 : Contract} (h1 : Has C i1 c1 laws_szFilm_ok) (h2 : Has C i2 c2 laws_toFilm_ok) (h3 : Has C i3 c3 spec_SameFilm_ok) (h4 : Has C i4 c4 impl_SameFilm_ok) (h5 : Has C i5 c5 laws_eqFilm_ok) : laws_FnExactSameFilm_ok (gcC C (laws_FnExactSameFilm i1 i2 i3 i4 i5) true) := by
  intro σ avs hh
  match avs, hh with
  | [v0, v1], ⟨g0, g1, _⟩ =>
    obtain ⟨w0, h0_, wr0, sv0, lv0, fv0, sp0, lo0, fs0, rfl, r0, rf0, ba0, bb0, bf0, ia0, ib0, ic0⟩ := film_absL g0
    obtain ⟨w1, h1_, wr1, sv1, lv1, fv1, sp1, lo1, fs1, rfl, r1, rf1, ba1, bb1, bf1, ia1, ib1, ic1⟩ := film_absL g1
    have ka0 := r0.s.ok
    have kb0 := r0.l.ok
    have kc0 := rf0.ok
    have ka1 := r1.s.ok
    have kb1 := r1.l.ok
    have kc1 := rf1.ok
    have z0 := szFilm_fact sp0 lo0 fs0 (1048576) (by omega) (by omega)
    by_cases hz0 : szFilm sp0 lo0 fs0 (1048576) < 0
    · refine ret_gc rfl rfl ?_
      repeat' (first | refine ff ?_ | ((first | refine EvR.aSplB ?_ ?_ | refine Ev.aSplB ?_ ?_) <;> (intro hb; (try rw [hb]); (try simp only [Bool.not_eq_true', Bool.not_eq_false', Bool.not_eq_eq_eq_not, Bool.not_true, Bool.not_false, decide_eq_true_eq, decide_eq_false_iff_not, Bool.and_eq_true, Bool.and_eq_false_iff, Bool.or_eq_true, Bool.or_eq_false_iff] at hb); (try (exfalso; first | omega | exact hb trivial)))) | (apply endS trivial; rotate_left; (· exact eva); (· rfl); try refine ⟨?_, rfl⟩) | fail)
      (apply EvR.aCall h1.at_; (· exact eva); (· exact  h1.ok _ w0 h0_ wr0 sv0 lv0 fv0 sp0 lo0 fs0 (1048576) ⟨r0.s.ext _, r0.l.ext _⟩ (rf0.ext _) ba0 bb0 bf0 (by omega) (by omega)); (rintro _ _ ⟨rfl, rfl⟩; refine EvR.nrm ?_))
      repeat' (first | refine ff ?_ | ((first | refine EvR.aSplB ?_ ?_ | refine Ev.aSplB ?_ ?_) <;> (intro hb; (try rw [hb]); (try simp only [Bool.not_eq_true', Bool.not_eq_false', Bool.not_eq_eq_eq_not, Bool.not_true, Bool.not_false, decide_eq_true_eq, decide_eq_false_iff_not, Bool.and_eq_true, Bool.and_eq_false_iff, Bool.or_eq_true, Bool.or_eq_false_iff] at hb); (try (exfalso; first | omega | exact hb trivial)))) | (apply endS trivial; rotate_left; (· exact eva); (· rfl); try refine ⟨?_, rfl⟩) | fail)
      all_goals rfl
    have z1 := szFilm_fact sp1 lo1 fs1 (szFilm sp0 lo0 fs0 (1048576)) (by omega) (by omega)
    by_cases hz1 : szFilm sp1 lo1 fs1 (szFilm sp0 lo0 fs0 (1048576)) < 0
    · refine ret_gc rfl rfl ?_
      repeat' (first | refine ff ?_ | ((first | refine EvR.aSplB ?_ ?_ | refine Ev.aSplB ?_ ?_) <;> (intro hb; (try rw [hb]); (try simp only [Bool.not_eq_true', Bool.not_eq_false', Bool.not_eq_eq_eq_not, Bool.not_true, Bool.not_false, decide_eq_true_eq, decide_eq_false_iff_not, Bool.and_eq_true, Bool.and_eq_false_iff, Bool.or_eq_true, Bool.or_eq_false_iff] at hb); (try (exfalso; first | omega | exact hb trivial)))) | (apply endS trivial; rotate_left; (· exact eva); (· rfl); try refine ⟨?_, rfl⟩) | fail)
      (apply EvR.aCall h1.at_; (· exact eva); (· exact  h1.ok _ w0 h0_ wr0 sv0 lv0 fv0 sp0 lo0 fs0 (1048576) ⟨r0.s.ext _, r0.l.ext _⟩ (rf0.ext _) ba0 bb0 bf0 (by omega) (by omega)); (rintro _ _ ⟨rfl, rfl⟩; refine EvR.nrm ?_))
      repeat' (first | refine ff ?_ | ((first | refine EvR.aSplB ?_ ?_ | refine Ev.aSplB ?_ ?_) <;> (intro hb; (try rw [hb]); (try simp only [Bool.not_eq_true', Bool.not_eq_false', Bool.not_eq_eq_eq_not, Bool.not_true, Bool.not_false, decide_eq_true_eq, decide_eq_false_iff_not, Bool.and_eq_true, Bool.and_eq_false_iff, Bool.or_eq_true, Bool.or_eq_false_iff] at hb); (try (exfalso; first | omega | exact hb trivial)))) | (apply endS trivial; rotate_left; (· exact eva); (· rfl); try refine ⟨?_, rfl⟩) | fail)
      (apply EvR.aCall h1.at_; (· exact eva); (· exact  h1.ok _ w1 h1_ wr1 sv1 lv1 fv1 sp1 lo1 fs1 (szFilm sp0 lo0 fs0 (1048576)) ⟨r1.s.ext _, r1.l.ext _⟩ (rf1.ext _) ba1 bb1 bf1 (by omega) (by omega)); (rintro _ _ ⟨rfl, rfl⟩; refine EvR.nrm ?_))
      repeat' (first | refine ff ?_ | ((first | refine EvR.aSplB ?_ ?_ | refine Ev.aSplB ?_ ?_) <;> (intro hb; (try rw [hb]); (try simp only [Bool.not_eq_true', Bool.not_eq_false', Bool.not_eq_eq_eq_not, Bool.not_true, Bool.not_false, decide_eq_true_eq, decide_eq_false_iff_not, Bool.and_eq_true, Bool.and_eq_false_iff, Bool.or_eq_true, Bool.or_eq_false_iff] at hb); (try (exfalso; first | omega | exact hb trivial)))) | (apply endS trivial; rotate_left; (· exact eva); (· rfl); try refine ⟨?_, rfl⟩) | fail)
      all_goals rfl
    cases hok : sameFm w0 h0_ wr0 sp0 lo0 fs0 w1 h1_ wr1 sp1 lo1 fs1
    · exact rowSameFilm_f h1 h2 h3 h4 h5 σ w0 h0_ wr0 sv0 lv0 sp0 lo0 r0 ba0 bb0 fv0 fs0 rf0 bf0 ia0 ib0 ic0 w1 h1_ wr1 sv1 lv1 sp1 lo1 r1 ba1 bb1 fv1 fs1 rf1 bf1 ia1 ib1 ic1 hz0 hz1 hok
    · exact rowSameFilm_t h1 h2 h3 h4 h5 σ w0 h0_ wr0 sv0 lv0 sp0 lo0 r0 ba0 bb0 fv0 fs0 rf0 bf0 ia0 ib0 ic0 w1 h1_ wr1 sv1 lv1 sp1 lo1 r1 ba1 bb1 fv1 fs1 rf1 bf1 ia1 ib1 ic1 hz0 hz1 hok
end Go.Abs

