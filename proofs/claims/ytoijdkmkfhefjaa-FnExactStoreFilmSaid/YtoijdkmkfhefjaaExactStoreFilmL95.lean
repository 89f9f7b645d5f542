/- Law of a row's function: StoreFilm. Conditions: the laws of what it calls. -/
import Derived.Test.YtoijdkmkfhefjaaExactStoreFilmL94
namespace Go.Abs

set_option linter.unusedSimpArgs false
set_option linter.unusedVariables false
set_option maxHeartbeats 16000000
set_option maxRecDepth 100000
/- loop.example/g01201/laws.FnExactStoreFilm -/
def laws_FnExactStoreFilm_r0 : List SOper := [
  ⟨(some 1), none, .box (.tmp 0), 0⟩,
  ⟨(some 2), none, .mov (.const (.bool false)), 0⟩]
def laws_FnExactStoreFilm_r1 : List SOper := [
  ⟨(some 3), none, .mov (.const (.int .i64 1048576)), 0⟩]
def laws_FnExactStoreFilm_r2 (i_laws_szFilm : FuncId) : List SOper := [
  ⟨(some 9), none, .loadN 6 (.tmp 1), 0⟩,
  ⟨(some 10), none, .mov (.tmp 3), 0⟩,
  ⟨(some 11), none, .call (.func i_laws_szFilm) [(.tmp 9), (.tmp 10)], 3⟩,
  ⟨(some 3), none, .mov (.tmp 11), 7⟩]
def laws_FnExactStoreFilm_r3 : List SOper := [
  ⟨(some 12), none, .mov (.tmp 3), 0⟩,
  ⟨(some 13), none, .bin .lss .other (.tmp 12) (.const (.int .i64 0)), 1⟩]
def laws_FnExactStoreFilm_r4 : List SOper := [
  ⟨(some 2), none, .mov (.const (.bool true)), 0⟩]
def laws_FnExactStoreFilm_r5 (i_laws_toFilm i_spec_StoreFilm : FuncId) : List SOper := [
  ⟨(some 15), none, .loadN 6 (.tmp 1), 0⟩,
  ⟨(some 16), none, .call (.func i_laws_toFilm) [(.tmp 15)], 1⟩,
  ⟨(some 17), none, .call (.func i_spec_StoreFilm) [(.tmp 16)], 3⟩,
  ⟨(some 14), none, .mov (.tmp 17), 7⟩,
  ⟨(some 18), none, .extract (.tmp 14) 0, 15⟩,
  ⟨(some 19), none, .extract (.tmp 14) 1, 15⟩,
  ⟨(some 4), none, .mov (.tmp 18), 31⟩,
  ⟨(some 5), none, .mov (.tmp 19), 127⟩]
def laws_FnExactStoreFilm_r6 (i_laws_toFilm : FuncId) : List SOper := [
  ⟨(some 20), none, .loadN 6 (.tmp 1), 0⟩,
  ⟨(some 21), none, .call (.func i_laws_toFilm) [(.tmp 20)], 1⟩,
  ⟨(some 6), none, .alloc [(.int .i64 0), (.int .i64 0), (.bool false), (.slice none 0 0), (.slice none 0 0), (.slice none 0 0)], 0⟩,
  ⟨none, none, .store 6 (.tmp 6) (.tmp 21), 7⟩]
def laws_FnExactStoreFilm_r7 (i_impl_StoreFilm : FuncId) : List SOper := [
  ⟨(some 23), none, .loadN 6 (.tmp 6), 0⟩,
  ⟨(some 24), none, .call (.func i_impl_StoreFilm) [(.tmp 23)], 1⟩,
  ⟨(some 22), none, .mov (.tmp 24), 3⟩,
  ⟨(some 25), none, .extract (.tmp 22) 0, 7⟩,
  ⟨(some 26), none, .extract (.tmp 22) 1, 7⟩,
  ⟨(some 7), none, .mov (.tmp 25), 15⟩,
  ⟨(some 8), none, .mov (.tmp 26), 63⟩]
def laws_FnExactStoreFilm_r8 : List SOper := [
  ⟨(some 27), none, .mov (.tmp 7), 0⟩,
  ⟨(some 28), none, .mov (.tmp 4), 0⟩,
  ⟨(some 29), none, .bin .neq .other (.tmp 27) (.tmp 28), 3⟩,
  ⟨(some 30), none, .mov (.tmp 29), 7⟩,
  ⟨(some 31), (some (30, false)), .mov (.tmp 8), 15⟩,
  ⟨(some 32), (some (30, false)), .mov (.tmp 5), 15⟩,
  ⟨(some 33), (some (30, false)), .bin .neq .bool (.tmp 31) (.tmp 32), 63⟩,
  ⟨(some 34), none, .pick (.tmp 30) (.const (.bool true)) (.tmp 33), 127⟩]
def laws_FnExactStoreFilm_r9 : List SOper := [
  ⟨(some 2), none, .mov (.const (.bool false)), 0⟩]
def laws_FnExactStoreFilm_r10 (i_laws_toFilm i_laws_eqFilm : FuncId) : List SOper := [
  ⟨(some 35), none, .loadN 6 (.tmp 6), 0⟩,
  ⟨(some 36), none, .loadN 6 (.tmp 1), 0⟩,
  ⟨(some 37), none, .call (.func i_laws_toFilm) [(.tmp 36)], 2⟩,
  ⟨(some 38), none, .call (.func i_laws_eqFilm) [(.tmp 35), (.tmp 37)], 7⟩,
  ⟨(some 39), none, .un .not (.tmp 38), 15⟩]
def laws_FnExactStoreFilm_r11 : List SOper := [
  ⟨(some 2), none, .mov (.const (.bool false)), 0⟩]
def laws_FnExactStoreFilm_r12 : List SOper := [
  ⟨(some 2), none, .mov (.const (.bool true)), 0⟩]
def laws_FnExactStoreFilm (i_laws_szFilm i_laws_toFilm i_spec_StoreFilm i_impl_StoreFilm i_laws_eqFilm : FuncId) : SFunc := ⟨40, [.tmp 2], (.kp [0] (.seq (.region laws_FnExactStoreFilm_r0 false) (.kp [1] (.seq (.region laws_FnExactStoreFilm_r1 false) (.kp [1, 3] (.seq (.region (laws_FnExactStoreFilm_r2 i_laws_szFilm) false) (.kp [1, 3] (.seq (.seq (.region laws_FnExactStoreFilm_r3 false) (.kp [1, 13] (.cond (.tmp 13) (.seq (.region laws_FnExactStoreFilm_r4 false) .ret) .skip))) (.kp [1] (.seq (.region (laws_FnExactStoreFilm_r5 i_laws_toFilm i_spec_StoreFilm) false) (.kp [1, 4, 5] (.seq (.region (laws_FnExactStoreFilm_r6 i_laws_toFilm) false) (.kp [1, 4, 5, 6] (.seq (.region (laws_FnExactStoreFilm_r7 i_impl_StoreFilm) false) (.kp [1, 4, 5, 6, 7, 8] (.seq (.seq (.region laws_FnExactStoreFilm_r8 false) (.kp [1, 6, 34] (.cond (.tmp 34) (.seq (.region laws_FnExactStoreFilm_r9 false) .ret) .skip))) (.kp [1, 6] (.seq (.seq (.region (laws_FnExactStoreFilm_r10 i_laws_toFilm i_laws_eqFilm) true) (.kp [39] (.cond (.tmp 39) (.seq (.region laws_FnExactStoreFilm_r11 false) .ret) .skip))) (.kp [] (.seq (.region laws_FnExactStoreFilm_r12 false) .ret))))))))))))))))))))⟩
theorem laws_FnExactStoreFilm_r10_dr {i_laws_toFilm i_laws_eqFilm : FuncId} : drawOkW wStat (laws_FnExactStoreFilm_r10 i_laws_toFilm i_laws_eqFilm) = true := by kernel_rfl
attribute [push_cast] laws_FnExactStoreFilm_r10_dr
def laws_FnExactStoreFilm_ok (c : Contract) : Prop := AlwaysTrue [filmK] c
theorem rowStoreFilm_f {C : Ctab} {i1 i2 i3 i4 i5 : FuncId} {c1 c2 c3 c4 c5 : Contract} (h1 : Has C i1 c1 laws_szFilm_ok) (h2 : Has C i2 c2 laws_toFilm_ok) (h3 : Has C i3 c3 spec_StoreFilm_ok) (h4 : Has C i4 c4 impl_StoreFilm_ok) (h5 : Has C i5 c5 laws_eqFilm_ok) (σ : Heap) (w0 h0_ : Int) (wr0 : Bool) (sv0 lv0 : Value) (sp0 lo0 : List Nat) (r0 : ShR σ sv0 lv0 sp0 lo0) (ba0 : sp0.length ≤ 9223372036854775807) (bb0 : lo0.length ≤ 9223372036854775807) (fv0 : Value) (fs0 : List Fld) (rf0 : FlsR σ fv0 fs0) (bf0 : bigF fs0) (ia0 : in32 sp0) (ib0 : in32 lo0) (ic0 : lowF fs0) (hz0 : ¬ szFilm sp0 lo0 fs0 (1048576) < 0)
    (hok : sfOk w0 h0_ wr0 sp0 lo0 fs0 = false) : Ret (gcC C (laws_FnExactStoreFilm i1 i2 i3 i4 i5) true) [fmV w0 h0_ wr0 sv0 lv0 fv0] σ fun v _ => v = .bool true := by
  have ka0 := r0.s.ok
  have kb0 := r0.l.ok
  have kc0 := rf0.ok
  have z0 := szFilm_fact sp0 lo0 fs0 (1048576) (by omega) (by omega)
  obtain ⟨na0, nb0, hfit0, hsum0⟩ := z0.2.2 (by omega)
  obtain ⟨T, hT⟩ : ∃ T, sfB w0 h0_ wr0 sp0 lo0 fs0 = T := ⟨_, rfl⟩
  refine ret_gc rfl rfl ?_
  repeat' (first | refine ff ?_ | ((first | refine EvR.aSplB ?_ ?_ | refine Ev.aSplB ?_ ?_) <;> (intro hb; (try rw [hb]); (try simp only [Bool.not_eq_true', Bool.not_eq_false', Bool.not_eq_eq_eq_not, Bool.not_true, Bool.not_false, decide_eq_true_eq, decide_eq_false_iff_not, Bool.and_eq_true, Bool.and_eq_false_iff, Bool.or_eq_true, Bool.or_eq_false_iff] at hb); (try (exfalso; first | omega | exact hb trivial)))) | (apply endS trivial; rotate_left; (· exact eva); (· rfl); try refine ⟨?_, rfl⟩) | fail)
  (apply EvR.aCall h1.at_; (· exact eva); (· exact  h1.ok _ w0 h0_ wr0 sv0 lv0 fv0 sp0 lo0 fs0 (1048576) ⟨r0.s.ext _, r0.l.ext _⟩ (rf0.ext _) ba0 bb0 bf0 (by omega) (by omega)); (rintro _ _ ⟨rfl, rfl⟩; refine EvR.nrm ?_))
  repeat' (first | refine ff ?_ | ((first | refine EvR.aSplB ?_ ?_ | refine Ev.aSplB ?_ ?_) <;> (intro hb; (try rw [hb]); (try simp only [Bool.not_eq_true', Bool.not_eq_false', Bool.not_eq_eq_eq_not, Bool.not_true, Bool.not_false, decide_eq_true_eq, decide_eq_false_iff_not, Bool.and_eq_true, Bool.and_eq_false_iff, Bool.or_eq_true, Bool.or_eq_false_iff] at hb); (try (exfalso; first | omega | exact hb trivial)))) | (apply endS trivial; rotate_left; (· exact eva); (· rfl); try refine ⟨?_, rfl⟩) | fail)
  apply EvR.aCall h2.at_; (· exact eva); (· exact h2.ok _ w0 h0_ wr0 sv0 lv0 fv0 sp0 lo0 fs0 (r0.pre ((Pre.refl σ).app _)) (rf0.pre ((Pre.refl σ).app _)) na0 nb0 hfit0); rintro _ _ ⟨τ1, s1, l1, b1, R1, rfl, rfl, o1⟩
  refine EvR.base2 fun A1 S1 f_1 e_1 q_1 => ?_
  rw [← e_1, ← f_1] at o1
  have v_1 : Pre σ A1 := by rw [f_1]; exact (Pre.refl _).app _
  have pt_t0 : PtAt A1 (σ.length + 0) 0 [.int .i64 w0, .int .i64 h0_, .bool wr0, sv0, lv0, fv0] := by rw [f_1]; exact PtAt.own rfl
  have g_t0_1 : PtAt S1 (σ.length + 0) 0 [.int .i64 w0, .int .i64 h0_, .bool wr0, sv0, lv0, fv0] := pt_t0.pre q_1
  refine EvR.nrm ?_
  repeat' (first | refine ff ?_ | ((first | refine EvR.aSplB ?_ ?_ | refine Ev.aSplB ?_ ?_) <;> (intro hb; (try rw [hb]); (try simp only [Bool.not_eq_true', Bool.not_eq_false', Bool.not_eq_eq_eq_not, Bool.not_true, Bool.not_false, decide_eq_true_eq, decide_eq_false_iff_not, Bool.and_eq_true, Bool.and_eq_false_iff, Bool.or_eq_true, Bool.or_eq_false_iff] at hb); (try (exfalso; first | omega | exact hb trivial)))) | (apply endS trivial; rotate_left; (· exact eva); (· rfl); try refine ⟨?_, rfl⟩) | fail)
  (apply EvR.aCall h3.at_; (· exact eva); (· exact  h3.ok _ w0 h0_ wr0 _ _ _ sp0 lo0 fs0 ((o1.pre (Pre.refl S1)).ext _).sheet ((o1.pre (Pre.refl S1)).ext _).fls na0 nb0 hfit0 ia0 ib0 ic0); (rintro _ _ ⟨rfl, rfl⟩; refine EvR.nrm ?_))
  rw [hok, chRes_f]
  repeat' (first | refine ff ?_ | ((first | refine EvR.aSplB ?_ ?_ | refine Ev.aSplB ?_ ?_) <;> (intro hb; (try rw [hb]); (try simp only [Bool.not_eq_true', Bool.not_eq_false', Bool.not_eq_eq_eq_not, Bool.not_true, Bool.not_false, decide_eq_true_eq, decide_eq_false_iff_not, Bool.and_eq_true, Bool.and_eq_false_iff, Bool.or_eq_true, Bool.or_eq_false_iff] at hb); (try (exfalso; first | omega | exact hb trivial)))) | (apply endS trivial; rotate_left; (· exact eva); (· rfl); try refine ⟨?_, rfl⟩) | fail)
  apply EvR.aCall h2.at_; (· exact eva); (· exact h2.ok _ w0 h0_ wr0 sv0 lv0 fv0 sp0 lo0 fs0 (r0.pre ((v_1.trans q_1).app _)) (rf0.pre ((v_1.trans q_1).app _)) na0 nb0 hfit0); rintro _ _ ⟨τ2, s2, l2, b2, R2, rfl, rfl, o2⟩
  refine EvR.base2 fun A2 S2 f_2 e_2 q_2 => ?_
  rw [← e_2, ← f_2] at o2
  have v_2 : Pre S1 A2 := by rw [f_2]; exact (Pre.refl _).app _
  clear g_t0_1
  have g_t0_2 : PtAt S2 (σ.length + 0) 0 [.int .i64 w0, .int .i64 h0_, .bool wr0, sv0, lv0, fv0] := pt_t0.pre (q_1.trans (v_2.trans q_2))
  refine EvR.nrm ?_
  repeat' (first | refine ff ?_ | ((first | refine EvR.aSplB ?_ ?_ | refine Ev.aSplB ?_ ?_) <;> (intro hb; (try rw [hb]); (try simp only [Bool.not_eq_true', Bool.not_eq_false', Bool.not_eq_eq_eq_not, Bool.not_true, Bool.not_false, decide_eq_true_eq, decide_eq_false_iff_not, Bool.and_eq_true, Bool.and_eq_false_iff, Bool.or_eq_true, Bool.or_eq_false_iff] at hb); (try (exfalso; first | omega | exact hb trivial)))) | (apply endS trivial; rotate_left; (· exact eva); (· rfl); try refine ⟨?_, rfl⟩) | fail)
  (apply EvR.aCall h4.at_; (· exact eva); (· exact  h4.ok _ w0 h0_ wr0 _ _ _ sp0 lo0 fs0 ((o2.pre (Pre.refl S2)).ext _).sheet ((o2.pre (Pre.refl S2)).ext _).fls na0 nb0 hfit0 ia0 ib0 ic0); (rintro _ _ ⟨rfl, rfl⟩; refine EvR.nrm ?_))
  rw [hok, chRes_f]
  repeat' (first | refine ff ?_ | ((first | refine EvR.aSplB ?_ ?_ | refine Ev.aSplB ?_ ?_) <;> (intro hb; (try rw [hb]); (try simp only [Bool.not_eq_true', Bool.not_eq_false', Bool.not_eq_eq_eq_not, Bool.not_true, Bool.not_false, decide_eq_true_eq, decide_eq_false_iff_not, Bool.and_eq_true, Bool.and_eq_false_iff, Bool.or_eq_true, Bool.or_eq_false_iff] at hb); (try (exfalso; first | omega | exact hb trivial)))) | (apply endS trivial; rotate_left; (· exact eva); (· rfl); try refine ⟨?_, rfl⟩) | fail)
  apply EvR.aCall h2.at_; (· exact eva); (· exact h2.ok _ w0 h0_ wr0 sv0 lv0 fv0 sp0 lo0 fs0 (r0.pre ((v_1.trans (q_1.trans (v_2.trans q_2))).app _)) (rf0.pre ((v_1.trans (q_1.trans (v_2.trans q_2))).app _)) na0 nb0 hfit0); rintro _ _ ⟨τ3, s3, l3, b3, R3, rfl, rfl, o3⟩
  refine EvR.base2 fun A3 S3 f_3 e_3 q_3 => ?_
  rw [← e_3, ← f_3] at o3
  have v_3 : Pre S2 A3 := by rw [f_3]; exact (Pre.refl _).app _
  have pt_c0 : PtAt A3 (S2.length + 0) 0 [.int .i64 w0, .int .i64 h0_, .bool wr0, slV s2 sp0.length, slV l2 lo0.length, slV b2 fs0.length] := by rw [f_3]; exact PtAt.own rfl
  clear g_t0_2
  have g_t0_3 : PtAt S3 (σ.length + 0) 0 [.int .i64 w0, .int .i64 h0_, .bool wr0, sv0, lv0, fv0] := pt_t0.pre (q_1.trans (v_2.trans (q_2.trans (v_3.trans q_3))))
  have g_c0_3 : PtAt S3 (S2.length + 0) 0 [.int .i64 w0, .int .i64 h0_, .bool wr0, slV s2 sp0.length, slV l2 lo0.length, slV b2 fs0.length] := pt_c0.pre q_3
  refine EvR.nrm ?_
  repeat' (first | refine ff ?_ | ((first | refine EvR.aSplB ?_ ?_ | refine Ev.aSplB ?_ ?_) <;> (intro hb; (try rw [hb]); (try simp only [Bool.not_eq_true', Bool.not_eq_false', Bool.not_eq_eq_eq_not, Bool.not_true, Bool.not_false, decide_eq_true_eq, decide_eq_false_iff_not, Bool.and_eq_true, Bool.and_eq_false_iff, Bool.or_eq_true, Bool.or_eq_false_iff] at hb); (try (exfalso; first | omega | exact hb trivial)))) | (apply endS trivial; rotate_left; (· exact eva); (· rfl); try refine ⟨?_, rfl⟩) | fail)
  (apply EvR.aCall h5.at_; (· exact eva); (· exact  h5.ok _ w0 h0_ wr0 _ _ _ _ _ _ sp0 lo0 fs0 ((o2.pre (v_3.trans q_3)).ext _).sheet ((o2.pre (v_3.trans q_3)).ext _).fls (o3.ext _).sheet (o3.ext _).fls na0 nb0 hfit0); (rintro _ _ ⟨rfl, rfl⟩; refine EvR.nrm ?_))
  repeat' (first | refine ff ?_ | ((first | refine EvR.aSplB ?_ ?_ | refine Ev.aSplB ?_ ?_) <;> (intro hb; (try rw [hb]); (try simp only [Bool.not_eq_true', Bool.not_eq_false', Bool.not_eq_eq_eq_not, Bool.not_true, Bool.not_false, decide_eq_true_eq, decide_eq_false_iff_not, Bool.and_eq_true, Bool.and_eq_false_iff, Bool.or_eq_true, Bool.or_eq_false_iff] at hb); (try (exfalso; first | omega | exact hb trivial)))) | (apply endS trivial; rotate_left; (· exact eva); (· rfl); try refine ⟨?_, rfl⟩) | fail)
  apply endK (v_1.trans (q_1.trans (v_2.trans (q_2.trans (v_3.trans q_3)))))
  · trivial
  · rfl
  · exact eva
  · rfl
theorem rowStoreFilm_t {C : Ctab} {i1 i2 i3 i4 i5 : FuncId} {c1 c2 c3 c4 c5 : Contract} (h1 : Has C i1 c1 laws_szFilm_ok) (h2 : Has C i2 c2 laws_toFilm_ok) (h3 : Has C i3 c3 spec_StoreFilm_ok) (h4 : Has C i4 c4 impl_StoreFilm_ok) (h5 : Has C i5 c5 laws_eqFilm_ok) (σ : Heap) (w0 h0_ : Int) (wr0 : Bool) (sv0 lv0 : Value) (sp0 lo0 : List Nat) (r0 : ShR σ sv0 lv0 sp0 lo0) (ba0 : sp0.length ≤ 9223372036854775807) (bb0 : lo0.length ≤ 9223372036854775807) (fv0 : Value) (fs0 : List Fld) (rf0 : FlsR σ fv0 fs0) (bf0 : bigF fs0) (ia0 : in32 sp0) (ib0 : in32 lo0) (ic0 : lowF fs0) (hz0 : ¬ szFilm sp0 lo0 fs0 (1048576) < 0)
    (hok : sfOk w0 h0_ wr0 sp0 lo0 fs0 = true) : Ret (gcC C (laws_FnExactStoreFilm i1 i2 i3 i4 i5) true) [fmV w0 h0_ wr0 sv0 lv0 fv0] σ fun v _ => v = .bool true := by
  have ka0 := r0.s.ok
  have kb0 := r0.l.ok
  have kc0 := rf0.ok
  have z0 := szFilm_fact sp0 lo0 fs0 (1048576) (by omega) (by omega)
  obtain ⟨na0, nb0, hfit0, hsum0⟩ := z0.2.2 (by omega)
  obtain ⟨T, hT⟩ : ∃ T, sfB w0 h0_ wr0 sp0 lo0 fs0 = T := ⟨_, rfl⟩
  refine ret_gc rfl rfl ?_
  repeat' (first | refine ff ?_ | ((first | refine EvR.aSplB ?_ ?_ | refine Ev.aSplB ?_ ?_) <;> (intro hb; (try rw [hb]); (try simp only [Bool.not_eq_true', Bool.not_eq_false', Bool.not_eq_eq_eq_not, Bool.not_true, Bool.not_false, decide_eq_true_eq, decide_eq_false_iff_not, Bool.and_eq_true, Bool.and_eq_false_iff, Bool.or_eq_true, Bool.or_eq_false_iff] at hb); (try (exfalso; first | omega | exact hb trivial)))) | (apply endS trivial; rotate_left; (· exact eva); (· rfl); try refine ⟨?_, rfl⟩) | fail)
  (apply EvR.aCall h1.at_; (· exact eva); (· exact  h1.ok _ w0 h0_ wr0 sv0 lv0 fv0 sp0 lo0 fs0 (1048576) ⟨r0.s.ext _, r0.l.ext _⟩ (rf0.ext _) ba0 bb0 bf0 (by omega) (by omega)); (rintro _ _ ⟨rfl, rfl⟩; refine EvR.nrm ?_))
  repeat' (first | refine ff ?_ | ((first | refine EvR.aSplB ?_ ?_ | refine Ev.aSplB ?_ ?_) <;> (intro hb; (try rw [hb]); (try simp only [Bool.not_eq_true', Bool.not_eq_false', Bool.not_eq_eq_eq_not, Bool.not_true, Bool.not_false, decide_eq_true_eq, decide_eq_false_iff_not, Bool.and_eq_true, Bool.and_eq_false_iff, Bool.or_eq_true, Bool.or_eq_false_iff] at hb); (try (exfalso; first | omega | exact hb trivial)))) | (apply endS trivial; rotate_left; (· exact eva); (· rfl); try refine ⟨?_, rfl⟩) | fail)
  apply EvR.aCall h2.at_; (· exact eva); (· exact h2.ok _ w0 h0_ wr0 sv0 lv0 fv0 sp0 lo0 fs0 (r0.pre ((Pre.refl σ).app _)) (rf0.pre ((Pre.refl σ).app _)) na0 nb0 hfit0); rintro _ _ ⟨τ1, s1, l1, b1, R1, rfl, rfl, o1⟩
  refine EvR.base2 fun A1 S1 f_1 e_1 q_1 => ?_
  rw [← e_1, ← f_1] at o1
  have v_1 : Pre σ A1 := by rw [f_1]; exact (Pre.refl _).app _
  have pt_t0 : PtAt A1 (σ.length + 0) 0 [.int .i64 w0, .int .i64 h0_, .bool wr0, sv0, lv0, fv0] := by rw [f_1]; exact PtAt.own rfl
  have g_t0_1 : PtAt S1 (σ.length + 0) 0 [.int .i64 w0, .int .i64 h0_, .bool wr0, sv0, lv0, fv0] := pt_t0.pre q_1
  refine EvR.nrm ?_
  repeat' (first | refine ff ?_ | ((first | refine EvR.aSplB ?_ ?_ | refine Ev.aSplB ?_ ?_) <;> (intro hb; (try rw [hb]); (try simp only [Bool.not_eq_true', Bool.not_eq_false', Bool.not_eq_eq_eq_not, Bool.not_true, Bool.not_false, decide_eq_true_eq, decide_eq_false_iff_not, Bool.and_eq_true, Bool.and_eq_false_iff, Bool.or_eq_true, Bool.or_eq_false_iff] at hb); (try (exfalso; first | omega | exact hb trivial)))) | (apply endS trivial; rotate_left; (· exact eva); (· rfl); try refine ⟨?_, rfl⟩) | fail)
  (apply EvR.aCall h3.at_; (· exact eva); (· exact  h3.ok _ w0 h0_ wr0 _ _ _ sp0 lo0 fs0 ((o1.pre (Pre.refl S1)).ext _).sheet ((o1.pre (Pre.refl S1)).ext _).fls na0 nb0 hfit0 ia0 ib0 ic0); (rintro _ _ ⟨rfl, rfl⟩; refine EvR.nrm ?_))
  rw [hok, hT, chRes_t]
  repeat' (first | refine ff ?_ | ((first | refine EvR.aSplB ?_ ?_ | refine Ev.aSplB ?_ ?_) <;> (intro hb; (try rw [hb]); (try simp only [Bool.not_eq_true', Bool.not_eq_false', Bool.not_eq_eq_eq_not, Bool.not_true, Bool.not_false, decide_eq_true_eq, decide_eq_false_iff_not, Bool.and_eq_true, Bool.and_eq_false_iff, Bool.or_eq_true, Bool.or_eq_false_iff] at hb); (try (exfalso; first | omega | exact hb trivial)))) | (apply endS trivial; rotate_left; (· exact eva); (· rfl); try refine ⟨?_, rfl⟩) | fail)
  apply EvR.aCall h2.at_; (· exact eva); (· exact h2.ok _ w0 h0_ wr0 sv0 lv0 fv0 sp0 lo0 fs0 (r0.pre ((v_1.trans q_1).app _)) (rf0.pre ((v_1.trans q_1).app _)) na0 nb0 hfit0); rintro _ _ ⟨τ2, s2, l2, b2, R2, rfl, rfl, o2⟩
  refine EvR.base2 fun A2 S2 f_2 e_2 q_2 => ?_
  rw [← e_2, ← f_2] at o2
  have v_2 : Pre S1 A2 := by rw [f_2]; exact (Pre.refl _).app _
  clear g_t0_1
  have g_t0_2 : PtAt S2 (σ.length + 0) 0 [.int .i64 w0, .int .i64 h0_, .bool wr0, sv0, lv0, fv0] := pt_t0.pre (q_1.trans (v_2.trans q_2))
  refine EvR.nrm ?_
  repeat' (first | refine ff ?_ | ((first | refine EvR.aSplB ?_ ?_ | refine Ev.aSplB ?_ ?_) <;> (intro hb; (try rw [hb]); (try simp only [Bool.not_eq_true', Bool.not_eq_false', Bool.not_eq_eq_eq_not, Bool.not_true, Bool.not_false, decide_eq_true_eq, decide_eq_false_iff_not, Bool.and_eq_true, Bool.and_eq_false_iff, Bool.or_eq_true, Bool.or_eq_false_iff] at hb); (try (exfalso; first | omega | exact hb trivial)))) | (apply endS trivial; rotate_left; (· exact eva); (· rfl); try refine ⟨?_, rfl⟩) | fail)
  (apply EvR.aCall h4.at_; (· exact eva); (· exact  h4.ok _ w0 h0_ wr0 _ _ _ sp0 lo0 fs0 ((o2.pre (Pre.refl S2)).ext _).sheet ((o2.pre (Pre.refl S2)).ext _).fls na0 nb0 hfit0 ia0 ib0 ic0); (rintro _ _ ⟨rfl, rfl⟩; refine EvR.nrm ?_))
  rw [hok, hT, chRes_t]
  repeat' (first | refine ff ?_ | ((first | refine EvR.aSplB ?_ ?_ | refine Ev.aSplB ?_ ?_) <;> (intro hb; (try rw [hb]); (try simp only [Bool.not_eq_true', Bool.not_eq_false', Bool.not_eq_eq_eq_not, Bool.not_true, Bool.not_false, decide_eq_true_eq, decide_eq_false_iff_not, Bool.and_eq_true, Bool.and_eq_false_iff, Bool.or_eq_true, Bool.or_eq_false_iff] at hb); (try (exfalso; first | omega | exact hb trivial)))) | (apply endS trivial; rotate_left; (· exact eva); (· rfl); try refine ⟨?_, rfl⟩) | fail)
  apply EvR.aCall h2.at_; (· exact eva); (· exact h2.ok _ w0 h0_ wr0 sv0 lv0 fv0 sp0 lo0 fs0 (r0.pre ((v_1.trans (q_1.trans (v_2.trans q_2))).app _)) (rf0.pre ((v_1.trans (q_1.trans (v_2.trans q_2))).app _)) na0 nb0 hfit0); rintro _ _ ⟨τ3, s3, l3, b3, R3, rfl, rfl, o3⟩
  refine EvR.base2 fun A3 S3 f_3 e_3 q_3 => ?_
  rw [← e_3, ← f_3] at o3
  have v_3 : Pre S2 A3 := by rw [f_3]; exact (Pre.refl _).app _
  have pt_c0 : PtAt A3 (S2.length + 0) 0 [.int .i64 w0, .int .i64 h0_, .bool wr0, slV s2 sp0.length, slV l2 lo0.length, slV b2 fs0.length] := by rw [f_3]; exact PtAt.own rfl
  clear g_t0_2
  have g_t0_3 : PtAt S3 (σ.length + 0) 0 [.int .i64 w0, .int .i64 h0_, .bool wr0, sv0, lv0, fv0] := pt_t0.pre (q_1.trans (v_2.trans (q_2.trans (v_3.trans q_3))))
  have g_c0_3 : PtAt S3 (S2.length + 0) 0 [.int .i64 w0, .int .i64 h0_, .bool wr0, slV s2 sp0.length, slV l2 lo0.length, slV b2 fs0.length] := pt_c0.pre q_3
  refine EvR.nrm ?_
  repeat' (first | refine ff ?_ | ((first | refine EvR.aSplB ?_ ?_ | refine Ev.aSplB ?_ ?_) <;> (intro hb; (try rw [hb]); (try simp only [Bool.not_eq_true', Bool.not_eq_false', Bool.not_eq_eq_eq_not, Bool.not_true, Bool.not_false, decide_eq_true_eq, decide_eq_false_iff_not, Bool.and_eq_true, Bool.and_eq_false_iff, Bool.or_eq_true, Bool.or_eq_false_iff] at hb); (try (exfalso; first | omega | exact hb trivial)))) | (apply endS trivial; rotate_left; (· exact eva); (· rfl); try refine ⟨?_, rfl⟩) | fail)
  (apply EvR.aCall h5.at_; (· exact eva); (· exact  h5.ok _ w0 h0_ wr0 _ _ _ _ _ _ sp0 lo0 fs0 ((o2.pre (v_3.trans q_3)).ext _).sheet ((o2.pre (v_3.trans q_3)).ext _).fls (o3.ext _).sheet (o3.ext _).fls na0 nb0 hfit0); (rintro _ _ ⟨rfl, rfl⟩; refine EvR.nrm ?_))
  repeat' (first | refine ff ?_ | ((first | refine EvR.aSplB ?_ ?_ | refine Ev.aSplB ?_ ?_) <;> (intro hb; (try rw [hb]); (try simp only [Bool.not_eq_true', Bool.not_eq_false', Bool.not_eq_eq_eq_not, Bool.not_true, Bool.not_false, decide_eq_true_eq, decide_eq_false_iff_not, Bool.and_eq_true, Bool.and_eq_false_iff, Bool.or_eq_true, Bool.or_eq_false_iff] at hb); (try (exfalso; first | omega | exact hb trivial)))) | (apply endS trivial; rotate_left; (· exact eva); (· rfl); try refine ⟨?_, rfl⟩) | fail)
  apply endK (v_1.trans (q_1.trans (v_2.trans (q_2.trans (v_3.trans q_3)))))
  · trivial
  · rfl
  · exact eva
  · rfl
theorem laws_FnExactStoreFilm_law {C : Ctab} {i1 i2 i3 i4 i5 : FuncId} {c1 c2 c3 c4 c5 : Contract} (h1 : Has C i1 c1 laws_szFilm_ok) (h2 : Has C i2 c2 laws_toFilm_ok) (h3 : Has C i3 c3 spec_StoreFilm_ok) (h4 : Has C i4 c4 impl_StoreFilm_ok) (h5 : Has C i5 c5 laws_eqFilm_ok) : laws_FnExactStoreFilm_ok (gcC C (laws_FnExactStoreFilm i1 i2 i3 i4 i5) true) := by
  intro σ avs hh
  match avs, hh with
  | [v0], ⟨g0, _⟩ =>
    obtain ⟨w0, h0_, wr0, sv0, lv0, fv0, sp0, lo0, fs0, rfl, r0, rf0, ba0, bb0, bf0, ia0, ib0, ic0⟩ := film_absL g0
    have ka0 := r0.s.ok
    have kb0 := r0.l.ok
    have kc0 := rf0.ok
    have z0 := szFilm_fact sp0 lo0 fs0 (1048576) (by omega) (by omega)
    by_cases hz0 : szFilm sp0 lo0 fs0 (1048576) < 0
    · refine ret_gc rfl rfl ?_
      repeat' (first | refine ff ?_ | ((first | refine EvR.aSplB ?_ ?_ | refine Ev.aSplB ?_ ?_) <;> (intro hb; (try rw [hb]); (try simp only [Bool.not_eq_true', Bool.not_eq_false', Bool.not_eq_eq_eq_not, Bool.not_true, Bool.not_false, decide_eq_true_eq, decide_eq_false_iff_not, Bool.and_eq_true, Bool.and_eq_false_iff, Bool.or_eq_true, Bool.or_eq_false_iff] at hb); (try (exfalso; first | omega | exact hb trivial)))) | (apply endS trivial; rotate_left; (· exact eva); (· rfl); try refine ⟨?_, rfl⟩) | fail)
      (apply EvR.aCall h1.at_; (· exact eva); (· exact  h1.ok _ w0 h0_ wr0 sv0 lv0 fv0 sp0 lo0 fs0 (1048576) ⟨r0.s.ext _, r0.l.ext _⟩ (rf0.ext _) ba0 bb0 bf0 (by omega) (by omega)); (rintro _ _ ⟨rfl, rfl⟩; refine EvR.nrm ?_))
      repeat' (first | refine ff ?_ | ((first | refine EvR.aSplB ?_ ?_ | refine Ev.aSplB ?_ ?_) <;> (intro hb; (try rw [hb]); (try simp only [Bool.not_eq_true', Bool.not_eq_false', Bool.not_eq_eq_eq_not, Bool.not_true, Bool.not_false, decide_eq_true_eq, decide_eq_false_iff_not, Bool.and_eq_true, Bool.and_eq_false_iff, Bool.or_eq_true, Bool.or_eq_false_iff] at hb); (try (exfalso; first | omega | exact hb trivial)))) | (apply endS trivial; rotate_left; (· exact eva); (· rfl); try refine ⟨?_, rfl⟩) | fail)
      all_goals rfl
    cases hok : sfOk w0 h0_ wr0 sp0 lo0 fs0
    · exact rowStoreFilm_f h1 h2 h3 h4 h5 σ w0 h0_ wr0 sv0 lv0 sp0 lo0 r0 ba0 bb0 fv0 fs0 rf0 bf0 ia0 ib0 ic0 hz0 hok
    · exact rowStoreFilm_t h1 h2 h3 h4 h5 σ w0 h0_ wr0 sv0 lv0 sp0 lo0 r0 ba0 bb0 fv0 fs0 rf0 bf0 ia0 ib0 ic0 hz0 hok
end Go.Abs

