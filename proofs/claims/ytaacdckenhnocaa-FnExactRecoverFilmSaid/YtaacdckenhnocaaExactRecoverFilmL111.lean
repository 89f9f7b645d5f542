/- Law of a row's function: RecoverFilm. Conditions: the laws of what it calls. -/
import Derived.Test.YtaacdckenhnocaaExactRecoverFilmL109
import Derived.Test.YtaacdckenhnocaaExactRecoverFilmL43
namespace Go.Abs

set_option linter.unusedSimpArgs false
set_option linter.unusedVariables false
set_option maxHeartbeats 16000000
set_option maxRecDepth 100000
/- loop.example/g01201/laws.FnExactRecoverFilm -/
def laws_FnExactRecoverFilm_r0 : List SOper := [
 ⟨some 2, none, .mov (.const (.bool false)), 0⟩]
def laws_FnExactRecoverFilm_r1 : List SOper := [
 ⟨some 14, none, .mov (.tmp 0), 0⟩,
 ⟨some 15, none, .len true (.tmp 14), 1⟩,
 ⟨some 16, none, .bin .gtr .other (.tmp 15) (.const (.int .i64 1048576)), 3⟩]
def laws_FnExactRecoverFilm_r2 : List SOper := [
 ⟨some 2, none, .mov (.const (.bool true)), 0⟩]
def laws_FnExactRecoverFilm_r3 (i_spec_RecoverFilm : FuncId) : List SOper := [
 ⟨some 18, none, .mov (.tmp 0), 0⟩,
 ⟨some 19, none, .call (.func i_spec_RecoverFilm) [(.tmp 18)], 1⟩,
 ⟨some 17, none, .mov (.tmp 19), 3⟩,
 ⟨some 20, none, .extract (.tmp 17) 0, 7⟩,
 ⟨some 21, none, .extract (.tmp 17) 1, 7⟩,
 ⟨some 22, none, .extract (.tmp 17) 2, 7⟩,
 ⟨some 3, none, .alloc [(.int .i64 0), (.int .i64 0), (.bool false), (.slice none 0 0), (.slice none 0 0), (.slice none 0 0)], 0⟩,
 ⟨none, none, .store 6 (.tmp 3) (.tmp 20), 79⟩,
 ⟨some 4, none, .mov (.tmp 21), 223⟩,
 ⟨some 5, none, .mov (.tmp 22), 511⟩]
def laws_FnExactRecoverFilm_r4 (i_impl_RecoverFilm : FuncId) : List SOper := [
 ⟨some 24, none, .mov (.tmp 0), 0⟩,
 ⟨some 25, none, .call (.func i_impl_RecoverFilm) [(.tmp 24)], 1⟩,
 ⟨some 23, none, .mov (.tmp 25), 3⟩,
 ⟨some 26, none, .extract (.tmp 23) 0, 7⟩,
 ⟨some 27, none, .extract (.tmp 23) 1, 7⟩,
 ⟨some 28, none, .extract (.tmp 23) 2, 7⟩,
 ⟨some 6, none, .alloc [(.int .i64 0), (.int .i64 0), (.bool false), (.slice none 0 0), (.slice none 0 0), (.slice none 0 0)], 0⟩,
 ⟨none, none, .store 6 (.tmp 6) (.tmp 26), 79⟩,
 ⟨some 7, none, .mov (.tmp 27), 223⟩,
 ⟨some 8, none, .mov (.tmp 28), 511⟩]
def laws_FnExactRecoverFilm_r5 (i_laws_eqFilm : FuncId) : List SOper := [
 ⟨some 29, none, .loadN 6 (.tmp 6), 0⟩,
 ⟨some 30, none, .loadN 6 (.tmp 3), 0⟩,
 ⟨some 31, none, .call (.func i_laws_eqFilm) [(.tmp 29), (.tmp 30)], 3⟩,
 ⟨some 32, none, .un .not (.tmp 31), 7⟩,
 ⟨some 33, none, .mov (.tmp 32), 15⟩,
  ⟨(some 34), (some (33, false)), .mov (.tmp 7), 31⟩,
  ⟨(some 35), (some (33, false)), .mov (.tmp 4), 31⟩,
  ⟨(some 36), (some (33, false)), .bin .neq .other (.tmp 34) (.tmp 35), 127⟩,
 ⟨some 37, none, .pick (.tmp 33) (.const (.bool true)) (.tmp 36), 255⟩,
 ⟨some 38, none, .mov (.tmp 37), 511⟩,
  ⟨(some 39), (some (38, false)), .mov (.tmp 8), 1023⟩,
  ⟨(some 40), (some (38, false)), .mov (.tmp 5), 1023⟩,
  ⟨(some 41), (some (38, false)), .bin .neq .bool (.tmp 39) (.tmp 40), 4095⟩,
 ⟨some 42, none, .pick (.tmp 38) (.const (.bool true)) (.tmp 41), 8191⟩]
def laws_FnExactRecoverFilm_r6 : List SOper := [
 ⟨some 2, none, .mov (.const (.bool false)), 0⟩]
def laws_FnExactRecoverFilm_r7 : List SOper := [
 ⟨some 9, none, .mov (.const (.int .i64 1)), 0⟩]
def laws_FnExactRecoverFilm_r8 (i_laws_markFilm : FuncId) : List SOper := [
 ⟨some 43, none, .loadN 6 (.tmp 6), 0⟩,
 ⟨some 44, none, .mov (.tmp 9), 0⟩,
 ⟨some 45, none, .call (.func i_laws_markFilm) [(.tmp 43), (.tmp 44)], 3⟩,
 ⟨some 9, none, .mov (.tmp 45), 7⟩]
def laws_FnExactRecoverFilm_r9 : List SOper := [
 ⟨some 10, none, .mov (.const (.int .i64 1)), 0⟩]
def laws_FnExactRecoverFilm_r10 (i_laws_heldFilm : FuncId) : List SOper := [
 ⟨some 46, none, .loadN 6 (.tmp 6), 0⟩,
 ⟨some 47, none, .mov (.tmp 10), 0⟩,
 ⟨some 48, none, .call (.func i_laws_heldFilm) [(.tmp 46), (.tmp 47)], 3⟩,
 ⟨some 10, none, .mov (.tmp 48), 7⟩]
def laws_FnExactRecoverFilm_r11 : List SOper := [
 ⟨some 49, none, .mov (.tmp 10), 0⟩,
 ⟨some 50, none, .bin .lss .other (.tmp 49) (.const (.int .i64 0)), 1⟩]
def laws_FnExactRecoverFilm_r12 : List SOper := [
 ⟨some 2, none, .mov (.const (.bool false)), 0⟩]
def laws_FnExactRecoverFilm_r13 : List SOper := [
 ⟨some 51, none, .mov (.tmp 10), 0⟩,
 ⟨some 52, none, .mov (.tmp 9), 0⟩,
 ⟨some 53, none, .bin .neq .other (.tmp 51) (.tmp 52), 3⟩]
def laws_FnExactRecoverFilm_r14 : List SOper := [
 ⟨some 2, none, .mov (.const (.bool false)), 0⟩]
def laws_FnExactRecoverFilm_r15 (i_impl_RecoverFilm : FuncId) : List SOper := [
 ⟨some 55, none, .mov (.tmp 0), 0⟩,
 ⟨some 56, none, .call (.func i_impl_RecoverFilm) [(.tmp 55)], 1⟩,
 ⟨some 54, none, .mov (.tmp 56), 3⟩,
 ⟨some 57, none, .extract (.tmp 54) 0, 7⟩,
 ⟨some 58, none, .extract (.tmp 54) 1, 7⟩,
 ⟨some 59, none, .extract (.tmp 54) 2, 7⟩,
 ⟨some 11, none, .alloc [(.int .i64 0), (.int .i64 0), (.bool false), (.slice none 0 0), (.slice none 0 0), (.slice none 0 0)], 0⟩,
 ⟨none, none, .store 6 (.tmp 11) (.tmp 57), 79⟩,
 ⟨some 12, none, .mov (.tmp 58), 223⟩,
 ⟨some 13, none, .mov (.tmp 59), 511⟩]
def laws_FnExactRecoverFilm_r16 (i_laws_eqFilm : FuncId) : List SOper := [
 ⟨some 60, none, .loadN 6 (.tmp 11), 0⟩,
 ⟨some 61, none, .loadN 6 (.tmp 3), 0⟩,
 ⟨some 62, none, .call (.func i_laws_eqFilm) [(.tmp 60), (.tmp 61)], 3⟩,
 ⟨some 63, none, .un .not (.tmp 62), 7⟩,
 ⟨some 64, none, .mov (.tmp 63), 15⟩,
  ⟨(some 65), (some (64, false)), .mov (.tmp 12), 31⟩,
  ⟨(some 66), (some (64, false)), .mov (.tmp 4), 31⟩,
  ⟨(some 67), (some (64, false)), .bin .neq .other (.tmp 65) (.tmp 66), 127⟩,
 ⟨some 68, none, .pick (.tmp 64) (.const (.bool true)) (.tmp 67), 255⟩,
 ⟨some 69, none, .mov (.tmp 68), 511⟩,
  ⟨(some 70), (some (69, false)), .mov (.tmp 13), 1023⟩,
  ⟨(some 71), (some (69, false)), .mov (.tmp 5), 1023⟩,
  ⟨(some 72), (some (69, false)), .bin .neq .bool (.tmp 70) (.tmp 71), 4095⟩,
 ⟨some 73, none, .pick (.tmp 69) (.const (.bool true)) (.tmp 72), 8191⟩]
def laws_FnExactRecoverFilm_r17 : List SOper := [
 ⟨some 2, none, .mov (.const (.bool false)), 0⟩]
def laws_FnExactRecoverFilm_r18 : List SOper := [
 ⟨some 10, none, .mov (.const (.int .i64 1)), 0⟩]
def laws_FnExactRecoverFilm_r19 (i_laws_heldFilm : FuncId) : List SOper := [
 ⟨some 74, none, .loadN 6 (.tmp 6), 0⟩,
 ⟨some 75, none, .mov (.tmp 10), 0⟩,
 ⟨some 76, none, .call (.func i_laws_heldFilm) [(.tmp 74), (.tmp 75)], 3⟩,
 ⟨some 10, none, .mov (.tmp 76), 7⟩]
def laws_FnExactRecoverFilm_r20 : List SOper := [
 ⟨some 77, none, .mov (.tmp 10), 0⟩,
 ⟨some 78, none, .bin .lss .other (.tmp 77) (.const (.int .i64 0)), 1⟩]
def laws_FnExactRecoverFilm_r21 : List SOper := [
 ⟨some 2, none, .mov (.const (.bool false)), 0⟩]
def laws_FnExactRecoverFilm_r22 : List SOper := [
 ⟨some 79, none, .mov (.tmp 10), 0⟩,
 ⟨some 80, none, .mov (.tmp 9), 0⟩,
 ⟨some 81, none, .bin .neq .other (.tmp 79) (.tmp 80), 3⟩]
def laws_FnExactRecoverFilm_r23 : List SOper := [
 ⟨some 2, none, .mov (.const (.bool false)), 0⟩]
def laws_FnExactRecoverFilm_r24 : List SOper := [
 ⟨some 2, none, .mov (.const (.bool true)), 0⟩]
def laws_FnExactRecoverFilm (i_spec_RecoverFilm i_impl_RecoverFilm i_laws_eqFilm i_laws_markFilm i_laws_heldFilm : FuncId) : SFunc := ⟨82, [.tmp 2], (.kp [0] (.seq (.region laws_FnExactRecoverFilm_r0 false) (.kp [0] (.seq (.seq (.region laws_FnExactRecoverFilm_r1 false) (.kp [0,16] (.cond (.tmp 16) (.seq (.region laws_FnExactRecoverFilm_r2 false) .ret) .skip))) (.kp [0] (.seq (.region (laws_FnExactRecoverFilm_r3 i_spec_RecoverFilm) false) (.kp [0,3,4,5] (.seq (.region (laws_FnExactRecoverFilm_r4 i_impl_RecoverFilm) false) (.kp [0,3,4,5,6,7,8] (.seq (.seq (.region (laws_FnExactRecoverFilm_r5 i_laws_eqFilm) false) (.kp [0,3,4,5,6,42] (.cond (.tmp 42) (.seq (.region laws_FnExactRecoverFilm_r6 false) .ret) .skip))) (.kp [0,3,4,5,6] (.seq (.region laws_FnExactRecoverFilm_r7 false) (.kp [0,3,4,5,6,9] (.seq (.region (laws_FnExactRecoverFilm_r8 i_laws_markFilm) false) (.kp [0,3,4,5,6,9] (.seq (.region laws_FnExactRecoverFilm_r9 false) (.kp [0,3,4,5,6,9,10] (.seq (.region (laws_FnExactRecoverFilm_r10 i_laws_heldFilm) false) (.kp [0,3,4,5,6,9,10] (.seq (.seq (.region laws_FnExactRecoverFilm_r11 false) (.kp [0,3,4,5,6,9,10,50] (.cond (.tmp 50) (.seq (.region laws_FnExactRecoverFilm_r12 false) .ret) .skip))) (.kp [0,3,4,5,6,9,10] (.seq (.seq (.region laws_FnExactRecoverFilm_r13 false) (.kp [0,3,4,5,6,9,53] (.cond (.tmp 53) (.seq (.region laws_FnExactRecoverFilm_r14 false) .ret) .skip))) (.kp [0,3,4,5,6,9] (.seq (.region (laws_FnExactRecoverFilm_r15 i_impl_RecoverFilm) false) (.kp [3,4,5,6,9,11,12,13] (.seq (.seq (.region (laws_FnExactRecoverFilm_r16 i_laws_eqFilm) false) (.kp [6,9,73] (.cond (.tmp 73) (.seq (.region laws_FnExactRecoverFilm_r17 false) .ret) .skip))) (.kp [6,9] (.seq (.region laws_FnExactRecoverFilm_r18 false) (.kp [6,9,10] (.seq (.region (laws_FnExactRecoverFilm_r19 i_laws_heldFilm) false) (.kp [9,10] (.seq (.seq (.region laws_FnExactRecoverFilm_r20 false) (.kp [9,10,78] (.cond (.tmp 78) (.seq (.region laws_FnExactRecoverFilm_r21 false) .ret) .skip))) (.kp [9,10] (.seq (.seq (.region laws_FnExactRecoverFilm_r22 false) (.kp [81] (.cond (.tmp 81) (.seq (.region laws_FnExactRecoverFilm_r23 false) .ret) .skip))) (.kp [] (.seq (.region laws_FnExactRecoverFilm_r24 false) .ret))))))))))))))))))))))))))))))))))))⟩


def laws_FnExactRecoverFilm_ok (c : Contract) : Prop := AlwaysTrue [strK] c
theorem rowRecoverFilm_f {C : Ctab} {i1 i2 i3 i4 i5 : FuncId} {c1 c2 c3 c4 c5 : Contract} (h1 : Has C i1 c1 spec_RecoverFilm_ok) (h2 : Has C i2 c2 impl_RecoverFilm_ok) (h3 : Has C i3 c3 laws_eqFilm_ok) (h4 : HasW C i4 c4 laws_markFilm_ok) (h5 : Has C i5 c5 laws_heldFilm_ok) (σ : Heap) (t0 : List UInt8) (hz0 : t0.length ≤ 1048576) 
    (hok : rcOk t0 = false) : Ret (gcC C (laws_FnExactRecoverFilm i1 i2 i3 i4 i5) true) [.string (str t0)] σ fun v _ => v = .bool true := by
  have L1 : ∀ σ, Ret c1 [.string (str t0)] σ fun v σ' => FmR3 (rcOk t0) σ σ' v (byAt t0 4) (byAt t0 5) (shWr t0) (shSp t0) (shLo t0) (rcAll t0).1 (rcAll t0).2 := fun σ => h1.ok σ t0 hz0
  have L2 : ∀ σ, Ret c2 [.string (str t0)] σ fun v σ' => FmR3N (rcOk t0) σ σ' v (byAt t0 4) (byAt t0 5) (shWr t0) (shSp t0) (shLo t0) (rcAll t0).1 (rcAll t0).2 := fun σ => h2.ok σ t0 hz0
  obtain ⟨gn1, gn2⟩ : (shSp t0).length ≤ 1048576 ∧ (shLo t0).length ≤ 1048576 := sh_lens t0
  obtain ⟨gfit, gsum⟩ := rcAll_fit t0
  generalize byAt t0 4 = w0 at L1 L2
  generalize byAt t0 5 = h0_ at L1 L2
  generalize shWr t0 = wr0 at L1 L2
  generalize shSp t0 = sp0 at L1 L2 gn1
  generalize shLo t0 = lo0 at L1 L2 gn2
  generalize (rcAll t0).2 = n0 at L1 L2
  refine ret_gc rfl rfl ?_
  repeat' (first | refine ff ?_ | ((first | refine sR ?_ ?_ | refine sC ?_ ?_) <;> (intro hb; (try rw [hb]); (try simp only [bb] at hb); (try (exfalso; first | omega | exact hb trivial)))) | (apply endS trivial; rotate_left; (· exact eva); (· rfl); try refine ⟨?_, rfl⟩) | fail)
  apply EvR.aCall h1.at_; (· exact eva); (· exact L1 _); rintro _ _ hres
  obtain ⟨⟨τ1, rfl⟩, rfl⟩ := hres.f hok
  clear hres
  refine EvR.base2 fun A1 S1 f_1 e_1 q_1 => ?_
  have v_1 : Pre σ A1 := by rw [f_1]; exact (Pre.refl _).app _
  refine EvR.nrm ?_
  repeat' (first | refine ff ?_ | ((first | refine sR ?_ ?_ | refine sC ?_ ?_) <;> (intro hb; (try rw [hb]); (try simp only [bb] at hb); (try (exfalso; first | omega | exact hb trivial)))) | (apply endS trivial; rotate_left; (· exact eva); (· rfl); try refine ⟨?_, rfl⟩) | fail)
  refine EvR.base fun S2 f_2 => ?_
  have v_2 : Pre S1 S2 := by rw [f_2]; exact (Pre.refl _).app _
  have pt_spec : PtAt S2 (S1.length + 0) 0 [.int .i64 0, .int .i64 0, .bool false, .slice none 0 0, .slice none 0 0, .slice none 0 0] := by rw [f_2]; exact PtAt.own rfl
  refine EvR.nrm ?_
  apply EvR.aCall h2.at_; (· exact eva); (· exact L2 _); rintro _ _ hres
  obtain ⟨⟨τ3, rfl⟩, rfl⟩ := hres.f hok
  clear hres
  refine EvR.base2 fun A3 S3 f_3 e_3 q_3 => ?_
  have v_3 : Pre S2 A3 := by rw [f_3]; exact (Pre.refl _).app _
  have g_spec_3 : PtAt S3 (S1.length + 0) 0 [.int .i64 0, .int .i64 0, .bool false, .slice none 0 0, .slice none 0 0, .slice none 0 0] := pt_spec.pre (v_3.trans q_3)
  refine EvR.nrm ?_
  repeat' (first | refine ff ?_ | ((first | refine sR ?_ ?_ | refine sC ?_ ?_) <;> (intro hb; (try rw [hb]); (try simp only [bb] at hb); (try (exfalso; first | omega | exact hb trivial)))) | (apply endS trivial; rotate_left; (· exact eva); (· rfl); try refine ⟨?_, rfl⟩) | fail)
  (apply EvR.aCall h3.at_; (· exact eva); (· exact  h3.ok _ 0 0 false _ _ _ _ _ _ [] [] [] (noShR _) (noFlsR _) (noShR _) (noFlsR _) (by simp) (by simp) noFits); (rintro _ _ ⟨rfl, rfl⟩; refine EvR.nrm ?_))
  repeat' (first | refine ff ?_ | ((first | refine sR ?_ ?_ | refine sC ?_ ?_) <;> (intro hb; (try rw [hb]); (try simp only [bb] at hb); (try (exfalso; first | omega | exact hb trivial)))) | (apply endS trivial; rotate_left; (· exact eva); (· rfl); try refine ⟨?_, rfl⟩) | fail)
  apply EvR.aCall h4.at_; (· exact eva); (· exact h4.ok.1.1 _ 1); rintro _ _ ⟨rfl, t4, rfl⟩
  refine EvR.base2 fun A4 S4 f_4 e_4 q_4 => ?_
  have v_4 : Pre S3 A4 := by rw [f_4]; exact (Pre.refl _).app _
  have pt_res : PtAt A4 (S3.length + 0) 0 [.int .i64 0, .int .i64 0, .bool false, .slice none 0 0, .slice none 0 0, .slice none 0 0] := by rw [f_4]; exact PtAt.own rfl
  clear g_spec_3
  have g_spec_4 : PtAt S4 (S1.length + 0) 0 [.int .i64 0, .int .i64 0, .bool false, .slice none 0 0, .slice none 0 0, .slice none 0 0] := pt_spec.pre (v_3.trans (q_3.trans (v_4.trans q_4)))
  have g_res_4 : PtAt S4 (S3.length + 0) 0 [.int .i64 0, .int .i64 0, .bool false, .slice none 0 0, .slice none 0 0, .slice none 0 0] := pt_res.pre q_4
  refine EvR.nrm ?_
  repeat' (first | refine ff ?_ | ((first | refine sR ?_ ?_ | refine sC ?_ ?_) <;> (intro hb; (try rw [hb]); (try simp only [bb] at hb); (try (exfalso; first | omega | exact hb trivial)))) | (apply endS trivial; rotate_left; (· exact eva); (· rfl); try refine ⟨?_, rfl⟩) | fail)
  (apply EvR.aCall h5.at_; (· exact eva); (· exact  h5.ok.1.1 _ 1 (by omega) (by omega)); (rintro _ _ ⟨rfl, rfl⟩; refine EvR.nrm ?_))
  repeat' (first | refine ff ?_ | ((first | refine sR ?_ ?_ | refine sC ?_ ?_) <;> (intro hb; (try rw [hb]); (try simp only [bb] at hb); (try (exfalso; first | omega | exact hb trivial)))) | (apply endS trivial; rotate_left; (· exact eva); (· rfl); try refine ⟨?_, rfl⟩) | fail)
  apply EvR.aCall h2.at_; (· exact eva); (· exact L2 _); rintro _ _ hres
  obtain ⟨⟨τ5, rfl⟩, rfl⟩ := hres.f hok
  clear hres
  refine EvR.base2 fun A5 S5 f_5 e_5 q_5 => ?_
  have v_5 : Pre S4 A5 := by rw [f_5]; exact (Pre.refl _).app _
  clear g_spec_4 g_res_4
  have g_spec_5 : PtAt S5 (S1.length + 0) 0 [.int .i64 0, .int .i64 0, .bool false, .slice none 0 0, .slice none 0 0, .slice none 0 0] := pt_spec.pre (v_3.trans (q_3.trans (v_4.trans (q_4.trans (v_5.trans q_5)))))
  have g_res_5 : PtAt S5 (S3.length + 0) 0 [.int .i64 0, .int .i64 0, .bool false, .slice none 0 0, .slice none 0 0, .slice none 0 0] := pt_res.pre (q_4.trans (v_5.trans q_5))
  refine EvR.nrm ?_
  repeat' (first | refine ff ?_ | ((first | refine sR ?_ ?_ | refine sC ?_ ?_) <;> (intro hb; (try rw [hb]); (try simp only [bb] at hb); (try (exfalso; first | omega | exact hb trivial)))) | (apply endS trivial; rotate_left; (· exact eva); (· rfl); try refine ⟨?_, rfl⟩) | fail)
  (apply EvR.aCall h3.at_; (· exact eva); (· exact  h3.ok _ 0 0 false _ _ _ _ _ _ [] [] [] (noShR _) (noFlsR _) (noShR _) (noFlsR _) (by simp) (by simp) noFits); (rintro _ _ ⟨rfl, rfl⟩; refine EvR.nrm ?_))
  repeat' (first | refine ff ?_ | ((first | refine sR ?_ ?_ | refine sC ?_ ?_) <;> (intro hb; (try rw [hb]); (try simp only [bb] at hb); (try (exfalso; first | omega | exact hb trivial)))) | (apply endS trivial; rotate_left; (· exact eva); (· rfl); try refine ⟨?_, rfl⟩) | fail)
  (apply EvR.aCall h5.at_; (· exact eva); (· exact  h5.ok.1.1 _ 1 (by omega) (by omega)); (rintro _ _ ⟨rfl, rfl⟩; refine EvR.nrm ?_))
  repeat' (first | refine ff ?_ | ((first | refine sR ?_ ?_ | refine sC ?_ ?_) <;> (intro hb; (try rw [hb]); (try simp only [bb] at hb); (try (exfalso; first | omega | exact hb trivial)))) | (apply endS trivial; rotate_left; (· exact eva); (· rfl); try refine ⟨?_, rfl⟩) | fail)
  apply endK (v_1.trans (q_1.trans (v_2.trans (v_3.trans (q_3.trans (v_4.trans (q_4.trans (v_5.trans q_5))))))))
  · trivial
  · rfl
  · exact eva
  · rfl
theorem rowRecoverFilm_t {C : Ctab} {i1 i2 i3 i4 i5 : FuncId} {c1 c2 c3 c4 c5 : Contract} (h1 : Has C i1 c1 spec_RecoverFilm_ok) (h2 : Has C i2 c2 impl_RecoverFilm_ok) (h3 : Has C i3 c3 laws_eqFilm_ok) (h4 : HasW C i4 c4 laws_markFilm_ok) (h5 : Has C i5 c5 laws_heldFilm_ok) (σ : Heap) (t0 : List UInt8) (hz0 : t0.length ≤ 1048576) 
    (hok : rcOk t0 = true) (hne : (rcAll t0).1 ≠ []) : Ret (gcC C (laws_FnExactRecoverFilm i1 i2 i3 i4 i5) true) [.string (str t0)] σ fun v _ => v = .bool true := by
  have L1 : ∀ σ, Ret c1 [.string (str t0)] σ fun v σ' => FmR3 (rcOk t0) σ σ' v (byAt t0 4) (byAt t0 5) (shWr t0) (shSp t0) (shLo t0) (rcAll t0).1 (rcAll t0).2 := fun σ => h1.ok σ t0 hz0
  have L2 : ∀ σ, Ret c2 [.string (str t0)] σ fun v σ' => FmR3N (rcOk t0) σ σ' v (byAt t0 4) (byAt t0 5) (shWr t0) (shSp t0) (shLo t0) (rcAll t0).1 (rcAll t0).2 := fun σ => h2.ok σ t0 hz0
  obtain ⟨gn1, gn2⟩ : (shSp t0).length ≤ 1048576 ∧ (shLo t0).length ≤ 1048576 := sh_lens t0
  obtain ⟨gfit, gsum⟩ := rcAll_fit t0
  generalize byAt t0 4 = w0 at L1 L2
  generalize byAt t0 5 = h0_ at L1 L2
  generalize shWr t0 = wr0 at L1 L2
  generalize shSp t0 = sp0 at L1 L2 gn1
  generalize shLo t0 = lo0 at L1 L2 gn2
  generalize (rcAll t0).2 = n0 at L1 L2
  obtain ⟨gs, hgs⟩ : ∃ gs, gs = (rcAll t0).1 := ⟨_, rfl⟩
  rw [← hgs] at hne
  rw [← hgs] at gfit gsum
  refine ret_gc rfl rfl ?_
  repeat' (first | refine ff ?_ | ((first | refine sR ?_ ?_ | refine sC ?_ ?_) <;> (intro hb; (try rw [hb]); (try simp only [bb] at hb); (try (exfalso; first | omega | exact hb trivial)))) | (apply endS trivial; rotate_left; (· exact eva); (· rfl); try refine ⟨?_, rfl⟩) | fail)
  apply EvR.aCall h1.at_; (· exact eva); (· exact L1 _); rintro _ _ hres
  obtain ⟨τ1, s1, l1, b1, R1, rfl, rfl, o1⟩ := hres.t hok
  clear hres
  rw [← hgs] at o1 ⊢
  refine EvR.base2 fun A1 S1 f_1 e_1 q_1 => ?_
  rw [← e_1, ← f_1] at o1
  have v_1 : Pre σ A1 := by rw [f_1]; exact (Pre.refl _).app _
  refine EvR.nrm ?_
  repeat' (first | refine ff ?_ | ((first | refine sR ?_ ?_ | refine sC ?_ ?_) <;> (intro hb; (try rw [hb]); (try simp only [bb] at hb); (try (exfalso; first | omega | exact hb trivial)))) | (apply endS trivial; rotate_left; (· exact eva); (· rfl); try refine ⟨?_, rfl⟩) | fail)
  refine EvR.base fun S2 f_2 => ?_
  have v_2 : Pre S1 S2 := by rw [f_2]; exact (Pre.refl _).app _
  have pt_spec : PtAt S2 (S1.length + 0) 0 [.int .i64 w0, .int .i64 h0_, .bool wr0, slV s1 sp0.length, slV l1 lo0.length, slV b1 gs.length] := by rw [f_2]; exact PtAt.own rfl
  refine EvR.nrm ?_
  apply EvR.aCall h2.at_; (· exact eva); (· exact L2 _); rintro _ _ hres
  obtain ⟨τ3, s3, l3, b3, R3, rfl, rfl, o3⟩ := hres.t hok (by rw [← hgs]; exact hne)
  clear hres
  rw [← hgs] at o3 ⊢
  refine EvR.base2 fun A3 S3 f_3 e_3 q_3 => ?_
  rw [← e_3, ← f_3] at o3
  have v_3 : Pre S2 A3 := by rw [f_3]; exact (Pre.refl _).app _
  have g_spec_3 : PtAt S3 (S1.length + 0) 0 [.int .i64 w0, .int .i64 h0_, .bool wr0, slV s1 sp0.length, slV l1 lo0.length, slV b1 gs.length] := pt_spec.pre (v_3.trans q_3)
  refine EvR.nrm ?_
  repeat' (first | refine ff ?_ | ((first | refine sR ?_ ?_ | refine sC ?_ ?_) <;> (intro hb; (try rw [hb]); (try simp only [bb] at hb); (try (exfalso; first | omega | exact hb trivial)))) | (apply endS trivial; rotate_left; (· exact eva); (· rfl); try refine ⟨?_, rfl⟩) | fail)
  (apply EvR.aCall h3.at_; (· exact eva); (· exact  h3.ok _ w0 h0_ wr0 _ _ _ _ _ _ sp0 lo0 gs ((o3.pre (Pre.refl S3)).ext _).sheet ((o3.pre (Pre.refl S3)).ext _).fls ((o1.pre (v_2.trans (v_3.trans q_3))).ext _).sheet ((o1.pre (v_2.trans (v_3.trans q_3))).ext _).fls gn1 gn2 gfit); (rintro _ _ ⟨rfl, rfl⟩; refine EvR.nrm ?_))
  repeat' (first | refine ff ?_ | ((first | refine sR ?_ ?_ | refine sC ?_ ?_) <;> (intro hb; (try rw [hb]); (try simp only [bb] at hb); (try (exfalso; first | omega | exact hb trivial)))) | (apply endS trivial; rotate_left; (· exact eva); (· rfl); try refine ⟨?_, rfl⟩) | fail)
  apply EvR.aCall h4.at_; (· exact eva); (· exact h4.ok.2 _ w0 h0_ wr0 A3.length s3 l3 b3 R3 sp0 lo0 gs 1 ((o3.pre (Pre.refl S3)).ext _) gn1 gn2 gfit.1 (small_of o3.con gfit) (by rw [tot_sum o3.con]; omega) (by omega) (by omega)); rintro _ _ ⟨rfl, t4, rfl⟩
  refine EvR.baseM fun A4 S4 f_4 e_4 q_4 => ?_
  have v_4 : Pre S3 A4 := by rw [f_4]; exact (Pre.refl _).app _
  obtain ⟨m1_, m2_⟩ := (o3.pre v_4).marked 1
  have len_4 := v_3.len
  have y_4 : Pre S2 S4 := Pre.trans (Pre.mark (v_3.trans (q_3.trans v_4)) 1 fun p hp => by have := o3.lows p hp; omega) q_4
  have tops_4 := o3.tops
  have M1 := q_4.get m1_
  have M2 := fun p hp => q_4.get (m2_ p hp)
  obtain ⟨T4, eT4⟩ : ∃ T : Nat, T = tot ((s3, sp0) :: (l3, lo0) :: R3) := ⟨_, rfl⟩
  have bT4 : T4 ≤ 8388608 := by rw [eT4]; simp only [tot]; rw [tot_sum o3.con]; omega
  rw [← eT4]
  have pt_res : PtAt A4 (S3.length + 0) 0 [.int .i64 w0, .int .i64 h0_, .bool wr0, slV s3 sp0.length, slV l3 lo0.length, slV b3 gs.length] := by rw [f_4]; exact PtAt.own rfl
  have g_spec_4 : PtAt S4 (S1.length + 0) 0 [.int .i64 w0, .int .i64 h0_, .bool wr0, slV s1 sp0.length, slV l1 lo0.length, slV b1 gs.length] := pt_spec.pre ((Pre.refl S2).trans y_4)
  have g_res_4 : PtAt S4 (S3.length + 0) 0 [.int .i64 w0, .int .i64 h0_, .bool wr0, slV s3 sp0.length, slV l3 lo0.length, slV b3 gs.length] := pt_res.same (mark_at q_4 tops_4 (by have := (Pre.refl S3).len; omega) (Pre.refl A4) pt_res.lt)
  clear g_spec_3
  refine EvR.nrm ?_
  repeat' (first | refine ff ?_ | ((first | refine sR ?_ ?_ | refine sC ?_ ?_) <;> (intro hb; (try rw [hb]); (try simp only [bb] at hb); (try (exfalso; first | omega | exact hb trivial)))) | (apply endS trivial; rotate_left; (· exact eva); (· rfl); try refine ⟨?_, rfl⟩) | fail)
  (apply EvR.aCall h5.at_; (· exact eva); (· exact  h5.ok.2 _ w0 h0_ wr0 s3 l3 b3 gs.length R3 sp0 lo0 1 ((Pre.app (Pre.refl S4) _).get M1) (fun p hp => (Pre.app (Pre.refl S4) _).get (M2 p hp)) o3.flds.len gn1 gn2 gfit.1 (small_of o3.con gfit) (by rw [tot_sum o3.con]; omega) (by omega) (by omega)); (rintro _ _ ⟨rfl, rfl⟩; refine EvR.nrm ?_))
  rw [← eT4]
  repeat' (first | refine ff ?_ | ((first | refine sR ?_ ?_ | refine sC ?_ ?_) <;> (intro hb; (try rw [hb]); (try simp only [bb] at hb); (try (exfalso; first | omega | exact hb trivial)))) | (apply endS trivial; rotate_left; (· exact eva); (· rfl); try refine ⟨?_, rfl⟩) | fail)
  apply EvR.aCall h2.at_; (· exact eva); (· exact L2 _); rintro _ _ hres
  obtain ⟨τ5, s5, l5, b5, R5, rfl, rfl, o5⟩ := hres.t hok (by rw [← hgs]; exact hne)
  clear hres
  rw [← hgs] at o5 ⊢
  refine EvR.base2 fun A5 S5 f_5 e_5 q_5 => ?_
  rw [← e_5, ← f_5] at o5
  have v_5 : Pre S4 A5 := by rw [f_5]; exact (Pre.refl _).app _
  clear g_spec_4
  have g_spec_5 : PtAt S5 (S1.length + 0) 0 [.int .i64 w0, .int .i64 h0_, .bool wr0, slV s1 sp0.length, slV l1 lo0.length, slV b1 gs.length] := pt_spec.pre (y_4.trans (v_5.trans q_5))
  have g_res_5 : PtAt S5 (S3.length + 0) 0 [.int .i64 w0, .int .i64 h0_, .bool wr0, slV s3 sp0.length, slV l3 lo0.length, slV b3 gs.length] := g_res_4.pre (v_5.trans q_5)
  refine EvR.nrm ?_
  repeat' (first | refine ff ?_ | ((first | refine sR ?_ ?_ | refine sC ?_ ?_) <;> (intro hb; (try rw [hb]); (try simp only [bb] at hb); (try (exfalso; first | omega | exact hb trivial)))) | (apply endS trivial; rotate_left; (· exact eva); (· rfl); try refine ⟨?_, rfl⟩) | fail)
  (apply EvR.aCall h3.at_; (· exact eva); (· exact  h3.ok _ w0 h0_ wr0 _ _ _ _ _ _ sp0 lo0 gs ((o5.pre (Pre.refl S5)).ext _).sheet ((o5.pre (Pre.refl S5)).ext _).fls ((o1.pre (v_2.trans (y_4.trans (v_5.trans q_5)))).ext _).sheet ((o1.pre (v_2.trans (y_4.trans (v_5.trans q_5)))).ext _).fls gn1 gn2 gfit); (rintro _ _ ⟨rfl, rfl⟩; refine EvR.nrm ?_))
  repeat' (first | refine ff ?_ | ((first | refine sR ?_ ?_ | refine sC ?_ ?_) <;> (intro hb; (try rw [hb]); (try simp only [bb] at hb); (try (exfalso; first | omega | exact hb trivial)))) | (apply endS trivial; rotate_left; (· exact eva); (· rfl); try refine ⟨?_, rfl⟩) | fail)
  (apply EvR.aCall h5.at_; (· exact eva); (· exact  h5.ok.2 _ w0 h0_ wr0 s3 l3 b3 gs.length R3 sp0 lo0 1 ((Pre.app (v_5.trans q_5) _).get M1) (fun p hp => (Pre.app (v_5.trans q_5) _).get (M2 p hp)) o3.flds.len gn1 gn2 gfit.1 (small_of o3.con gfit) (by rw [tot_sum o3.con]; omega) (by omega) (by omega)); (rintro _ _ ⟨rfl, rfl⟩; refine EvR.nrm ?_))
  rw [← eT4]
  repeat' (first | refine ff ?_ | ((first | refine sR ?_ ?_ | refine sC ?_ ?_) <;> (intro hb; (try rw [hb]); (try simp only [bb] at hb); (try (exfalso; first | omega | exact hb trivial)))) | (apply endS trivial; rotate_left; (· exact eva); (· rfl); try refine ⟨?_, rfl⟩) | fail)
  apply endK (v_1.trans (q_1.trans (v_2.trans (y_4.trans (v_5.trans q_5)))))
  · trivial
  · rfl
  · exact eva
  · rfl
theorem rowRecoverFilm_n {C : Ctab} {i1 i2 i3 i4 i5 : FuncId} {c1 c2 c3 c4 c5 : Contract} (h1 : Has C i1 c1 spec_RecoverFilm_ok) (h2 : Has C i2 c2 impl_RecoverFilm_ok) (h3 : Has C i3 c3 laws_eqFilm_ok) (h4 : HasW C i4 c4 laws_markFilm_ok) (h5 : Has C i5 c5 laws_heldFilm_ok) (σ : Heap) (t0 : List UInt8) (hz0 : t0.length ≤ 1048576) 
    (hok : rcOk t0 = true) (hne : (rcAll t0).1 = []) : Ret (gcC C (laws_FnExactRecoverFilm i1 i2 i3 i4 i5) true) [.string (str t0)] σ fun v _ => v = .bool true := by
  have L1 : ∀ σ, Ret c1 [.string (str t0)] σ fun v σ' => FmR3 (rcOk t0) σ σ' v (byAt t0 4) (byAt t0 5) (shWr t0) (shSp t0) (shLo t0) (rcAll t0).1 (rcAll t0).2 := fun σ => h1.ok σ t0 hz0
  have L2 : ∀ σ, Ret c2 [.string (str t0)] σ fun v σ' => FmR3N (rcOk t0) σ σ' v (byAt t0 4) (byAt t0 5) (shWr t0) (shSp t0) (shLo t0) (rcAll t0).1 (rcAll t0).2 := fun σ => h2.ok σ t0 hz0
  obtain ⟨gn1, gn2⟩ : (shSp t0).length ≤ 1048576 ∧ (shLo t0).length ≤ 1048576 := sh_lens t0
  obtain ⟨gfit, gsum⟩ := rcAll_fit t0
  generalize byAt t0 4 = w0 at L1 L2
  generalize byAt t0 5 = h0_ at L1 L2
  generalize shWr t0 = wr0 at L1 L2
  generalize shSp t0 = sp0 at L1 L2 gn1
  generalize shLo t0 = lo0 at L1 L2 gn2
  generalize (rcAll t0).2 = n0 at L1 L2
  obtain ⟨gs, hgs⟩ : ∃ gs, gs = (rcAll t0).1 := ⟨_, rfl⟩
  rw [← hgs] at hne
  have nfls : ∀ S, FlsR S (.slice none 0 0) gs := fun S => by rw [hne]; exact noFlsR S
  rw [← hgs] at gfit gsum
  refine ret_gc rfl rfl ?_
  repeat' (first | refine ff ?_ | ((first | refine sR ?_ ?_ | refine sC ?_ ?_) <;> (intro hb; (try rw [hb]); (try simp only [bb] at hb); (try (exfalso; first | omega | exact hb trivial)))) | (apply endS trivial; rotate_left; (· exact eva); (· rfl); try refine ⟨?_, rfl⟩) | fail)
  apply EvR.aCall h1.at_; (· exact eva); (· exact L1 _); rintro _ _ hres
  obtain ⟨τ1, s1, l1, b1, R1, rfl, rfl, o1⟩ := hres.t hok
  clear hres
  rw [← hgs] at o1 ⊢
  refine EvR.base2 fun A1 S1 f_1 e_1 q_1 => ?_
  rw [← e_1, ← f_1] at o1
  have v_1 : Pre σ A1 := by rw [f_1]; exact (Pre.refl _).app _
  refine EvR.nrm ?_
  repeat' (first | refine ff ?_ | ((first | refine sR ?_ ?_ | refine sC ?_ ?_) <;> (intro hb; (try rw [hb]); (try simp only [bb] at hb); (try (exfalso; first | omega | exact hb trivial)))) | (apply endS trivial; rotate_left; (· exact eva); (· rfl); try refine ⟨?_, rfl⟩) | fail)
  refine EvR.base fun S2 f_2 => ?_
  have v_2 : Pre S1 S2 := by rw [f_2]; exact (Pre.refl _).app _
  have pt_spec : PtAt S2 (S1.length + 0) 0 [.int .i64 w0, .int .i64 h0_, .bool wr0, slV s1 sp0.length, slV l1 lo0.length, slV b1 gs.length] := by rw [f_2]; exact PtAt.own rfl
  refine EvR.nrm ?_
  apply EvR.aCall h2.at_; (· exact eva); (· exact L2 _); rintro _ _ hres
  obtain ⟨τ3, s3, l3, rfl, rfl, o3⟩ := hres.n hok (by rw [← hgs]; exact hne)
  clear hres
  refine EvR.base2 fun A3 S3 f_3 e_3 q_3 => ?_
  rw [← e_3, ← f_3] at o3
  have v_3 : Pre S2 A3 := by rw [f_3]; exact (Pre.refl _).app _
  have g_spec_3 : PtAt S3 (S1.length + 0) 0 [.int .i64 w0, .int .i64 h0_, .bool wr0, slV s1 sp0.length, slV l1 lo0.length, slV b1 gs.length] := pt_spec.pre (v_3.trans q_3)
  refine EvR.nrm ?_
  repeat' (first | refine ff ?_ | ((first | refine sR ?_ ?_ | refine sC ?_ ?_) <;> (intro hb; (try rw [hb]); (try simp only [bb] at hb); (try (exfalso; first | omega | exact hb trivial)))) | (apply endS trivial; rotate_left; (· exact eva); (· rfl); try refine ⟨?_, rfl⟩) | fail)
  (apply EvR.aCall h3.at_; (· exact eva); (· exact  h3.ok _ w0 h0_ wr0 _ _ _ _ _ _ sp0 lo0 gs ((o3.pre (Pre.refl S3)).ext _).sheet (nfls _) ((o1.pre (v_2.trans (v_3.trans q_3))).ext _).sheet ((o1.pre (v_2.trans (v_3.trans q_3))).ext _).fls gn1 gn2 gfit); (rintro _ _ ⟨rfl, rfl⟩; refine EvR.nrm ?_))
  repeat' (first | refine ff ?_ | ((first | refine sR ?_ ?_ | refine sC ?_ ?_) <;> (intro hb; (try rw [hb]); (try simp only [bb] at hb); (try (exfalso; first | omega | exact hb trivial)))) | (apply endS trivial; rotate_left; (· exact eva); (· rfl); try refine ⟨?_, rfl⟩) | fail)
  apply EvR.aCall h4.at_; (· exact eva); (· exact h4.ok.1.2 _ w0 h0_ wr0 A3.length s3 l3 sp0 lo0 1 ((o3.pre (Pre.refl S3)).ext _).inv gn1 gn2 (by omega) (by omega)); rintro _ _ ⟨rfl, t4, rfl⟩
  refine EvR.baseM fun A4 S4 f_4 e_4 q_4 => ?_
  have v_4 : Pre S3 A4 := by rw [f_4]; exact (Pre.refl _).app _
  have m2_ := (o3.pre v_4).marked 1
  have len_4 := v_3.len
  have y_4 : Pre S2 S4 := Pre.trans (Pre.mark (v_3.trans (q_3.trans v_4)) 1 fun p hp => by have := o3.lows p hp; omega) q_4
  have tops_4 := o3.tops
  have M2 := fun p hp => q_4.get (m2_ p hp)
  obtain ⟨T4, eT4⟩ : ∃ T : Nat, T = tot [(s3, sp0), (l3, lo0)] := ⟨_, rfl⟩
  have bT4 : T4 ≤ 8388608 := by rw [eT4]; simp only [tot]; omega
  rw [← eT4]
  have pt_res : PtAt A4 (S3.length + 0) 0 [.int .i64 w0, .int .i64 h0_, .bool wr0, slV s3 sp0.length, slV l3 lo0.length, .slice none 0 0] := by rw [f_4]; exact PtAt.own rfl
  have g_spec_4 : PtAt S4 (S1.length + 0) 0 [.int .i64 w0, .int .i64 h0_, .bool wr0, slV s1 sp0.length, slV l1 lo0.length, slV b1 gs.length] := pt_spec.pre ((Pre.refl S2).trans y_4)
  have g_res_4 : PtAt S4 (S3.length + 0) 0 [.int .i64 w0, .int .i64 h0_, .bool wr0, slV s3 sp0.length, slV l3 lo0.length, .slice none 0 0] := pt_res.same (mark_at q_4 tops_4 (by have := (Pre.refl S3).len; omega) (Pre.refl A4) pt_res.lt)
  clear g_spec_3
  refine EvR.nrm ?_
  repeat' (first | refine ff ?_ | ((first | refine sR ?_ ?_ | refine sC ?_ ?_) <;> (intro hb; (try rw [hb]); (try simp only [bb] at hb); (try (exfalso; first | omega | exact hb trivial)))) | (apply endS trivial; rotate_left; (· exact eva); (· rfl); try refine ⟨?_, rfl⟩) | fail)
  (apply EvR.aCall h5.at_; (· exact eva); (· exact  h5.ok.1.2 _ w0 h0_ wr0 s3 l3 sp0 lo0 1 (fun p hp => (Pre.app (Pre.refl S4) _).get (M2 p hp)) gn1 gn2 (by omega) (by omega)); (rintro _ _ ⟨rfl, rfl⟩; refine EvR.nrm ?_))
  rw [← eT4]
  repeat' (first | refine ff ?_ | ((first | refine sR ?_ ?_ | refine sC ?_ ?_) <;> (intro hb; (try rw [hb]); (try simp only [bb] at hb); (try (exfalso; first | omega | exact hb trivial)))) | (apply endS trivial; rotate_left; (· exact eva); (· rfl); try refine ⟨?_, rfl⟩) | fail)
  apply EvR.aCall h2.at_; (· exact eva); (· exact L2 _); rintro _ _ hres
  obtain ⟨τ5, s5, l5, rfl, rfl, o5⟩ := hres.n hok (by rw [← hgs]; exact hne)
  clear hres
  refine EvR.base2 fun A5 S5 f_5 e_5 q_5 => ?_
  rw [← e_5, ← f_5] at o5
  have v_5 : Pre S4 A5 := by rw [f_5]; exact (Pre.refl _).app _
  clear g_spec_4
  have g_spec_5 : PtAt S5 (S1.length + 0) 0 [.int .i64 w0, .int .i64 h0_, .bool wr0, slV s1 sp0.length, slV l1 lo0.length, slV b1 gs.length] := pt_spec.pre (y_4.trans (v_5.trans q_5))
  have g_res_5 : PtAt S5 (S3.length + 0) 0 [.int .i64 w0, .int .i64 h0_, .bool wr0, slV s3 sp0.length, slV l3 lo0.length, .slice none 0 0] := g_res_4.pre (v_5.trans q_5)
  refine EvR.nrm ?_
  repeat' (first | refine ff ?_ | ((first | refine sR ?_ ?_ | refine sC ?_ ?_) <;> (intro hb; (try rw [hb]); (try simp only [bb] at hb); (try (exfalso; first | omega | exact hb trivial)))) | (apply endS trivial; rotate_left; (· exact eva); (· rfl); try refine ⟨?_, rfl⟩) | fail)
  (apply EvR.aCall h3.at_; (· exact eva); (· exact  h3.ok _ w0 h0_ wr0 _ _ _ _ _ _ sp0 lo0 gs ((o5.pre (Pre.refl S5)).ext _).sheet (nfls _) ((o1.pre (v_2.trans (y_4.trans (v_5.trans q_5)))).ext _).sheet ((o1.pre (v_2.trans (y_4.trans (v_5.trans q_5)))).ext _).fls gn1 gn2 gfit); (rintro _ _ ⟨rfl, rfl⟩; refine EvR.nrm ?_))
  repeat' (first | refine ff ?_ | ((first | refine sR ?_ ?_ | refine sC ?_ ?_) <;> (intro hb; (try rw [hb]); (try simp only [bb] at hb); (try (exfalso; first | omega | exact hb trivial)))) | (apply endS trivial; rotate_left; (· exact eva); (· rfl); try refine ⟨?_, rfl⟩) | fail)
  (apply EvR.aCall h5.at_; (· exact eva); (· exact  h5.ok.1.2 _ w0 h0_ wr0 s3 l3 sp0 lo0 1 (fun p hp => (Pre.app (v_5.trans q_5) _).get (M2 p hp)) gn1 gn2 (by omega) (by omega)); (rintro _ _ ⟨rfl, rfl⟩; refine EvR.nrm ?_))
  rw [← eT4]
  repeat' (first | refine ff ?_ | ((first | refine sR ?_ ?_ | refine sC ?_ ?_) <;> (intro hb; (try rw [hb]); (try simp only [bb] at hb); (try (exfalso; first | omega | exact hb trivial)))) | (apply endS trivial; rotate_left; (· exact eva); (· rfl); try refine ⟨?_, rfl⟩) | fail)
  apply endK (v_1.trans (q_1.trans (v_2.trans (y_4.trans (v_5.trans q_5)))))
  · trivial
  · rfl
  · exact eva
  · rfl
theorem laws_FnExactRecoverFilm_law {C : Ctab} {i1 i2 i3 i4 i5 : FuncId} {c1 c2 c3 c4 c5 : Contract} (h1 : Has C i1 c1 spec_RecoverFilm_ok) (h2 : Has C i2 c2 impl_RecoverFilm_ok) (h3 : Has C i3 c3 laws_eqFilm_ok) (h4 : HasW C i4 c4 laws_markFilm_ok) (h5 : Has C i5 c5 laws_heldFilm_ok) : laws_FnExactRecoverFilm_ok (gcC C (laws_FnExactRecoverFilm i1 i2 i3 i4 i5) true) := by
  intro σ avs hh
  match avs, hh with
  | [v0], ⟨g0, _⟩ =>
    obtain ⟨t0, rfl⟩ := str_abs g0
    by_cases hz0 : t0.length ≤ 1048576
    rotate_left
    · refine ret_gc rfl rfl ?_
      repeat' (first | refine ff ?_ | ((first | refine sR ?_ ?_ | refine sC ?_ ?_) <;> (intro hb; (try rw [hb]); (try simp only [bb] at hb); (try (exfalso; first | omega | exact hb trivial)))) | (apply endS trivial; rotate_left; (· exact eva); (· rfl); try refine ⟨?_, rfl⟩) | fail)
      all_goals rfl
    cases hok : rcOk t0
    · exact rowRecoverFilm_f h1 h2 h3 h4 h5 σ t0 hz0  hok
    · by_cases hne : (rcAll t0).1 = []
      · exact rowRecoverFilm_n h1 h2 h3 h4 h5 σ t0 hz0  hok hne
      · exact rowRecoverFilm_t h1 h2 h3 h4 h5 σ t0 hz0  hok hne
end Go.Abs

