/- Law of a row's function: LoadFilm. Conditions: the laws of what it calls. -/
import Derived.Test.YtaacdckenhnocaaExactLoadFilmL109
import Derived.Test.YtaacdckenhnocaaExactLoadFilmL43
namespace Go.Abs

set_option linter.unusedSimpArgs false
set_option linter.unusedVariables false
set_option maxHeartbeats 16000000
set_option maxRecDepth 100000
/- loop.example/g01201/laws.FnExactLoadFilm -/
def laws_FnExactLoadFilm_r0 : List SOper := [
 ⟨some 2, none, .mov (.const (.bool false)), 0⟩]
def laws_FnExactLoadFilm_r1 : List SOper := [
 ⟨some 11, none, .mov (.tmp 0), 0⟩,
 ⟨some 12, none, .len true (.tmp 11), 1⟩,
 ⟨some 13, none, .bin .gtr .other (.tmp 12) (.const (.int .i64 1048576)), 3⟩]
def laws_FnExactLoadFilm_r2 : List SOper := [
 ⟨some 2, none, .mov (.const (.bool true)), 0⟩]
def laws_FnExactLoadFilm_r3 (i_spec_LoadFilm : FuncId) : List SOper := [
 ⟨some 15, none, .mov (.tmp 0), 0⟩,
 ⟨some 16, none, .call (.func i_spec_LoadFilm) [(.tmp 15)], 1⟩,
 ⟨some 14, none, .mov (.tmp 16), 3⟩,
 ⟨some 17, none, .extract (.tmp 14) 0, 7⟩,
 ⟨some 18, none, .extract (.tmp 14) 1, 7⟩,
 ⟨some 3, none, .alloc [(.int .i64 0), (.int .i64 0), (.bool false), (.slice none 0 0), (.slice none 0 0), (.slice none 0 0)], 0⟩,
 ⟨none, none, .store 6 (.tmp 3) (.tmp 17), 47⟩,
 ⟨some 4, none, .mov (.tmp 18), 127⟩]
def laws_FnExactLoadFilm_r4 (i_impl_LoadFilm : FuncId) : List SOper := [
 ⟨some 20, none, .mov (.tmp 0), 0⟩,
 ⟨some 21, none, .call (.func i_impl_LoadFilm) [(.tmp 20)], 1⟩,
 ⟨some 19, none, .mov (.tmp 21), 3⟩,
 ⟨some 22, none, .extract (.tmp 19) 0, 7⟩,
 ⟨some 23, none, .extract (.tmp 19) 1, 7⟩,
 ⟨some 5, none, .alloc [(.int .i64 0), (.int .i64 0), (.bool false), (.slice none 0 0), (.slice none 0 0), (.slice none 0 0)], 0⟩,
 ⟨none, none, .store 6 (.tmp 5) (.tmp 22), 47⟩,
 ⟨some 6, none, .mov (.tmp 23), 127⟩]
def laws_FnExactLoadFilm_r5 (i_laws_eqFilm : FuncId) : List SOper := [
 ⟨some 24, none, .loadN 6 (.tmp 5), 0⟩,
 ⟨some 25, none, .loadN 6 (.tmp 3), 0⟩,
 ⟨some 26, none, .call (.func i_laws_eqFilm) [(.tmp 24), (.tmp 25)], 3⟩,
 ⟨some 27, none, .un .not (.tmp 26), 7⟩,
 ⟨some 28, none, .mov (.tmp 27), 15⟩,
  ⟨(some 29), (some (28, false)), .mov (.tmp 6), 31⟩,
  ⟨(some 30), (some (28, false)), .mov (.tmp 4), 31⟩,
  ⟨(some 31), (some (28, false)), .bin .neq .bool (.tmp 29) (.tmp 30), 127⟩,
 ⟨some 32, none, .pick (.tmp 28) (.const (.bool true)) (.tmp 31), 255⟩]
def laws_FnExactLoadFilm_r6 : List SOper := [
 ⟨some 2, none, .mov (.const (.bool false)), 0⟩]
def laws_FnExactLoadFilm_r7 : List SOper := [
 ⟨some 7, none, .mov (.const (.int .i64 1)), 0⟩]
def laws_FnExactLoadFilm_r8 (i_laws_markFilm : FuncId) : List SOper := [
 ⟨some 33, none, .loadN 6 (.tmp 5), 0⟩,
 ⟨some 34, none, .mov (.tmp 7), 0⟩,
 ⟨some 35, none, .call (.func i_laws_markFilm) [(.tmp 33), (.tmp 34)], 3⟩,
 ⟨some 7, none, .mov (.tmp 35), 7⟩]
def laws_FnExactLoadFilm_r9 : List SOper := [
 ⟨some 8, none, .mov (.const (.int .i64 1)), 0⟩]
def laws_FnExactLoadFilm_r10 (i_laws_heldFilm : FuncId) : List SOper := [
 ⟨some 36, none, .loadN 6 (.tmp 5), 0⟩,
 ⟨some 37, none, .mov (.tmp 8), 0⟩,
 ⟨some 38, none, .call (.func i_laws_heldFilm) [(.tmp 36), (.tmp 37)], 3⟩,
 ⟨some 8, none, .mov (.tmp 38), 7⟩]
def laws_FnExactLoadFilm_r11 : List SOper := [
 ⟨some 39, none, .mov (.tmp 8), 0⟩,
 ⟨some 40, none, .bin .lss .other (.tmp 39) (.const (.int .i64 0)), 1⟩]
def laws_FnExactLoadFilm_r12 : List SOper := [
 ⟨some 2, none, .mov (.const (.bool false)), 0⟩]
def laws_FnExactLoadFilm_r13 : List SOper := [
 ⟨some 41, none, .mov (.tmp 8), 0⟩,
 ⟨some 42, none, .mov (.tmp 7), 0⟩,
 ⟨some 43, none, .bin .neq .other (.tmp 41) (.tmp 42), 3⟩]
def laws_FnExactLoadFilm_r14 : List SOper := [
 ⟨some 2, none, .mov (.const (.bool false)), 0⟩]
def laws_FnExactLoadFilm_r15 (i_impl_LoadFilm : FuncId) : List SOper := [
 ⟨some 45, none, .mov (.tmp 0), 0⟩,
 ⟨some 46, none, .call (.func i_impl_LoadFilm) [(.tmp 45)], 1⟩,
 ⟨some 44, none, .mov (.tmp 46), 3⟩,
 ⟨some 47, none, .extract (.tmp 44) 0, 7⟩,
 ⟨some 48, none, .extract (.tmp 44) 1, 7⟩,
 ⟨some 9, none, .alloc [(.int .i64 0), (.int .i64 0), (.bool false), (.slice none 0 0), (.slice none 0 0), (.slice none 0 0)], 0⟩,
 ⟨none, none, .store 6 (.tmp 9) (.tmp 47), 47⟩,
 ⟨some 10, none, .mov (.tmp 48), 127⟩]
def laws_FnExactLoadFilm_r16 (i_laws_eqFilm : FuncId) : List SOper := [
 ⟨some 49, none, .loadN 6 (.tmp 9), 0⟩,
 ⟨some 50, none, .loadN 6 (.tmp 3), 0⟩,
 ⟨some 51, none, .call (.func i_laws_eqFilm) [(.tmp 49), (.tmp 50)], 3⟩,
 ⟨some 52, none, .un .not (.tmp 51), 7⟩,
 ⟨some 53, none, .mov (.tmp 52), 15⟩,
  ⟨(some 54), (some (53, false)), .mov (.tmp 10), 31⟩,
  ⟨(some 55), (some (53, false)), .mov (.tmp 4), 31⟩,
  ⟨(some 56), (some (53, false)), .bin .neq .bool (.tmp 54) (.tmp 55), 127⟩,
 ⟨some 57, none, .pick (.tmp 53) (.const (.bool true)) (.tmp 56), 255⟩]
def laws_FnExactLoadFilm_r17 : List SOper := [
 ⟨some 2, none, .mov (.const (.bool false)), 0⟩]
def laws_FnExactLoadFilm_r18 : List SOper := [
 ⟨some 8, none, .mov (.const (.int .i64 1)), 0⟩]
def laws_FnExactLoadFilm_r19 (i_laws_heldFilm : FuncId) : List SOper := [
 ⟨some 58, none, .loadN 6 (.tmp 5), 0⟩,
 ⟨some 59, none, .mov (.tmp 8), 0⟩,
 ⟨some 60, none, .call (.func i_laws_heldFilm) [(.tmp 58), (.tmp 59)], 3⟩,
 ⟨some 8, none, .mov (.tmp 60), 7⟩]
def laws_FnExactLoadFilm_r20 : List SOper := [
 ⟨some 61, none, .mov (.tmp 8), 0⟩,
 ⟨some 62, none, .bin .lss .other (.tmp 61) (.const (.int .i64 0)), 1⟩]
def laws_FnExactLoadFilm_r21 : List SOper := [
 ⟨some 2, none, .mov (.const (.bool false)), 0⟩]
def laws_FnExactLoadFilm_r22 : List SOper := [
 ⟨some 63, none, .mov (.tmp 8), 0⟩,
 ⟨some 64, none, .mov (.tmp 7), 0⟩,
 ⟨some 65, none, .bin .neq .other (.tmp 63) (.tmp 64), 3⟩]
def laws_FnExactLoadFilm_r23 : List SOper := [
 ⟨some 2, none, .mov (.const (.bool false)), 0⟩]
def laws_FnExactLoadFilm_r24 : List SOper := [
 ⟨some 2, none, .mov (.const (.bool true)), 0⟩]
def laws_FnExactLoadFilm (i_spec_LoadFilm i_impl_LoadFilm i_laws_eqFilm i_laws_markFilm i_laws_heldFilm : FuncId) : SFunc := ⟨66, [.tmp 2], (.kp [0] (.seq (.region laws_FnExactLoadFilm_r0 false) (.kp [0] (.seq (.seq (.region laws_FnExactLoadFilm_r1 false) (.kp [0,13] (.cond (.tmp 13) (.seq (.region laws_FnExactLoadFilm_r2 false) .ret) .skip))) (.kp [0] (.seq (.region (laws_FnExactLoadFilm_r3 i_spec_LoadFilm) false) (.kp [0,3,4] (.seq (.region (laws_FnExactLoadFilm_r4 i_impl_LoadFilm) false) (.kp [0,3,4,5,6] (.seq (.seq (.region (laws_FnExactLoadFilm_r5 i_laws_eqFilm) false) (.kp [0,3,4,5,32] (.cond (.tmp 32) (.seq (.region laws_FnExactLoadFilm_r6 false) .ret) .skip))) (.kp [0,3,4,5] (.seq (.region laws_FnExactLoadFilm_r7 false) (.kp [0,3,4,5,7] (.seq (.region (laws_FnExactLoadFilm_r8 i_laws_markFilm) false) (.kp [0,3,4,5,7] (.seq (.region laws_FnExactLoadFilm_r9 false) (.kp [0,3,4,5,7,8] (.seq (.region (laws_FnExactLoadFilm_r10 i_laws_heldFilm) false) (.kp [0,3,4,5,7,8] (.seq (.seq (.region laws_FnExactLoadFilm_r11 false) (.kp [0,3,4,5,7,8,40] (.cond (.tmp 40) (.seq (.region laws_FnExactLoadFilm_r12 false) .ret) .skip))) (.kp [0,3,4,5,7,8] (.seq (.seq (.region laws_FnExactLoadFilm_r13 false) (.kp [0,3,4,5,7,43] (.cond (.tmp 43) (.seq (.region laws_FnExactLoadFilm_r14 false) .ret) .skip))) (.kp [0,3,4,5,7] (.seq (.region (laws_FnExactLoadFilm_r15 i_impl_LoadFilm) false) (.kp [3,4,5,7,9,10] (.seq (.seq (.region (laws_FnExactLoadFilm_r16 i_laws_eqFilm) false) (.kp [5,7,57] (.cond (.tmp 57) (.seq (.region laws_FnExactLoadFilm_r17 false) .ret) .skip))) (.kp [5,7] (.seq (.region laws_FnExactLoadFilm_r18 false) (.kp [5,7,8] (.seq (.region (laws_FnExactLoadFilm_r19 i_laws_heldFilm) false) (.kp [7,8] (.seq (.seq (.region laws_FnExactLoadFilm_r20 false) (.kp [7,8,62] (.cond (.tmp 62) (.seq (.region laws_FnExactLoadFilm_r21 false) .ret) .skip))) (.kp [7,8] (.seq (.seq (.region laws_FnExactLoadFilm_r22 false) (.kp [65] (.cond (.tmp 65) (.seq (.region laws_FnExactLoadFilm_r23 false) .ret) .skip))) (.kp [] (.seq (.region laws_FnExactLoadFilm_r24 false) .ret))))))))))))))))))))))))))))))))))))⟩


def laws_FnExactLoadFilm_ok (c : Contract) : Prop := AlwaysTrue [strK] c
theorem rowLoadFilm_f {C : Ctab} {i1 i2 i3 i4 i5 : FuncId} {c1 c2 c3 c4 c5 : Contract} (h1 : Has C i1 c1 spec_LoadFilm_ok) (h2 : Has C i2 c2 impl_LoadFilm_ok) (h3 : Has C i3 c3 laws_eqFilm_ok) (h4 : HasW C i4 c4 laws_markFilm_ok) (h5 : Has C i5 c5 laws_heldFilm_ok) (σ : Heap) (t0 : List UInt8) (hz0 : t0.length ≤ 1048576) 
    (hok : ldfOk t0 = false) : Ret (gcC C (laws_FnExactLoadFilm i1 i2 i3 i4 i5) true) [.string (str t0)] σ fun v _ => v = .bool true := by
  have L1 : ∀ σ, Ret c1 [.string (str t0)] σ fun v σ' => FmRes (ldfOk t0) σ σ' v (byAt t0 4) (byAt t0 5) (shWr t0) (shSp t0) (shLo t0) (rcAll t0).1 := fun σ => h1.ok σ t0 hz0
  have L2 : ∀ σ, Ret c2 [.string (str t0)] σ fun v σ' => FmResN (ldfOk t0) σ σ' v (byAt t0 4) (byAt t0 5) (shWr t0) (shSp t0) (shLo t0) (rcAll t0).1 := fun σ => h2.ok σ t0 hz0
  obtain ⟨gn1, gn2⟩ : (shSp t0).length ≤ 1048576 ∧ (shLo t0).length ≤ 1048576 := sh_lens t0
  obtain ⟨gfit, gsum⟩ := rcAll_fit t0
  generalize byAt t0 4 = w0 at L1 L2
  generalize byAt t0 5 = h0_ at L1 L2
  generalize shWr t0 = wr0 at L1 L2
  generalize shSp t0 = sp0 at L1 L2 gn1
  generalize shLo t0 = lo0 at L1 L2 gn2
  refine ret_gc rfl rfl ?_
  repeat' (first | refine ff ?_ | ((first | refine sR ?_ ?_ | refine sC ?_ ?_) <;> (intro hb; (try rw [hb]); (try simp only [bb] at hb); (try (exfalso; first | omega | exact hb trivial)))) | (apply endS trivial; rotate_left; (· exact eva); (· rfl); try refine ⟨?_, rfl⟩) | fail)
  apply EvR.aCall h1.at_; (· exact eva); (· exact L1 _); rintro _ _ hres
  obtain ⟨⟨τ1, rfl⟩, rfl⟩ := hres.f hok
  clear hres
  refine EvR.base2 fun A1 S1 f_1 e_1 q_1 => ?_
  have v_1 : Pre σ A1 := by rw [f_1]; exact (Pre.refl _).app _
  refine EvR.nrm ?_
  repeat' (first | refine ff ?_ | ((first | refine sR ?_ ?_ | refine sC ?_ ?_) <;> (intro hb; (try rw [hb]); (try simp only [bb] at hb); (try (exfalso; first | omega | exact hb trivial)))) | (apply endS trivial; rotate_left; (· exact eva); (· rfl); try refine ⟨?_, rfl⟩) | fail)
  refine EvR.base fun S2 f_2 => ?_
  have v_2 : Pre S1 S2 := by rw [f_2]; exact (Pre.refl _).app _
  have pt_spec : PtAt S2 (S1.length + 0) 0 [.int .i64 0, .int .i64 0, .bool false, .slice none 0 0, .slice none 0 0, .slice none 0 0] := by rw [f_2]; exact PtAt.own rfl
  refine EvR.nrm ?_
  apply EvR.aCall h2.at_; (· exact eva); (· exact L2 _); rintro _ _ hres
  obtain ⟨⟨τ3, rfl⟩, rfl⟩ := hres.f hok
  clear hres
  refine EvR.base2 fun A3 S3 f_3 e_3 q_3 => ?_
  have v_3 : Pre S2 A3 := by rw [f_3]; exact (Pre.refl _).app _
  have g_spec_3 : PtAt S3 (S1.length + 0) 0 [.int .i64 0, .int .i64 0, .bool false, .slice none 0 0, .slice none 0 0, .slice none 0 0] := pt_spec.pre (v_3.trans q_3)
  refine EvR.nrm ?_
  repeat' (first | refine ff ?_ | ((first | refine sR ?_ ?_ | refine sC ?_ ?_) <;> (intro hb; (try rw [hb]); (try simp only [bb] at hb); (try (exfalso; first | omega | exact hb trivial)))) | (apply endS trivial; rotate_left; (· exact eva); (· rfl); try refine ⟨?_, rfl⟩) | fail)
  (apply EvR.aCall h3.at_; (· exact eva); (· exact  h3.ok _ 0 0 false _ _ _ _ _ _ [] [] [] (noShR _) (noFlsR _) (noShR _) (noFlsR _) (by simp) (by simp) noFits); (rintro _ _ ⟨rfl, rfl⟩; refine EvR.nrm ?_))
  repeat' (first | refine ff ?_ | ((first | refine sR ?_ ?_ | refine sC ?_ ?_) <;> (intro hb; (try rw [hb]); (try simp only [bb] at hb); (try (exfalso; first | omega | exact hb trivial)))) | (apply endS trivial; rotate_left; (· exact eva); (· rfl); try refine ⟨?_, rfl⟩) | fail)
  apply EvR.aCall h4.at_; (· exact eva); (· exact h4.ok.1.1 _ 1); rintro _ _ ⟨rfl, t4, rfl⟩
  refine EvR.base2 fun A4 S4 f_4 e_4 q_4 => ?_
  have v_4 : Pre S3 A4 := by rw [f_4]; exact (Pre.refl _).app _
  have pt_res : PtAt A4 (S3.length + 0) 0 [.int .i64 0, .int .i64 0, .bool false, .slice none 0 0, .slice none 0 0, .slice none 0 0] := by rw [f_4]; exact PtAt.own rfl
  clear g_spec_3
  have g_spec_4 : PtAt S4 (S1.length + 0) 0 [.int .i64 0, .int .i64 0, .bool false, .slice none 0 0, .slice none 0 0, .slice none 0 0] := pt_spec.pre (v_3.trans (q_3.trans (v_4.trans q_4)))
  have g_res_4 : PtAt S4 (S3.length + 0) 0 [.int .i64 0, .int .i64 0, .bool false, .slice none 0 0, .slice none 0 0, .slice none 0 0] := pt_res.pre q_4
  refine EvR.nrm ?_
  repeat' (first | refine ff ?_ | ((first | refine sR ?_ ?_ | refine sC ?_ ?_) <;> (intro hb; (try rw [hb]); (try simp only [bb] at hb); (try (exfalso; first | omega | exact hb trivial)))) | (apply endS trivial; rotate_left; (· exact eva); (· rfl); try refine ⟨?_, rfl⟩) | fail)
  (apply EvR.aCall h5.at_; (· exact eva); (· exact  h5.ok.1.1 _ 1 (by omega) (by omega)); (rintro _ _ ⟨rfl, rfl⟩; refine EvR.nrm ?_))
  repeat' (first | refine ff ?_ | ((first | refine sR ?_ ?_ | refine sC ?_ ?_) <;> (intro hb; (try rw [hb]); (try simp only [bb] at hb); (try (exfalso; first | omega | exact hb trivial)))) | (apply endS trivial; rotate_left; (· exact eva); (· rfl); try refine ⟨?_, rfl⟩) | fail)
  apply EvR.aCall h2.at_; (· exact eva); (· exact L2 _); rintro _ _ hres
  obtain ⟨⟨τ5, rfl⟩, rfl⟩ := hres.f hok
  clear hres
  refine EvR.base2 fun A5 S5 f_5 e_5 q_5 => ?_
  have v_5 : Pre S4 A5 := by rw [f_5]; exact (Pre.refl _).app _
  clear g_spec_4 g_res_4
  have g_spec_5 : PtAt S5 (S1.length + 0) 0 [.int .i64 0, .int .i64 0, .bool false, .slice none 0 0, .slice none 0 0, .slice none 0 0] := pt_spec.pre (v_3.trans (q_3.trans (v_4.trans (q_4.trans (v_5.trans q_5)))))
  have g_res_5 : PtAt S5 (S3.length + 0) 0 [.int .i64 0, .int .i64 0, .bool false, .slice none 0 0, .slice none 0 0, .slice none 0 0] := pt_res.pre (q_4.trans (v_5.trans q_5))
  refine EvR.nrm ?_
  repeat' (first | refine ff ?_ | ((first | refine sR ?_ ?_ | refine sC ?_ ?_) <;> (intro hb; (try rw [hb]); (try simp only [bb] at hb); (try (exfalso; first | omega | exact hb trivial)))) | (apply endS trivial; rotate_left; (· exact eva); (· rfl); try refine ⟨?_, rfl⟩) | fail)
  (apply EvR.aCall h3.at_; (· exact eva); (· exact  h3.ok _ 0 0 false _ _ _ _ _ _ [] [] [] (noShR _) (noFlsR _) (noShR _) (noFlsR _) (by simp) (by simp) noFits); (rintro _ _ ⟨rfl, rfl⟩; refine EvR.nrm ?_))
  repeat' (first | refine ff ?_ | ((first | refine sR ?_ ?_ | refine sC ?_ ?_) <;> (intro hb; (try rw [hb]); (try simp only [bb] at hb); (try (exfalso; first | omega | exact hb trivial)))) | (apply endS trivial; rotate_left; (· exact eva); (· rfl); try refine ⟨?_, rfl⟩) | fail)
  (apply EvR.aCall h5.at_; (· exact eva); (· exact  h5.ok.1.1 _ 1 (by omega) (by omega)); (rintro _ _ ⟨rfl, rfl⟩; refine EvR.nrm ?_))
  repeat' (first | refine ff ?_ | ((first | refine sR ?_ ?_ | refine sC ?_ ?_) <;> (intro hb; (try rw [hb]); (try simp only [bb] at hb); (try (exfalso; first | omega | exact hb trivial)))) | (apply endS trivial; rotate_left; (· exact eva); (· rfl); try refine ⟨?_, rfl⟩) | fail)
  apply endK (v_1.trans (q_1.trans (v_2.trans (v_3.trans (q_3.trans (v_4.trans (q_4.trans (v_5.trans q_5))))))))
  · trivial
  · rfl
  · exact eva
  · rfl
theorem rowLoadFilm_t {C : Ctab} {i1 i2 i3 i4 i5 : FuncId} {c1 c2 c3 c4 c5 : Contract} (h1 : Has C i1 c1 spec_LoadFilm_ok) (h2 : Has C i2 c2 impl_LoadFilm_ok) (h3 : Has C i3 c3 laws_eqFilm_ok) (h4 : HasW C i4 c4 laws_markFilm_ok) (h5 : Has C i5 c5 laws_heldFilm_ok) (σ : Heap) (t0 : List UInt8) (hz0 : t0.length ≤ 1048576) 
    (hok : ldfOk t0 = true) (hne : (rcAll t0).1 ≠ []) : Ret (gcC C (laws_FnExactLoadFilm i1 i2 i3 i4 i5) true) [.string (str t0)] σ fun v _ => v = .bool true := by
  have L1 : ∀ σ, Ret c1 [.string (str t0)] σ fun v σ' => FmRes (ldfOk t0) σ σ' v (byAt t0 4) (byAt t0 5) (shWr t0) (shSp t0) (shLo t0) (rcAll t0).1 := fun σ => h1.ok σ t0 hz0
  have L2 : ∀ σ, Ret c2 [.string (str t0)] σ fun v σ' => FmResN (ldfOk t0) σ σ' v (byAt t0 4) (byAt t0 5) (shWr t0) (shSp t0) (shLo t0) (rcAll t0).1 := fun σ => h2.ok σ t0 hz0
  obtain ⟨gn1, gn2⟩ : (shSp t0).length ≤ 1048576 ∧ (shLo t0).length ≤ 1048576 := sh_lens t0
  obtain ⟨gfit, gsum⟩ := rcAll_fit t0
  generalize byAt t0 4 = w0 at L1 L2
  generalize byAt t0 5 = h0_ at L1 L2
  generalize shWr t0 = wr0 at L1 L2
  generalize shSp t0 = sp0 at L1 L2 gn1
  generalize shLo t0 = lo0 at L1 L2 gn2
  obtain ⟨gs, hgs⟩ : ∃ gs, gs = (rcAll t0).1 := ⟨_, rfl⟩
  rw [← hgs] at hne
  rw [← hgs] at gfit gsum
  refine ret_gc rfl rfl ?_
  repeat' (first | refine ff ?_ | ((first | refine sR ?_ ?_ | refine sC ?_ ?_) <;> (intro hb; (try rw [hb]); (try simp only [bb] at hb); (try (exfalso; first | omega | exact hb trivial)))) | (apply endS trivial; rotate_left; (· exact eva); (· rfl); try refine ⟨?_, rfl⟩) | fail)
  apply EvR.aCall h1.at_; (· exact eva); (· exact L1 _); rintro _ _ hres
  obtain ⟨τ1, s1, l1, b1, R1, rfl, rfl, o1⟩ := hres.t hok
  clear hres
  rw [← hgs] at o1 ⊢
  refine EvR.base2 fun A1 S1 f_1 e_1 q_1 => ?_
  rw [← e_1, ← f_1] at o1
  have v_1 : Pre σ A1 := by rw [f_1]; exact (Pre.refl _).app _
  refine EvR.nrm ?_
  repeat' (first | refine ff ?_ | ((first | refine sR ?_ ?_ | refine sC ?_ ?_) <;> (intro hb; (try rw [hb]); (try simp only [bb] at hb); (try (exfalso; first | omega | exact hb trivial)))) | (apply endS trivial; rotate_left; (· exact eva); (· rfl); try refine ⟨?_, rfl⟩) | fail)
  refine EvR.base fun S2 f_2 => ?_
  have v_2 : Pre S1 S2 := by rw [f_2]; exact (Pre.refl _).app _
  have pt_spec : PtAt S2 (S1.length + 0) 0 [.int .i64 w0, .int .i64 h0_, .bool wr0, slV s1 sp0.length, slV l1 lo0.length, slV b1 gs.length] := by rw [f_2]; exact PtAt.own rfl
  refine EvR.nrm ?_
  apply EvR.aCall h2.at_; (· exact eva); (· exact L2 _); rintro _ _ hres
  obtain ⟨τ3, s3, l3, b3, R3, rfl, rfl, o3⟩ := hres.t hok (by rw [← hgs]; exact hne)
  clear hres
  rw [← hgs] at o3 ⊢
  refine EvR.base2 fun A3 S3 f_3 e_3 q_3 => ?_
  rw [← e_3, ← f_3] at o3
  have v_3 : Pre S2 A3 := by rw [f_3]; exact (Pre.refl _).app _
  have g_spec_3 : PtAt S3 (S1.length + 0) 0 [.int .i64 w0, .int .i64 h0_, .bool wr0, slV s1 sp0.length, slV l1 lo0.length, slV b1 gs.length] := pt_spec.pre (v_3.trans q_3)
  refine EvR.nrm ?_
  repeat' (first | refine ff ?_ | ((first | refine sR ?_ ?_ | refine sC ?_ ?_) <;> (intro hb; (try rw [hb]); (try simp only [bb] at hb); (try (exfalso; first | omega | exact hb trivial)))) | (apply endS trivial; rotate_left; (· exact eva); (· rfl); try refine ⟨?_, rfl⟩) | fail)
  (apply EvR.aCall h3.at_; (· exact eva); (· exact  h3.ok _ w0 h0_ wr0 _ _ _ _ _ _ sp0 lo0 gs ((o3.pre (Pre.refl S3)).ext _).sheet ((o3.pre (Pre.refl S3)).ext _).fls ((o1.pre (v_2.trans (v_3.trans q_3))).ext _).sheet ((o1.pre (v_2.trans (v_3.trans q_3))).ext _).fls gn1 gn2 gfit); (rintro _ _ ⟨rfl, rfl⟩; refine EvR.nrm ?_))
  repeat' (first | refine ff ?_ | ((first | refine sR ?_ ?_ | refine sC ?_ ?_) <;> (intro hb; (try rw [hb]); (try simp only [bb] at hb); (try (exfalso; first | omega | exact hb trivial)))) | (apply endS trivial; rotate_left; (· exact eva); (· rfl); try refine ⟨?_, rfl⟩) | fail)
  apply EvR.aCall h4.at_; (· exact eva); (· exact h4.ok.2 _ w0 h0_ wr0 A3.length s3 l3 b3 R3 sp0 lo0 gs 1 ((o3.pre (Pre.refl S3)).ext _) gn1 gn2 gfit.1 (small_of o3.con gfit) (by rw [tot_sum o3.con]; omega) (by omega) (by omega)); rintro _ _ ⟨rfl, t4, rfl⟩
  refine EvR.baseM fun A4 S4 f_4 e_4 q_4 => ?_
  have v_4 : Pre S3 A4 := by rw [f_4]; exact (Pre.refl _).app _
  obtain ⟨m1_, m2_⟩ := (o3.pre v_4).marked 1
  have len_4 := v_3.len
  have y_4 : Pre S2 S4 := Pre.trans (Pre.mark (v_3.trans (q_3.trans v_4)) 1 fun p hp => by have := o3.lows p hp; omega) q_4
  have tops_4 := o3.tops
  have M1 := q_4.get m1_
  have M2 := fun p hp => q_4.get (m2_ p hp)
  obtain ⟨T4, eT4⟩ : ∃ T : Nat, T = tot ((s3, sp0) :: (l3, lo0) :: R3) := ⟨_, rfl⟩
  have bT4 : T4 ≤ 8388608 := by rw [eT4]; simp only [tot]; rw [tot_sum o3.con]; omega
  rw [← eT4]
  have pt_res : PtAt A4 (S3.length + 0) 0 [.int .i64 w0, .int .i64 h0_, .bool wr0, slV s3 sp0.length, slV l3 lo0.length, slV b3 gs.length] := by rw [f_4]; exact PtAt.own rfl
  have g_spec_4 : PtAt S4 (S1.length + 0) 0 [.int .i64 w0, .int .i64 h0_, .bool wr0, slV s1 sp0.length, slV l1 lo0.length, slV b1 gs.length] := pt_spec.pre ((Pre.refl S2).trans y_4)
  have g_res_4 : PtAt S4 (S3.length + 0) 0 [.int .i64 w0, .int .i64 h0_, .bool wr0, slV s3 sp0.length, slV l3 lo0.length, slV b3 gs.length] := pt_res.same (mark_at q_4 tops_4 (by have := (Pre.refl S3).len; omega) (Pre.refl A4) pt_res.lt)
  clear g_spec_3
  refine EvR.nrm ?_
  repeat' (first | refine ff ?_ | ((first | refine sR ?_ ?_ | refine sC ?_ ?_) <;> (intro hb; (try rw [hb]); (try simp only [bb] at hb); (try (exfalso; first | omega | exact hb trivial)))) | (apply endS trivial; rotate_left; (· exact eva); (· rfl); try refine ⟨?_, rfl⟩) | fail)
  (apply EvR.aCall h5.at_; (· exact eva); (· exact  h5.ok.2 _ w0 h0_ wr0 s3 l3 b3 gs.length R3 sp0 lo0 1 ((Pre.app (Pre.refl S4) _).get M1) (fun p hp => (Pre.app (Pre.refl S4) _).get (M2 p hp)) o3.flds.len gn1 gn2 gfit.1 (small_of o3.con gfit) (by rw [tot_sum o3.con]; omega) (by omega) (by omega)); (rintro _ _ ⟨rfl, rfl⟩; refine EvR.nrm ?_))
  rw [← eT4]
  repeat' (first | refine ff ?_ | ((first | refine sR ?_ ?_ | refine sC ?_ ?_) <;> (intro hb; (try rw [hb]); (try simp only [bb] at hb); (try (exfalso; first | omega | exact hb trivial)))) | (apply endS trivial; rotate_left; (· exact eva); (· rfl); try refine ⟨?_, rfl⟩) | fail)
  apply EvR.aCall h2.at_; (· exact eva); (· exact L2 _); rintro _ _ hres
  obtain ⟨τ5, s5, l5, b5, R5, rfl, rfl, o5⟩ := hres.t hok (by rw [← hgs]; exact hne)
  clear hres
  rw [← hgs] at o5 ⊢
  refine EvR.base2 fun A5 S5 f_5 e_5 q_5 => ?_
  rw [← e_5, ← f_5] at o5
  have v_5 : Pre S4 A5 := by rw [f_5]; exact (Pre.refl _).app _
  clear g_spec_4
  have g_spec_5 : PtAt S5 (S1.length + 0) 0 [.int .i64 w0, .int .i64 h0_, .bool wr0, slV s1 sp0.length, slV l1 lo0.length, slV b1 gs.length] := pt_spec.pre (y_4.trans (v_5.trans q_5))
  have g_res_5 : PtAt S5 (S3.length + 0) 0 [.int .i64 w0, .int .i64 h0_, .bool wr0, slV s3 sp0.length, slV l3 lo0.length, slV b3 gs.length] := g_res_4.pre (v_5.trans q_5)
  refine EvR.nrm ?_
  repeat' (first | refine ff ?_ | ((first | refine sR ?_ ?_ | refine sC ?_ ?_) <;> (intro hb; (try rw [hb]); (try simp only [bb] at hb); (try (exfalso; first | omega | exact hb trivial)))) | (apply endS trivial; rotate_left; (· exact eva); (· rfl); try refine ⟨?_, rfl⟩) | fail)
  (apply EvR.aCall h3.at_; (· exact eva); (· exact  h3.ok _ w0 h0_ wr0 _ _ _ _ _ _ sp0 lo0 gs ((o5.pre (Pre.refl S5)).ext _).sheet ((o5.pre (Pre.refl S5)).ext _).fls ((o1.pre (v_2.trans (y_4.trans (v_5.trans q_5)))).ext _).sheet ((o1.pre (v_2.trans (y_4.trans (v_5.trans q_5)))).ext _).fls gn1 gn2 gfit); (rintro _ _ ⟨rfl, rfl⟩; refine EvR.nrm ?_))
  repeat' (first | refine ff ?_ | ((first | refine sR ?_ ?_ | refine sC ?_ ?_) <;> (intro hb; (try rw [hb]); (try simp only [bb] at hb); (try (exfalso; first | omega | exact hb trivial)))) | (apply endS trivial; rotate_left; (· exact eva); (· rfl); try refine ⟨?_, rfl⟩) | fail)
  (apply EvR.aCall h5.at_; (· exact eva); (· exact  h5.ok.2 _ w0 h0_ wr0 s3 l3 b3 gs.length R3 sp0 lo0 1 ((Pre.app (v_5.trans q_5) _).get M1) (fun p hp => (Pre.app (v_5.trans q_5) _).get (M2 p hp)) o3.flds.len gn1 gn2 gfit.1 (small_of o3.con gfit) (by rw [tot_sum o3.con]; omega) (by omega) (by omega)); (rintro _ _ ⟨rfl, rfl⟩; refine EvR.nrm ?_))
  rw [← eT4]
  repeat' (first | refine ff ?_ | ((first | refine sR ?_ ?_ | refine sC ?_ ?_) <;> (intro hb; (try rw [hb]); (try simp only [bb] at hb); (try (exfalso; first | omega | exact hb trivial)))) | (apply endS trivial; rotate_left; (· exact eva); (· rfl); try refine ⟨?_, rfl⟩) | fail)
  apply endK (v_1.trans (q_1.trans (v_2.trans (y_4.trans (v_5.trans q_5)))))
  · trivial
  · rfl
  · exact eva
  · rfl
theorem rowLoadFilm_n {C : Ctab} {i1 i2 i3 i4 i5 : FuncId} {c1 c2 c3 c4 c5 : Contract} (h1 : Has C i1 c1 spec_LoadFilm_ok) (h2 : Has C i2 c2 impl_LoadFilm_ok) (h3 : Has C i3 c3 laws_eqFilm_ok) (h4 : HasW C i4 c4 laws_markFilm_ok) (h5 : Has C i5 c5 laws_heldFilm_ok) (σ : Heap) (t0 : List UInt8) (hz0 : t0.length ≤ 1048576) 
    (hok : ldfOk t0 = true) (hne : (rcAll t0).1 = []) : Ret (gcC C (laws_FnExactLoadFilm i1 i2 i3 i4 i5) true) [.string (str t0)] σ fun v _ => v = .bool true := by
  have L1 : ∀ σ, Ret c1 [.string (str t0)] σ fun v σ' => FmRes (ldfOk t0) σ σ' v (byAt t0 4) (byAt t0 5) (shWr t0) (shSp t0) (shLo t0) (rcAll t0).1 := fun σ => h1.ok σ t0 hz0
  have L2 : ∀ σ, Ret c2 [.string (str t0)] σ fun v σ' => FmResN (ldfOk t0) σ σ' v (byAt t0 4) (byAt t0 5) (shWr t0) (shSp t0) (shLo t0) (rcAll t0).1 := fun σ => h2.ok σ t0 hz0
  obtain ⟨gn1, gn2⟩ : (shSp t0).length ≤ 1048576 ∧ (shLo t0).length ≤ 1048576 := sh_lens t0
  obtain ⟨gfit, gsum⟩ := rcAll_fit t0
  generalize byAt t0 4 = w0 at L1 L2
  generalize byAt t0 5 = h0_ at L1 L2
  generalize shWr t0 = wr0 at L1 L2
  generalize shSp t0 = sp0 at L1 L2 gn1
  generalize shLo t0 = lo0 at L1 L2 gn2
  obtain ⟨gs, hgs⟩ : ∃ gs, gs = (rcAll t0).1 := ⟨_, rfl⟩
  rw [← hgs] at hne
  have nfls : ∀ S, FlsR S (.slice none 0 0) gs := fun S => by rw [hne]; exact noFlsR S
  rw [← hgs] at gfit gsum
  refine ret_gc rfl rfl ?_
  repeat' (first | refine ff ?_ | ((first | refine sR ?_ ?_ | refine sC ?_ ?_) <;> (intro hb; (try rw [hb]); (try simp only [bb] at hb); (try (exfalso; first | omega | exact hb trivial)))) | (apply endS trivial; rotate_left; (· exact eva); (· rfl); try refine ⟨?_, rfl⟩) | fail)
  apply EvR.aCall h1.at_; (· exact eva); (· exact L1 _); rintro _ _ hres
  obtain ⟨τ1, s1, l1, b1, R1, rfl, rfl, o1⟩ := hres.t hok
  clear hres
  rw [← hgs] at o1 ⊢
  refine EvR.base2 fun A1 S1 f_1 e_1 q_1 => ?_
  rw [← e_1, ← f_1] at o1
  have v_1 : Pre σ A1 := by rw [f_1]; exact (Pre.refl _).app _
  refine EvR.nrm ?_
  repeat' (first | refine ff ?_ | ((first | refine sR ?_ ?_ | refine sC ?_ ?_) <;> (intro hb; (try rw [hb]); (try simp only [bb] at hb); (try (exfalso; first | omega | exact hb trivial)))) | (apply endS trivial; rotate_left; (· exact eva); (· rfl); try refine ⟨?_, rfl⟩) | fail)
  refine EvR.base fun S2 f_2 => ?_
  have v_2 : Pre S1 S2 := by rw [f_2]; exact (Pre.refl _).app _
  have pt_spec : PtAt S2 (S1.length + 0) 0 [.int .i64 w0, .int .i64 h0_, .bool wr0, slV s1 sp0.length, slV l1 lo0.length, slV b1 gs.length] := by rw [f_2]; exact PtAt.own rfl
  refine EvR.nrm ?_
  apply EvR.aCall h2.at_; (· exact eva); (· exact L2 _); rintro _ _ hres
  obtain ⟨τ3, s3, l3, rfl, rfl, o3⟩ := hres.n hok (by rw [← hgs]; exact hne)
  clear hres
  refine EvR.base2 fun A3 S3 f_3 e_3 q_3 => ?_
  rw [← e_3, ← f_3] at o3
  have v_3 : Pre S2 A3 := by rw [f_3]; exact (Pre.refl _).app _
  have g_spec_3 : PtAt S3 (S1.length + 0) 0 [.int .i64 w0, .int .i64 h0_, .bool wr0, slV s1 sp0.length, slV l1 lo0.length, slV b1 gs.length] := pt_spec.pre (v_3.trans q_3)
  refine EvR.nrm ?_
  repeat' (first | refine ff ?_ | ((first | refine sR ?_ ?_ | refine sC ?_ ?_) <;> (intro hb; (try rw [hb]); (try simp only [bb] at hb); (try (exfalso; first | omega | exact hb trivial)))) | (apply endS trivial; rotate_left; (· exact eva); (· rfl); try refine ⟨?_, rfl⟩) | fail)
  (apply EvR.aCall h3.at_; (· exact eva); (· exact  h3.ok _ w0 h0_ wr0 _ _ _ _ _ _ sp0 lo0 gs ((o3.pre (Pre.refl S3)).ext _).sheet (nfls _) ((o1.pre (v_2.trans (v_3.trans q_3))).ext _).sheet ((o1.pre (v_2.trans (v_3.trans q_3))).ext _).fls gn1 gn2 gfit); (rintro _ _ ⟨rfl, rfl⟩; refine EvR.nrm ?_))
  repeat' (first | refine ff ?_ | ((first | refine sR ?_ ?_ | refine sC ?_ ?_) <;> (intro hb; (try rw [hb]); (try simp only [bb] at hb); (try (exfalso; first | omega | exact hb trivial)))) | (apply endS trivial; rotate_left; (· exact eva); (· rfl); try refine ⟨?_, rfl⟩) | fail)
  apply EvR.aCall h4.at_; (· exact eva); (· exact h4.ok.1.2 _ w0 h0_ wr0 A3.length s3 l3 sp0 lo0 1 ((o3.pre (Pre.refl S3)).ext _).inv gn1 gn2 (by omega) (by omega)); rintro _ _ ⟨rfl, t4, rfl⟩
  refine EvR.baseM fun A4 S4 f_4 e_4 q_4 => ?_
  have v_4 : Pre S3 A4 := by rw [f_4]; exact (Pre.refl _).app _
  have m2_ := (o3.pre v_4).marked 1
  have len_4 := v_3.len
  have y_4 : Pre S2 S4 := Pre.trans (Pre.mark (v_3.trans (q_3.trans v_4)) 1 fun p hp => by have := o3.lows p hp; omega) q_4
  have tops_4 := o3.tops
  have M2 := fun p hp => q_4.get (m2_ p hp)
  obtain ⟨T4, eT4⟩ : ∃ T : Nat, T = tot [(s3, sp0), (l3, lo0)] := ⟨_, rfl⟩
  have bT4 : T4 ≤ 8388608 := by rw [eT4]; simp only [tot]; omega
  rw [← eT4]
  have pt_res : PtAt A4 (S3.length + 0) 0 [.int .i64 w0, .int .i64 h0_, .bool wr0, slV s3 sp0.length, slV l3 lo0.length, .slice none 0 0] := by rw [f_4]; exact PtAt.own rfl
  have g_spec_4 : PtAt S4 (S1.length + 0) 0 [.int .i64 w0, .int .i64 h0_, .bool wr0, slV s1 sp0.length, slV l1 lo0.length, slV b1 gs.length] := pt_spec.pre ((Pre.refl S2).trans y_4)
  have g_res_4 : PtAt S4 (S3.length + 0) 0 [.int .i64 w0, .int .i64 h0_, .bool wr0, slV s3 sp0.length, slV l3 lo0.length, .slice none 0 0] := pt_res.same (mark_at q_4 tops_4 (by have := (Pre.refl S3).len; omega) (Pre.refl A4) pt_res.lt)
  clear g_spec_3
  refine EvR.nrm ?_
  repeat' (first | refine ff ?_ | ((first | refine sR ?_ ?_ | refine sC ?_ ?_) <;> (intro hb; (try rw [hb]); (try simp only [bb] at hb); (try (exfalso; first | omega | exact hb trivial)))) | (apply endS trivial; rotate_left; (· exact eva); (· rfl); try refine ⟨?_, rfl⟩) | fail)
  (apply EvR.aCall h5.at_; (· exact eva); (· exact  h5.ok.1.2 _ w0 h0_ wr0 s3 l3 sp0 lo0 1 (fun p hp => (Pre.app (Pre.refl S4) _).get (M2 p hp)) gn1 gn2 (by omega) (by omega)); (rintro _ _ ⟨rfl, rfl⟩; refine EvR.nrm ?_))
  rw [← eT4]
  repeat' (first | refine ff ?_ | ((first | refine sR ?_ ?_ | refine sC ?_ ?_) <;> (intro hb; (try rw [hb]); (try simp only [bb] at hb); (try (exfalso; first | omega | exact hb trivial)))) | (apply endS trivial; rotate_left; (· exact eva); (· rfl); try refine ⟨?_, rfl⟩) | fail)
  apply EvR.aCall h2.at_; (· exact eva); (· exact L2 _); rintro _ _ hres
  obtain ⟨τ5, s5, l5, rfl, rfl, o5⟩ := hres.n hok (by rw [← hgs]; exact hne)
  clear hres
  refine EvR.base2 fun A5 S5 f_5 e_5 q_5 => ?_
  rw [← e_5, ← f_5] at o5
  have v_5 : Pre S4 A5 := by rw [f_5]; exact (Pre.refl _).app _
  clear g_spec_4
  have g_spec_5 : PtAt S5 (S1.length + 0) 0 [.int .i64 w0, .int .i64 h0_, .bool wr0, slV s1 sp0.length, slV l1 lo0.length, slV b1 gs.length] := pt_spec.pre (y_4.trans (v_5.trans q_5))
  have g_res_5 : PtAt S5 (S3.length + 0) 0 [.int .i64 w0, .int .i64 h0_, .bool wr0, slV s3 sp0.length, slV l3 lo0.length, .slice none 0 0] := g_res_4.pre (v_5.trans q_5)
  refine EvR.nrm ?_
  repeat' (first | refine ff ?_ | ((first | refine sR ?_ ?_ | refine sC ?_ ?_) <;> (intro hb; (try rw [hb]); (try simp only [bb] at hb); (try (exfalso; first | omega | exact hb trivial)))) | (apply endS trivial; rotate_left; (· exact eva); (· rfl); try refine ⟨?_, rfl⟩) | fail)
  (apply EvR.aCall h3.at_; (· exact eva); (· exact  h3.ok _ w0 h0_ wr0 _ _ _ _ _ _ sp0 lo0 gs ((o5.pre (Pre.refl S5)).ext _).sheet (nfls _) ((o1.pre (v_2.trans (y_4.trans (v_5.trans q_5)))).ext _).sheet ((o1.pre (v_2.trans (y_4.trans (v_5.trans q_5)))).ext _).fls gn1 gn2 gfit); (rintro _ _ ⟨rfl, rfl⟩; refine EvR.nrm ?_))
  repeat' (first | refine ff ?_ | ((first | refine sR ?_ ?_ | refine sC ?_ ?_) <;> (intro hb; (try rw [hb]); (try simp only [bb] at hb); (try (exfalso; first | omega | exact hb trivial)))) | (apply endS trivial; rotate_left; (· exact eva); (· rfl); try refine ⟨?_, rfl⟩) | fail)
  (apply EvR.aCall h5.at_; (· exact eva); (· exact  h5.ok.1.2 _ w0 h0_ wr0 s3 l3 sp0 lo0 1 (fun p hp => (Pre.app (v_5.trans q_5) _).get (M2 p hp)) gn1 gn2 (by omega) (by omega)); (rintro _ _ ⟨rfl, rfl⟩; refine EvR.nrm ?_))
  rw [← eT4]
  repeat' (first | refine ff ?_ | ((first | refine sR ?_ ?_ | refine sC ?_ ?_) <;> (intro hb; (try rw [hb]); (try simp only [bb] at hb); (try (exfalso; first | omega | exact hb trivial)))) | (apply endS trivial; rotate_left; (· exact eva); (· rfl); try refine ⟨?_, rfl⟩) | fail)
  apply endK (v_1.trans (q_1.trans (v_2.trans (y_4.trans (v_5.trans q_5)))))
  · trivial
  · rfl
  · exact eva
  · rfl
theorem laws_FnExactLoadFilm_law {C : Ctab} {i1 i2 i3 i4 i5 : FuncId} {c1 c2 c3 c4 c5 : Contract} (h1 : Has C i1 c1 spec_LoadFilm_ok) (h2 : Has C i2 c2 impl_LoadFilm_ok) (h3 : Has C i3 c3 laws_eqFilm_ok) (h4 : HasW C i4 c4 laws_markFilm_ok) (h5 : Has C i5 c5 laws_heldFilm_ok) : laws_FnExactLoadFilm_ok (gcC C (laws_FnExactLoadFilm i1 i2 i3 i4 i5) true) := by
  intro σ avs hh
  match avs, hh with
  | [v0], ⟨g0, _⟩ =>
    obtain ⟨t0, rfl⟩ := str_abs g0
    by_cases hz0 : t0.length ≤ 1048576
    rotate_left
    · refine ret_gc rfl rfl ?_
      repeat' (first | refine ff ?_ | ((first | refine sR ?_ ?_ | refine sC ?_ ?_) <;> (intro hb; (try rw [hb]); (try simp only [bb] at hb); (try (exfalso; first | omega | exact hb trivial)))) | (apply endS trivial; rotate_left; (· exact eva); (· rfl); try refine ⟨?_, rfl⟩) | fail)
      all_goals rfl
    cases hok : ldfOk t0
    · exact rowLoadFilm_f h1 h2 h3 h4 h5 σ t0 hz0  hok
    · by_cases hne : (rcAll t0).1 = []
      · exact rowLoadFilm_n h1 h2 h3 h4 h5 σ t0 hz0  hok hne
      · exact rowLoadFilm_t h1 h2 h3 h4 h5 σ t0 hz0  hok hne
end Go.Abs

