/- Laws of functions: what a sheet scatters, by the program and by the reference. Conditions: the laws of what they call. -/
import Derived.Test.YtdlicidmkakooaaOutlinedL53
import Derived.Test.YtdlicidmkakooaaOutlinedL57
namespace Go.Abs

set_option linter.unusedSimpArgs false
set_option linter.unusedVariables false
set_option maxHeartbeats 8000000
set_option maxRecDepth 20000
/- loop.example/g01201/impl.ScatterField -/
def impl_ScatterField_r0 : List SOper := [
 ⟨some 4, none, .box (.tmp 0), 0⟩,
 ⟨some 5, none, .box (.tmp 1), 0⟩,
 ⟨some 6, none, .box (.tmp 2), 0⟩,
 ⟨some 8, none, .alloc [(.slice none 0 0), (.slice none 0 0), (.slice none 0 0)], 0⟩,
 ⟨some 9, none, .mov (.const (.bool false)), 0⟩]
def impl_ScatterField_r1 : List SOper := [
 ⟨some 15, none, .fieldAddr 0 (.tmp 4), 0⟩,
 ⟨some 16, none, .load1 (.tmp 15), 1⟩,
 ⟨some 17, none, .fieldAddr 0 (.tmp 5), 0⟩,
 ⟨some 18, none, .load1 (.tmp 17), 4⟩,
 ⟨some 19, none, .bin .neq .other (.tmp 16) (.tmp 18), 15⟩,
 ⟨some 20, none, .mov (.tmp 19), 31⟩,
  ⟨(some 21), (some (20, false)), .fieldAddr 1 (.tmp 4), 63⟩,
  ⟨(some 22), (some (20, false)), .load1 (.tmp 21), 127⟩,
  ⟨(some 23), (some (20, false)), .fieldAddr 1 (.tmp 5), 63⟩,
  ⟨(some 24), (some (20, false)), .load1 (.tmp 23), 319⟩,
  ⟨(some 25), (some (20, false)), .bin .neq .other (.tmp 22) (.tmp 24), 1023⟩,
 ⟨some 26, none, .pick (.tmp 20) (.const (.bool true)) (.tmp 25), 2047⟩,
 ⟨some 27, none, .mov (.tmp 26), 4095⟩,
  ⟨(some 28), (some (27, false)), .fieldAddr 2 (.tmp 4), 8191⟩,
  ⟨(some 29), (some (27, false)), .load1 (.tmp 28), 16383⟩,
  ⟨(some 30), (some (27, false)), .fieldAddr 2 (.tmp 5), 8191⟩,
  ⟨(some 31), (some (27, false)), .load1 (.tmp 30), 40959⟩,
  ⟨(some 32), (some (27, false)), .bin .neq .bool (.tmp 29) (.tmp 31), 131071⟩,
 ⟨some 33, none, .pick (.tmp 27) (.const (.bool true)) (.tmp 32), 262143⟩]
def impl_ScatterField_r2 : List SOper := [
 ⟨some 34, none, .build [(.slice none 0 0), (.slice none 0 0), (.slice none 0 0)] [], 0⟩,
 ⟨none, none, .store 3 (.tmp 8) (.tmp 34), 1⟩,
 ⟨some 9, none, .mov (.const (.bool false)), 3⟩]
def impl_ScatterField_r3 (i_impl_RunField : FuncId) : List SOper := [
 ⟨some 36, none, .loadN 5 (.tmp 4), 0⟩,
 ⟨some 37, none, .loadN 3 (.tmp 6), 0⟩,
 ⟨some 38, none, .mov (.tmp 3), 0⟩,
 ⟨some 39, none, .call (.func i_impl_RunField) [(.tmp 36), (.tmp 37), (.tmp 38)], 7⟩,
 ⟨some 35, none, .mov (.tmp 39), 15⟩,
 ⟨some 40, none, .extract (.tmp 35) 0, 31⟩,
 ⟨some 41, none, .extract (.tmp 35) 1, 31⟩,
 ⟨some 10, none, .alloc [(.slice none 0 0), (.slice none 0 0), (.slice none 0 0)], 0⟩,
 ⟨none, none, .store 3 (.tmp 10) (.tmp 40), 191⟩,
 ⟨some 11, none, .mov (.tmp 41), 511⟩]
def impl_ScatterField_r4 (i_impl_RunField : FuncId) : List SOper := [
 ⟨some 43, none, .loadN 5 (.tmp 5), 0⟩,
 ⟨some 44, none, .loadN 3 (.tmp 6), 0⟩,
 ⟨some 45, none, .mov (.tmp 3), 0⟩,
 ⟨some 46, none, .call (.func i_impl_RunField) [(.tmp 43), (.tmp 44), (.tmp 45)], 7⟩,
 ⟨some 42, none, .mov (.tmp 46), 15⟩,
 ⟨some 47, none, .extract (.tmp 42) 0, 31⟩,
 ⟨some 48, none, .extract (.tmp 42) 1, 31⟩,
 ⟨some 12, none, .alloc [(.slice none 0 0), (.slice none 0 0), (.slice none 0 0)], 0⟩,
 ⟨none, none, .store 3 (.tmp 12) (.tmp 47), 191⟩,
 ⟨some 13, none, .mov (.tmp 48), 511⟩]
def impl_ScatterField_r5 : List SOper := [
 ⟨some 49, none, .mov (.tmp 11), 0⟩,
 ⟨some 50, none, .un .not (.tmp 49), 1⟩,
 ⟨some 51, none, .mov (.tmp 50), 3⟩,
  ⟨(some 52), (some (51, false)), .mov (.tmp 13), 7⟩,
  ⟨(some 53), (some (51, false)), .un .not (.tmp 52), 15⟩,
 ⟨some 54, none, .pick (.tmp 51) (.const (.bool true)) (.tmp 53), 31⟩]
def impl_ScatterField_r6 : List SOper := [
 ⟨some 55, none, .build [(.slice none 0 0), (.slice none 0 0), (.slice none 0 0)] [], 0⟩,
 ⟨none, none, .store 3 (.tmp 8) (.tmp 55), 1⟩,
 ⟨some 9, none, .mov (.const (.bool false)), 3⟩]
def impl_ScatterField_r7 (i_impl_ScaleField : FuncId) : List SOper := [
 ⟨some 57, none, .loadN 5 (.tmp 5), 0⟩,
 ⟨some 58, none, .loadN 3 (.tmp 12), 0⟩,
 ⟨some 59, none, .call (.func i_impl_ScaleField) [(.tmp 57), (.tmp 58), (.const (.float .f32 3212836864))], 3⟩,
 ⟨some 56, none, .mov (.tmp 59), 7⟩,
 ⟨some 60, none, .extract (.tmp 56) 0, 15⟩,
 ⟨some 61, none, .extract (.tmp 56) 1, 15⟩,
 ⟨some 14, none, .alloc [(.slice none 0 0), (.slice none 0 0), (.slice none 0 0)], 0⟩,
 ⟨none, none, .store 3 (.tmp 14) (.tmp 60), 95⟩,
 ⟨some 11, none, .mov (.tmp 61), 255⟩]
def impl_ScatterField_r8 : List SOper := [
 ⟨some 62, none, .mov (.tmp 11), 0⟩,
 ⟨some 63, none, .un .not (.tmp 62), 1⟩]
def impl_ScatterField_r9 : List SOper := [
 ⟨some 64, none, .build [(.slice none 0 0), (.slice none 0 0), (.slice none 0 0)] [], 0⟩,
 ⟨none, none, .store 3 (.tmp 8) (.tmp 64), 1⟩,
 ⟨some 9, none, .mov (.const (.bool false)), 3⟩]
def impl_ScatterField_r10 (i_impl_AddFields : FuncId) : List SOper := [
 ⟨some 65, none, .loadN 5 (.tmp 4), 0⟩,
 ⟨some 66, none, .loadN 3 (.tmp 10), 0⟩,
 ⟨some 67, none, .loadN 3 (.tmp 14), 0⟩,
 ⟨some 68, none, .call (.func i_impl_AddFields) [(.tmp 65), (.tmp 66), (.tmp 67)], 7⟩,
 ⟨some 69, none, .extract (.tmp 68) 0, 15⟩,
 ⟨some 70, none, .extract (.tmp 68) 1, 15⟩,
 ⟨none, none, .store 3 (.tmp 8) (.tmp 69), 63⟩,
 ⟨some 9, none, .mov (.tmp 70), 127⟩]
def impl_ScatterField (i_impl_RunField i_impl_ScaleField i_impl_AddFields : FuncId) : SFunc := ⟨71, [.cellN 8 3, .tmp 9], (.kp [0,1,2,3] (.seq (.region impl_ScatterField_r0 false) (.kp [3,4,5,6,8] (.seq (.seq (.region impl_ScatterField_r1 false) (.kp [3,4,5,6,8,33] (.cond (.tmp 33) (.seq (.region impl_ScatterField_r2 false) .ret) .skip))) (.kp [3,4,5,6,8] (.seq (.region (impl_ScatterField_r3 i_impl_RunField) false) (.kp [3,4,5,6,8,10,11] (.seq (.region (impl_ScatterField_r4 i_impl_RunField) false) (.kp [4,5,8,10,11,12,13] (.seq (.seq (.region impl_ScatterField_r5 false) (.kp [4,5,8,10,12,54] (.cond (.tmp 54) (.seq (.region impl_ScatterField_r6 false) .ret) .skip))) (.kp [4,5,8,10,12] (.seq (.region (impl_ScatterField_r7 i_impl_ScaleField) false) (.kp [4,8,10,11,14] (.seq (.seq (.region impl_ScatterField_r8 false) (.kp [4,8,10,14,63] (.cond (.tmp 63) (.seq (.region impl_ScatterField_r9 false) .ret) .skip))) (.kp [4,8,10,14] (.seq (.region (impl_ScatterField_r10 i_impl_AddFields) false) .ret))))))))))))))))⟩


abbrev mOne : Nat := 3212836864
def sfA (w h : Int) (wr : Bool) (sp lo : List Nat) (w' h' : Int) (wr' : Bool) (sp' lo' : List Nat) (e x y : List Nat) (n : Int) : Bool :=
  decide (w = w' ∧ h = h' ∧ wr = wr') && (rfOk w h wr sp lo e x y n && rfOk w' h' wr' sp' lo' e x y n)
def sfOk (w h : Int) (wr : Bool) (sp lo : List Nat) (w' h' : Int) (wr' : Bool) (sp' lo' : List Nat) (e x y : List Nat) (n : Int) (f g : Fld) : Bool :=
  sfA w h wr sp lo w' h' wr' sp' lo' e x y n && (scOk w' h' wr' sp' lo' g.e g.x g.y mOne && adOk w h wr sp lo f.e f.x f.y (scaleL mOne g.e) (scaleL mOne g.x) (scaleL mOne g.y))
def ScatterField_ok (c : Contract) : Prop := ∀ (σ : Heap) (w h : Int) (wr : Bool) (sv lv : Value) (sp lo : List Nat) (w' h' : Int) (wr' : Bool) (sv' lv' : Value) (sp' lo' : List Nat) (ev xv yv : Value) (e x y : List Nat) (n : Int) (f g : Fld), f = rfF w h wr sp lo e x y n → g = rfF w' h' wr' sp' lo' e x y n →
    ShR σ sv lv sp lo → sp.length ≤ 1048576 → lo.length ≤ 1048576 → ShR σ sv' lv' sp' lo' → sp'.length ≤ 1048576 → lo'.length ≤ 1048576 → FlR σ ev xv yv e x y → e.length ≤ 1048576 → x.length ≤ 1048576 → y.length ≤ 1048576 →
    Ret c [shV w h wr sv lv, shV w' h' wr' sv' lv', fV ev xv yv, .int .i64 n] σ fun v σ' =>
      v = flRes (sfOk w h wr sp lo w' h' wr' sp' lo' e x y n f g) σ.length (addL f.e (scaleL mOne g.e)) (addL f.x (scaleL mOne g.x)) (addL f.y (scaleL mOne g.y)) ∧
      σ' = σ ++ flRows (sfOk w h wr sp lo w' h' wr' sp' lo' e x y n f g) (addL f.e (scaleL mOne g.e)) (addL f.x (scaleL mOne g.x)) (addL f.y (scaleL mOne g.y))
abbrev impl_ScatterField_ok := ScatterField_ok
theorem rf_lens {w h : Int} {wr : Bool} {sp lo e x y : List Nat} {n : Int} {f : Fld} (hf : f = rfF w h wr sp lo e x y n) (h1 : rfOk w h wr sp lo e x y n = true) : f.e.length ≤ 1048576 ∧ f.x.length ≤ 1048576 ∧ f.y.length ≤ 1048576 := by
  simp only [rfOk, Bool.and_eq_true] at h1
  obtain ⟨hs, t1, t2, t3⟩ := isField_len h1.1
  obtain ⟨a1, a2, a3, a4, q1, q2⟩ := isSheet_sides hs
  have c1 : w * h ≤ 16 * 16 := Int.mul_le_mul (by omega) (by omega) (by omega) (by omega)
  obtain ⟨z1, z2, z3⟩ := runF_len (W := w.toNat) (H := h.toNat) (n := (w * h).toNat) (wr := wr) (sp := sp) (lo := lo) (f := ⟨e, x, y⟩) ⟨by dsimp only; omega, by dsimp only; omega, by dsimp only; omega⟩ n.toNat
  subst hf
  unfold rfF
  rw [z1, z2, z3]
  omega
theorem sfOk_f {w h : Int} {wr : Bool} {sp lo : List Nat} {w' h' : Int} {wr' : Bool} {sp' lo' : List Nat} {e x y : List Nat} {n : Int} {f g : Fld} (h0 : sfA w h wr sp lo w' h' wr' sp' lo' e x y n = false) : sfOk w h wr sp lo w' h' wr' sp' lo' e x y n f g = false := by
  unfold sfOk; rw [h0]; rfl

theorem impl_ScatterField_law {C : Ctab} {i1 i2 i3 : FuncId} {c1 c2 c3 : Contract} (h1 : Has C i1 c1 impl_RunField_ok) (h2 : Has C i2 c2 impl_ScaleField_ok) (h3 : Has C i3 c3 impl_AddFields_ok) : impl_ScatterField_ok (gcC C (impl_ScatterField i1 i2 i3) true) := by
  intro σ w h wr sv lv sp lo w' h' wr' sv' lv' sp' lo' ev xv yv e x y n f g hf hg ⟨r1, r2⟩ n1 n2 ⟨r1', r2'⟩ n1' n2' ⟨r3, r4, r5⟩ m1 m2 m3
  have k1 := r1.ok
  have k2 := r2.ok
  have k1' := r1'.ok
  have k2' := r2'.ok
  by_cases hsame : w = w' ∧ h = h' ∧ wr = wr'
  · obtain ⟨rfl, rfl, rfl⟩ := hsame
    have hA : sfA w h wr sp lo w h wr sp' lo' e x y n = (rfOk w h wr sp lo e x y n && rfOk w h wr sp' lo' e x y n) := by unfold sfA; simp
    cases hR1 : rfOk w h wr sp lo e x y n
    · rw [sfOk_f (by rw [hA, hR1]; rfl), flRes_f, flRows_f]
      cases hR2 : rfOk w h wr sp' lo' e x y n
      · cases wr
        all_goals
          refine ret_gc rfl rfl ?_
          repeat' (first | refine ff ?_ | ((first | refine sR ?_ ?_ | refine sC ?_ ?_) <;> (intro hb; (try rw [hb]); (try simp only [bb] at hb); (try (exfalso; first | omega | exact hb trivial)))) | (apply endS trivial; rotate_left; (· exact eva); (· rfl); try refine ⟨?_, rfl⟩) | fail)
          (apply EvR.aCall h1.at_; (· exact eva); (· exact  h1.ok _ w h _ sv lv sp lo ev xv yv e x y n ⟨r1.ext _, r2.ext _⟩ n1 n2 ⟨r3.ext _, r4.ext _, r5.ext _⟩ m1 m2 m3); (rintro _ _ ⟨rfl, rfl⟩; refine EvR.nrm ?_))
          rw [hR1, flRes_f, flRows_f]
          try refine EvR.nrm ?_
          repeat' (first | refine ff ?_ | ((first | refine sR ?_ ?_ | refine sC ?_ ?_) <;> (intro hb; (try rw [hb]); (try simp only [bb] at hb); (try (exfalso; first | omega | exact hb trivial)))) | (apply endS trivial; rotate_left; (· exact eva); (· rfl); try refine ⟨?_, rfl⟩) | fail)
          (apply EvR.aCall h1.at_; (· exact eva); (· exact  h1.ok _ w h _ sv' lv' sp' lo' ev xv yv e x y n ⟨r1'.ext _, r2'.ext _⟩ n1' n2' ⟨r3.ext _, r4.ext _, r5.ext _⟩ m1 m2 m3); (rintro _ _ ⟨rfl, rfl⟩; refine EvR.nrm ?_))
          rw [hR2, flRes_f, flRows_f]
          try refine EvR.nrm ?_
          repeat' (first | refine ff ?_ | ((first | refine sR ?_ ?_ | refine sC ?_ ?_) <;> (intro hb; (try rw [hb]); (try simp only [bb] at hb); (try (exfalso; first | omega | exact hb trivial)))) | (apply endS trivial; rotate_left; (· exact eva); (· rfl); try refine ⟨?_, rfl⟩) | fail)
          simp
      · obtain ⟨z1, z2, z3⟩ := rf_lens hg hR2
        cases wr
        all_goals
          refine ret_gc rfl rfl ?_
          repeat' (first | refine ff ?_ | ((first | refine sR ?_ ?_ | refine sC ?_ ?_) <;> (intro hb; (try rw [hb]); (try simp only [bb] at hb); (try (exfalso; first | omega | exact hb trivial)))) | (apply endS trivial; rotate_left; (· exact eva); (· rfl); try refine ⟨?_, rfl⟩) | fail)
          (apply EvR.aCall h1.at_; (· exact eva); (· exact  h1.ok _ w h _ sv lv sp lo ev xv yv e x y n ⟨r1.ext _, r2.ext _⟩ n1 n2 ⟨r3.ext _, r4.ext _, r5.ext _⟩ m1 m2 m3); (rintro _ _ ⟨rfl, rfl⟩; refine EvR.nrm ?_))
          rw [hR1, flRes_f, flRows_f]
          try refine EvR.nrm ?_
          repeat' (first | refine ff ?_ | ((first | refine sR ?_ ?_ | refine sC ?_ ?_) <;> (intro hb; (try rw [hb]); (try simp only [bb] at hb); (try (exfalso; first | omega | exact hb trivial)))) | (apply endS trivial; rotate_left; (· exact eva); (· rfl); try refine ⟨?_, rfl⟩) | fail)
          (apply EvR.aCall h1.at_; (· exact eva); (· exact  h1.ok _ w h _ sv' lv' sp' lo' ev xv yv e x y n ⟨r1'.ext _, r2'.ext _⟩ n1' n2' ⟨r3.ext _, r4.ext _, r5.ext _⟩ m1 m2 m3); (rintro _ _ ⟨rfl, rfl⟩; refine EvR.nrm ?_))
          rw [hR2, flRes_t, flRows_t, ← hg]
          refine EvR.nrm ?_
          repeat' (first | refine ff ?_ | ((first | refine sR ?_ ?_ | refine sC ?_ ?_) <;> (intro hb; (try rw [hb]); (try simp only [bb] at hb); (try (exfalso; first | omega | exact hb trivial)))) | (apply endS trivial; rotate_left; (· exact eva); (· rfl); try refine ⟨?_, rfl⟩) | fail)
          simp
    · obtain ⟨y1, y2, y3⟩ := rf_lens hf hR1
      cases hR2 : rfOk w h wr sp' lo' e x y n
      · rw [sfOk_f (by rw [hA, hR2]; simp), flRes_f, flRows_f]
        cases wr
        all_goals
          refine ret_gc rfl rfl ?_
          repeat' (first | refine ff ?_ | ((first | refine sR ?_ ?_ | refine sC ?_ ?_) <;> (intro hb; (try rw [hb]); (try simp only [bb] at hb); (try (exfalso; first | omega | exact hb trivial)))) | (apply endS trivial; rotate_left; (· exact eva); (· rfl); try refine ⟨?_, rfl⟩) | fail)
          (apply EvR.aCall h1.at_; (· exact eva); (· exact  h1.ok _ w h _ sv lv sp lo ev xv yv e x y n ⟨r1.ext _, r2.ext _⟩ n1 n2 ⟨r3.ext _, r4.ext _, r5.ext _⟩ m1 m2 m3); (rintro _ _ ⟨rfl, rfl⟩; refine EvR.nrm ?_))
          rw [hR1, flRes_t, flRows_t, ← hf]
          refine EvR.nrm ?_
          repeat' (first | refine ff ?_ | ((first | refine sR ?_ ?_ | refine sC ?_ ?_) <;> (intro hb; (try rw [hb]); (try simp only [bb] at hb); (try (exfalso; first | omega | exact hb trivial)))) | (apply endS trivial; rotate_left; (· exact eva); (· rfl); try refine ⟨?_, rfl⟩) | fail)
          (apply EvR.aCall h1.at_; (· exact eva); (· exact  h1.ok _ w h _ sv' lv' sp' lo' ev xv yv e x y n ⟨r1'.ext _, r2'.ext _⟩ n1' n2' ⟨r3.ext _, r4.ext _, r5.ext _⟩ m1 m2 m3); (rintro _ _ ⟨rfl, rfl⟩; refine EvR.nrm ?_))
          rw [hR2, flRes_f, flRows_f]
          try refine EvR.nrm ?_
          refine EvR.nrm ?_
          repeat' (first | refine ff ?_ | ((first | refine sR ?_ ?_ | refine sC ?_ ?_) <;> (intro hb; (try rw [hb]); (try simp only [bb] at hb); (try (exfalso; first | omega | exact hb trivial)))) | (apply endS trivial; rotate_left; (· exact eva); (· rfl); try refine ⟨?_, rfl⟩) | fail)
          simp
      obtain ⟨z1, z2, z3⟩ := rf_lens hg hR2
      have hSf : sfOk w h wr sp lo w h wr sp' lo' e x y n f g = (scOk w h wr sp' lo' g.e g.x g.y mOne && adOk w h wr sp lo f.e f.x f.y (scaleL mOne g.e) (scaleL mOne g.x) (scaleL mOne g.y)) := by
        unfold sfOk; rw [hA, hR1, hR2]; rfl
      have l1 : (scaleL mOne g.e).length = g.e.length := newM_length
      have l2 : (scaleL mOne g.x).length = g.x.length := newM_length
      have l3 : (scaleL mOne g.y).length = g.y.length := newM_length
      cases hS : scOk w h wr sp' lo' g.e g.x g.y mOne
      · rw [hSf, hS, Bool.false_and, flRes_f, flRows_f]
        cases wr
        all_goals
          refine ret_gc rfl rfl ?_
          repeat' (first | refine ff ?_ | ((first | refine sR ?_ ?_ | refine sC ?_ ?_) <;> (intro hb; (try rw [hb]); (try simp only [bb] at hb); (try (exfalso; first | omega | exact hb trivial)))) | (apply endS trivial; rotate_left; (· exact eva); (· rfl); try refine ⟨?_, rfl⟩) | fail)
          (apply EvR.aCall h1.at_; (· exact eva); (· exact  h1.ok _ w h _ sv lv sp lo ev xv yv e x y n ⟨r1.ext _, r2.ext _⟩ n1 n2 ⟨r3.ext _, r4.ext _, r5.ext _⟩ m1 m2 m3); (rintro _ _ ⟨rfl, rfl⟩; refine EvR.nrm ?_))
          rw [hR1, flRes_t, flRows_t, ← hf]
          refine EvR.nrm ?_
          repeat' (first | refine ff ?_ | ((first | refine sR ?_ ?_ | refine sC ?_ ?_) <;> (intro hb; (try rw [hb]); (try simp only [bb] at hb); (try (exfalso; first | omega | exact hb trivial)))) | (apply endS trivial; rotate_left; (· exact eva); (· rfl); try refine ⟨?_, rfl⟩) | fail)
          (apply EvR.aCall h1.at_; (· exact eva); (· exact  h1.ok _ w h _ sv' lv' sp' lo' ev xv yv e x y n ⟨r1'.ext _, r2'.ext _⟩ n1' n2' ⟨r3.ext _, r4.ext _, r5.ext _⟩ m1 m2 m3); (rintro _ _ ⟨rfl, rfl⟩; refine EvR.nrm ?_))
          rw [hR2, flRes_t, flRows_t, ← hg]
          refine EvR.nrm ?_
          repeat' (first | refine ff ?_ | ((first | refine sR ?_ ?_ | refine sC ?_ ?_) <;> (intro hb; (try rw [hb]); (try simp only [bb] at hb); (try (exfalso; first | omega | exact hb trivial)))) | (apply endS trivial; rotate_left; (· exact eva); (· rfl); try refine ⟨?_, rfl⟩) | fail)
          (apply EvR.aCall h2.at_; (· exact eva); (· exact  h2.ok _ w h _ sv' lv' sp' lo' _ _ _ g.e g.x g.y mOne ⟨r1'.ext _, r2'.ext _⟩ n1' n2' ⟨Row.ownF rfl rfl, Row.ownF rfl rfl, Row.ownF rfl rfl⟩ z1 z2 z3); (rintro _ _ ⟨rfl, rfl⟩; refine EvR.nrm ?_))
          rw [hS, flRes_f, flRows_f]
          try refine EvR.nrm ?_
          repeat' (first | refine ff ?_ | ((first | refine sR ?_ ?_ | refine sC ?_ ?_) <;> (intro hb; (try rw [hb]); (try simp only [bb] at hb); (try (exfalso; first | omega | exact hb trivial)))) | (apply endS trivial; rotate_left; (· exact eva); (· rfl); try refine ⟨?_, rfl⟩) | fail)
          simp
      · cases hD : adOk w h wr sp lo f.e f.x f.y (scaleL mOne g.e) (scaleL mOne g.x) (scaleL mOne g.y)
        · rw [hSf, hS, hD, Bool.true_and, flRes_f, flRows_f]
          cases wr
          all_goals
            refine ret_gc rfl rfl ?_
            repeat' (first | refine ff ?_ | ((first | refine sR ?_ ?_ | refine sC ?_ ?_) <;> (intro hb; (try rw [hb]); (try simp only [bb] at hb); (try (exfalso; first | omega | exact hb trivial)))) | (apply endS trivial; rotate_left; (· exact eva); (· rfl); try refine ⟨?_, rfl⟩) | fail)
            (apply EvR.aCall h1.at_; (· exact eva); (· exact  h1.ok _ w h _ sv lv sp lo ev xv yv e x y n ⟨r1.ext _, r2.ext _⟩ n1 n2 ⟨r3.ext _, r4.ext _, r5.ext _⟩ m1 m2 m3); (rintro _ _ ⟨rfl, rfl⟩; refine EvR.nrm ?_))
            rw [hR1, flRes_t, flRows_t, ← hf]
            refine EvR.nrm ?_
            repeat' (first | refine ff ?_ | ((first | refine sR ?_ ?_ | refine sC ?_ ?_) <;> (intro hb; (try rw [hb]); (try simp only [bb] at hb); (try (exfalso; first | omega | exact hb trivial)))) | (apply endS trivial; rotate_left; (· exact eva); (· rfl); try refine ⟨?_, rfl⟩) | fail)
            (apply EvR.aCall h1.at_; (· exact eva); (· exact  h1.ok _ w h _ sv' lv' sp' lo' ev xv yv e x y n ⟨r1'.ext _, r2'.ext _⟩ n1' n2' ⟨r3.ext _, r4.ext _, r5.ext _⟩ m1 m2 m3); (rintro _ _ ⟨rfl, rfl⟩; refine EvR.nrm ?_))
            rw [hR2, flRes_t, flRows_t, ← hg]
            refine EvR.nrm ?_
            repeat' (first | refine ff ?_ | ((first | refine sR ?_ ?_ | refine sC ?_ ?_) <;> (intro hb; (try rw [hb]); (try simp only [bb] at hb); (try (exfalso; first | omega | exact hb trivial)))) | (apply endS trivial; rotate_left; (· exact eva); (· rfl); try refine ⟨?_, rfl⟩) | fail)
            (apply EvR.aCall h2.at_; (· exact eva); (· exact  h2.ok _ w h _ sv' lv' sp' lo' _ _ _ g.e g.x g.y mOne ⟨r1'.ext _, r2'.ext _⟩ n1' n2' ⟨Row.ownF rfl rfl, Row.ownF rfl rfl, Row.ownF rfl rfl⟩ z1 z2 z3); (rintro _ _ ⟨rfl, rfl⟩; refine EvR.nrm ?_))
            rw [hS, flRes_t, flRows_t]
            refine EvR.nrm ?_
            repeat' (first | refine ff ?_ | ((first | refine sR ?_ ?_ | refine sC ?_ ?_) <;> (intro hb; (try rw [hb]); (try simp only [bb] at hb); (try (exfalso; first | omega | exact hb trivial)))) | (apply endS trivial; rotate_left; (· exact eva); (· rfl); try refine ⟨?_, rfl⟩) | fail)
            (apply EvR.aCall h3.at_; (· exact eva); (· exact  h3.ok _ w h _ sv lv sp lo _ _ _ f.e f.x f.y _ _ _ (scaleL mOne g.e) (scaleL mOne g.x) (scaleL mOne g.y) ⟨r1.ext _, r2.ext _⟩ n1 n2 ⟨Row.ownF rfl rfl, Row.ownF rfl rfl, Row.ownF rfl rfl⟩ y1 y2 y3 ⟨Row.ownF rfl rfl, Row.ownF rfl rfl, Row.ownF rfl rfl⟩ (by omega) (by omega) (by omega)); (rintro _ _ ⟨rfl, rfl⟩; refine EvR.nrm ?_))
            rw [hD, flRes_f, flRows_f]
            try refine EvR.nrm ?_
            repeat' (first | refine ff ?_ | ((first | refine sR ?_ ?_ | refine sC ?_ ?_) <;> (intro hb; (try rw [hb]); (try simp only [bb] at hb); (try (exfalso; first | omega | exact hb trivial)))) | (apply endS trivial; rotate_left; (· exact eva); (· rfl); try refine ⟨?_, rfl⟩) | fail)
            simp
        · rw [hSf, hS, hD, Bool.true_and, flRes_t, flRows_t]
          cases wr
          all_goals
            refine ret_gc rfl rfl ?_
            repeat' (first | refine ff ?_ | ((first | refine sR ?_ ?_ | refine sC ?_ ?_) <;> (intro hb; (try rw [hb]); (try simp only [bb] at hb); (try (exfalso; first | omega | exact hb trivial)))) | (apply endS trivial; rotate_left; (· exact eva); (· rfl); try refine ⟨?_, rfl⟩) | fail)
            (apply EvR.aCall h1.at_; (· exact eva); (· exact  h1.ok _ w h _ sv lv sp lo ev xv yv e x y n ⟨r1.ext _, r2.ext _⟩ n1 n2 ⟨r3.ext _, r4.ext _, r5.ext _⟩ m1 m2 m3); (rintro _ _ ⟨rfl, rfl⟩; refine EvR.nrm ?_))
            rw [hR1, flRes_t, flRows_t, ← hf]
            refine EvR.nrm ?_
            repeat' (first | refine ff ?_ | ((first | refine sR ?_ ?_ | refine sC ?_ ?_) <;> (intro hb; (try rw [hb]); (try simp only [bb] at hb); (try (exfalso; first | omega | exact hb trivial)))) | (apply endS trivial; rotate_left; (· exact eva); (· rfl); try refine ⟨?_, rfl⟩) | fail)
            (apply EvR.aCall h1.at_; (· exact eva); (· exact  h1.ok _ w h _ sv' lv' sp' lo' ev xv yv e x y n ⟨r1'.ext _, r2'.ext _⟩ n1' n2' ⟨r3.ext _, r4.ext _, r5.ext _⟩ m1 m2 m3); (rintro _ _ ⟨rfl, rfl⟩; refine EvR.nrm ?_))
            rw [hR2, flRes_t, flRows_t, ← hg]
            refine EvR.nrm ?_
            repeat' (first | refine ff ?_ | ((first | refine sR ?_ ?_ | refine sC ?_ ?_) <;> (intro hb; (try rw [hb]); (try simp only [bb] at hb); (try (exfalso; first | omega | exact hb trivial)))) | (apply endS trivial; rotate_left; (· exact eva); (· rfl); try refine ⟨?_, rfl⟩) | fail)
            (apply EvR.aCall h2.at_; (· exact eva); (· exact  h2.ok _ w h _ sv' lv' sp' lo' _ _ _ g.e g.x g.y mOne ⟨r1'.ext _, r2'.ext _⟩ n1' n2' ⟨Row.ownF rfl rfl, Row.ownF rfl rfl, Row.ownF rfl rfl⟩ z1 z2 z3); (rintro _ _ ⟨rfl, rfl⟩; refine EvR.nrm ?_))
            rw [hS, flRes_t, flRows_t]
            refine EvR.nrm ?_
            repeat' (first | refine ff ?_ | ((first | refine sR ?_ ?_ | refine sC ?_ ?_) <;> (intro hb; (try rw [hb]); (try simp only [bb] at hb); (try (exfalso; first | omega | exact hb trivial)))) | (apply endS trivial; rotate_left; (· exact eva); (· rfl); try refine ⟨?_, rfl⟩) | fail)
            (apply EvR.aCall h3.at_; (· exact eva); (· exact  h3.ok _ w h _ sv lv sp lo _ _ _ f.e f.x f.y _ _ _ (scaleL mOne g.e) (scaleL mOne g.x) (scaleL mOne g.y) ⟨r1.ext _, r2.ext _⟩ n1 n2 ⟨Row.ownF rfl rfl, Row.ownF rfl rfl, Row.ownF rfl rfl⟩ y1 y2 y3 ⟨Row.ownF rfl rfl, Row.ownF rfl rfl, Row.ownF rfl rfl⟩ (by omega) (by omega) (by omega)); (rintro _ _ ⟨rfl, rfl⟩; refine EvR.nrm ?_))
            rw [hD, flRes_t, flRows_t]
            refine EvR.nrm ?_
            repeat' (first | refine ff ?_ | ((first | refine sR ?_ ?_ | refine sC ?_ ?_) <;> (intro hb; (try rw [hb]); (try simp only [bb] at hb); (try (exfalso; first | omega | exact hb trivial)))) | (apply endS trivial; rotate_left; (· exact eva); (· rfl); try refine ⟨?_, rfl⟩) | fail)
            (apply endR [16, 17, 18] trivial ⟨rfl, rfl⟩; (· exact eva); (· simp [gcTop, gcVal, gcLeaf, gcLeaves, gcVals, constOk, gc_lt, gc_lt0]); (· rfl); (· decide); (· simp [allConst, f32s, i64s, b8s, bools, constOk]))
  · have hA : sfA w h wr sp lo w' h' wr' sp' lo' e x y n = false := by unfold sfA; rw [decide_eq_false hsame]; rfl
    rw [sfOk_f hA, flRes_f, flRows_f]
    have hs2 : wr = wr' → ¬ (w = w' ∧ h = h') := fun g1 g2 => hsame ⟨g2.1, g2.2, g1⟩
    cases wr <;> cases wr'
    all_goals
      have hs3 : True := trivial
      try have hs3 := hs2 rfl
      refine ret_gc rfl rfl ?_
      repeat' (first | refine ff ?_ | ((first | refine sR ?_ ?_ | refine sC ?_ ?_) <;> (intro hb; (try rw [hb]); (try simp only [bb] at hb); (try (exfalso; first | omega | exact hb trivial)))) | (apply endS trivial; rotate_left; (· exact eva); (· rfl); try refine ⟨?_, rfl⟩) | fail)
      all_goals simp
end Go.Abs

