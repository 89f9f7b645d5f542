/- Laws of functions: steps by the program. Conditions: the laws of what they call. -/
import Derived.Test.YtdlicidmkakooaaOutlinedL51
namespace Go.Abs

set_option linter.unusedSimpArgs false
set_option linter.unusedVariables false
set_option maxHeartbeats 8000000
set_option maxRecDepth 20000
/- loop.example/g01201/impl.newValue -/
def impl_newValue_r0 : List SOper := [
 ⟨some 4, none, .box (.tmp 0), 0⟩,
 ⟨some 5, none, .box (.tmp 1), 0⟩,
 ⟨some 8, none, .mov (.const (.float .f32 0)), 0⟩]
def impl_newValue_r1 (i_impl_Sheet_at : FuncId) : List SOper := [
 ⟨some 11, none, .loadN 5 (.tmp 4), 0⟩,
 ⟨some 12, none, .mov (.tmp 2), 0⟩,
 ⟨some 13, none, .mov (.tmp 3), 0⟩,
 ⟨some 14, none, .call (.func i_impl_Sheet_at) [(.tmp 11), (.tmp 12), (.tmp 13)], 7⟩,
 ⟨some 9, none, .mov (.tmp 14), 15⟩]
def impl_newValue_r2 (i_impl_Sheet_at : FuncId) : List SOper := [
 ⟨some 15, none, .fieldAddr 2 (.tmp 5), 0⟩,
 ⟨some 16, none, .load1 (.tmp 15), 1⟩,
 ⟨some 17, none, .mov (.tmp 9), 0⟩,
 ⟨some 18, none, .indexAddrS 1 (.tmp 16) (.tmp 17), 7⟩,
 ⟨some 19, none, .load1 (.tmp 18), 15⟩,
 ⟨some 20, none, .fieldAddr 2 (.tmp 5), 0⟩,
 ⟨some 21, none, .load1 (.tmp 20), 32⟩,
 ⟨some 22, none, .loadN 5 (.tmp 4), 0⟩,
 ⟨some 23, none, .mov (.tmp 2), 0⟩,
 ⟨some 24, none, .bin .sub .other (.tmp 23) (.const (.int .i64 1)), 256⟩,
 ⟨some 25, none, .mov (.tmp 3), 0⟩,
 ⟨some 26, none, .call (.func i_impl_Sheet_at) [(.tmp 22), (.tmp 24), (.tmp 25)], 1920⟩,
 ⟨some 27, none, .indexAddrS 1 (.tmp 21) (.tmp 26), 4064⟩,
 ⟨some 28, none, .load1 (.tmp 27), 8160⟩,
 ⟨some 29, none, .bin .sub .other (.tmp 19) (.tmp 28), 16383⟩,
 ⟨some 30, none, .fieldAddr 1 (.tmp 5), 0⟩,
 ⟨some 31, none, .load1 (.tmp 30), 32768⟩,
 ⟨some 32, none, .mov (.tmp 9), 0⟩,
 ⟨some 33, none, .indexAddrS 1 (.tmp 31) (.tmp 32), 229376⟩,
 ⟨some 34, none, .load1 (.tmp 33), 491520⟩,
 ⟨some 35, none, .fieldAddr 1 (.tmp 5), 0⟩,
 ⟨some 36, none, .load1 (.tmp 35), 1048576⟩,
 ⟨some 37, none, .loadN 5 (.tmp 4), 0⟩,
 ⟨some 38, none, .mov (.tmp 2), 0⟩,
 ⟨some 39, none, .mov (.tmp 3), 0⟩,
 ⟨some 40, none, .bin .sub .other (.tmp 39) (.const (.int .i64 1)), 16777216⟩,
 ⟨some 41, none, .call (.func i_impl_Sheet_at) [(.tmp 37), (.tmp 38), (.tmp 40)], 62918528⟩,
 ⟨some 42, none, .indexAddrS 1 (.tmp 36) (.tmp 41), 133173120⟩,
 ⟨some 43, none, .load1 (.tmp 42), 267390848⟩,
 ⟨some 44, none, .bin .sub .other (.tmp 34) (.tmp 43), 536842112⟩,
 ⟨some 45, none, .bin .sub .other (.tmp 29) (.tmp 44), 1073741823⟩,
 ⟨some 10, none, .mov (.tmp 45), 2147483647⟩]
def impl_newValue_r3 : List SOper := [
 ⟨some 46, none, .fieldAddr 0 (.tmp 5), 0⟩,
 ⟨some 47, none, .load1 (.tmp 46), 1⟩,
 ⟨some 48, none, .mov (.tmp 9), 0⟩,
 ⟨some 49, none, .indexAddrS 1 (.tmp 47) (.tmp 48), 7⟩,
 ⟨some 50, none, .load1 (.tmp 49), 15⟩,
 ⟨some 51, none, .fieldAddr 4 (.tmp 4), 0⟩,
 ⟨some 52, none, .load1 (.tmp 51), 32⟩,
 ⟨some 53, none, .mov (.tmp 9), 0⟩,
 ⟨some 54, none, .indexAddrS 1 (.tmp 52) (.tmp 53), 224⟩,
 ⟨some 55, none, .load1 (.tmp 54), 480⟩,
 ⟨some 56, none, .bin .sub .other (.const (.float .f32 1065353216)) (.tmp 55), 992⟩,
 ⟨some 57, none, .bin .mul .other (.tmp 50) (.tmp 56), 2047⟩,
 ⟨some 58, none, .fieldAddr 3 (.tmp 4), 0⟩,
 ⟨some 59, none, .load1 (.tmp 58), 4096⟩,
 ⟨some 60, none, .mov (.tmp 9), 0⟩,
 ⟨some 61, none, .indexAddrS 1 (.tmp 59) (.tmp 60), 28672⟩,
 ⟨some 62, none, .load1 (.tmp 61), 61440⟩,
 ⟨some 63, none, .mov (.tmp 10), 0⟩,
 ⟨some 64, none, .bin .mul .other (.tmp 62) (.tmp 63), 258048⟩,
 ⟨some 65, none, .bin .add .other (.tmp 57) (.tmp 64), 524287⟩,
 ⟨some 8, none, .mov (.tmp 65), 1048575⟩]
def impl_newValue (i_impl_Sheet_at : FuncId) : SFunc := ⟨66, [.tmp 8], (.kp [0,1,2,3] (.seq (.region impl_newValue_r0 false) (.kp [2,3,4,5] (.seq (.region (impl_newValue_r1 i_impl_Sheet_at) false) (.kp [2,3,4,5,9] (.seq (.region (impl_newValue_r2 i_impl_Sheet_at) true) (.kp [4,5,9,10] (.seq (.region impl_newValue_r3 true) .ret))))))))⟩
theorem impl_newValue_r2_dr {i_impl_Sheet_at : FuncId} : drawOkW wStat (impl_newValue_r2 i_impl_Sheet_at) = true := by kernel_rfl
attribute [push_cast] impl_newValue_r2_dr
theorem impl_newValue_r3_dr : drawOkW wStat impl_newValue_r3 = true := by kernel_rfl
attribute [push_cast] impl_newValue_r3_dr
/- loop.example/g01201/impl.stepped -/
def impl_stepped_r0 : List SOper := [
 ⟨some 2, none, .box (.tmp 0), 0⟩,
 ⟨some 3, none, .box (.tmp 1), 0⟩,
 ⟨some 4, none, .alloc [(.slice none 0 0), (.slice none 0 0), (.slice none 0 0)], 0⟩]
def impl_stepped_r1 (i_impl_copyField : FuncId) : List SOper := [
 ⟨some 8, none, .loadN 3 (.tmp 3), 0⟩,
 ⟨some 9, none, .call (.func i_impl_copyField) [(.tmp 8)], 1⟩,
 ⟨some 5, none, .alloc [(.slice none 0 0), (.slice none 0 0), (.slice none 0 0)], 0⟩,
 ⟨none, none, .store 3 (.tmp 5) (.tmp 9), 7⟩]
def impl_stepped_r2 (i_impl_halfStep : FuncId) : List SOper := [
 ⟨some 10, none, .loadN 5 (.tmp 2), 0⟩,
 ⟨some 11, none, .call (.func i_impl_halfStep) [(.tmp 10), (.tmp 5)], 1⟩]
def impl_stepped_r3 : List SOper := [
 ⟨some 12, none, .fieldAddr 1 (.tmp 2), 0⟩,
 ⟨some 13, none, .load1 (.tmp 12), 1⟩,
 ⟨some 14, none, .mov (.const (.int .i64 0)), 0⟩]
def impl_stepped_r4 : List SOper := [
 ⟨some 15, none, .bin .lss .other (.tmp 14) (.tmp 13), 0⟩]
def impl_stepped_r5 : List SOper := [
 ⟨some 16, none, .mov (.tmp 14), 0⟩,
 ⟨some 6, none, .mov (.tmp 16), 1⟩]
def impl_stepped_r6 : List SOper := [
 ⟨some 17, none, .fieldAddr 0 (.tmp 2), 0⟩,
 ⟨some 18, none, .load1 (.tmp 17), 1⟩,
 ⟨some 19, none, .mov (.const (.int .i64 0)), 0⟩]
def impl_stepped_r7 : List SOper := [
 ⟨some 20, none, .bin .lss .other (.tmp 19) (.tmp 18), 0⟩]
def impl_stepped_r8 : List SOper := [
 ⟨some 21, none, .mov (.tmp 19), 0⟩,
 ⟨some 7, none, .mov (.tmp 21), 1⟩]
def impl_stepped_r9 (i_impl_Sheet_isBorder : FuncId) : List SOper := [
 ⟨some 22, none, .loadN 5 (.tmp 2), 0⟩,
 ⟨some 23, none, .mov (.tmp 7), 0⟩,
 ⟨some 24, none, .mov (.tmp 6), 0⟩,
 ⟨some 25, none, .call (.func i_impl_Sheet_isBorder) [(.tmp 22), (.tmp 23), (.tmp 24)], 7⟩,
 ⟨some 26, none, .un .not (.tmp 25), 15⟩]
def impl_stepped_r10 (i_impl_Sheet_at i_impl_newValue : FuncId) : List SOper := [
 ⟨some 27, none, .fieldAddr 0 (.tmp 5), 0⟩,
 ⟨some 28, none, .load1 (.tmp 27), 1⟩,
 ⟨some 29, none, .loadN 5 (.tmp 2), 0⟩,
 ⟨some 30, none, .mov (.tmp 7), 0⟩,
 ⟨some 31, none, .mov (.tmp 6), 0⟩,
 ⟨some 32, none, .call (.func i_impl_Sheet_at) [(.tmp 29), (.tmp 30), (.tmp 31)], 28⟩,
 ⟨some 33, none, .loadN 5 (.tmp 2), 0⟩,
 ⟨some 34, none, .loadN 3 (.tmp 5), 0⟩,
 ⟨some 35, none, .mov (.tmp 7), 0⟩,
 ⟨some 36, none, .mov (.tmp 6), 0⟩,
 ⟨some 37, none, .call (.func i_impl_newValue) [(.tmp 33), (.tmp 34), (.tmp 35), (.tmp 36)], 1020⟩,
 ⟨some 38, none, .indexAddrS 1 (.tmp 28) (.tmp 32), 2047⟩,
 ⟨none, none, .store 1 (.tmp 38) (.tmp 37), 4095⟩]
def impl_stepped_r11 : List SOper := [
 ⟨some 39, none, .bin .add .other (.tmp 19) (.const (.int .i64 1)), 0⟩,
 ⟨some 19, none, .mov (.tmp 39), 1⟩]
def impl_stepped_l12 (i_impl_Sheet_isBorder i_impl_Sheet_at i_impl_newValue : FuncId) : SCode := (.kp [2,4,5,6,13,14,18,19] (.seq (.region impl_stepped_r7 false) (.kp [2,4,5,6,13,14,18,19,20] (.seq (.cond (.tmp 20) .skip (.exit 2)) (.kp [2,4,5,6,13,14,18,19] (.seq (.block 3 (.seq (.region impl_stepped_r8 false) (.kp [2,4,5,6,7,13,14,18,19] (.seq (.region (impl_stepped_r9 i_impl_Sheet_isBorder) false) (.kp [2,4,5,6,7,13,14,18,19,26] (.cond (.tmp 26) (.region (impl_stepped_r10 i_impl_Sheet_at i_impl_newValue) true) .skip)))))) (.kp [2,4,5,6,13,14,18,19] (.region impl_stepped_r11 false))))))))
def impl_stepped_r13 : List SOper := [
 ⟨some 40, none, .bin .add .other (.tmp 14) (.const (.int .i64 1)), 0⟩,
 ⟨some 14, none, .mov (.tmp 40), 1⟩]
def impl_stepped_l14 (i_impl_Sheet_isBorder i_impl_Sheet_at i_impl_newValue : FuncId) : SCode := (.kp [2,4,5,13,14] (.seq (.region impl_stepped_r4 false) (.kp [2,4,5,13,14,15] (.seq (.cond (.tmp 15) .skip (.exit 0)) (.kp [2,4,5,13,14] (.seq (.block 1 (.seq (.region impl_stepped_r5 false) (.kp [2,4,5,6,13,14] (.seq (.region impl_stepped_r6 false) (.kp [2,4,5,6,13,14,18,19] (.block 2 (.loop (impl_stepped_l12 i_impl_Sheet_isBorder i_impl_Sheet_at i_impl_newValue)))))))) (.kp [2,4,5,13,14] (.region impl_stepped_r13 false))))))))
def impl_stepped_r15 : List SOper := [
 ⟨some 41, none, .loadN 3 (.tmp 5), 0⟩,
 ⟨none, none, .store 3 (.tmp 4) (.tmp 41), 1⟩]
def impl_stepped (i_impl_copyField i_impl_halfStep i_impl_Sheet_isBorder i_impl_Sheet_at i_impl_newValue : FuncId) : SFunc := ⟨42, [.cellN 4 3], (.kp [0,1] (.seq (.region impl_stepped_r0 false) (.kp [2,3,4] (.seq (.region (impl_stepped_r1 i_impl_copyField) false) (.kp [2,4,5] (.seq (.region (impl_stepped_r2 i_impl_halfStep) false) (.kp [2,4,5] (.seq (.seq (.region impl_stepped_r3 false) (.kp [2,4,5,13,14] (.block 0 (.loop (impl_stepped_l14 i_impl_Sheet_isBorder i_impl_Sheet_at i_impl_newValue))))) (.kp [4,5] (.seq (.region impl_stepped_r15 false) .ret))))))))))⟩
theorem impl_stepped_r10_dr {i_impl_Sheet_at i_impl_newValue : FuncId} : drawOkW wStat (impl_stepped_r10 i_impl_Sheet_at i_impl_newValue) = true := by kernel_rfl
attribute [push_cast] impl_stepped_r10_dr
def impl_newValue_ok (c : Contract) : Prop := ∀ (σ : Heap) (W H : Nat) (wr : Bool) (sv lv ev xv yv : Value) (N : Nat) (sp lo e x y : List Nat) (cx cy : Nat), ShR σ sv lv sp lo → FlR σ ev xv yv e x y → 3 ≤ W → W ≤ 16 → 3 ≤ H → H ≤ 16 → W * H = N → sp.length = N → lo.length = N → e.length = N → x.length = N → y.length = N → cx < W → cy < H →
    Ret c [shV W H wr sv lv, fV ev xv yv, .int .i64 cx, .int .i64 cy] σ fun v σ' => v = .float .f32 (newE W H sp lo e x y cx cy (W * cy + cx)) ∧ σ' = σ
theorem impl_newValue_law {C : Ctab} {i1 : FuncId} {c1 : Contract} (h1 : Has C i1 c1 impl_Sheet_at_ok) : impl_newValue_ok (gcC C (impl_newValue i1) true) := by
  intro σ W H wr sv lv ev xv yv N sp lo e x y cx cy ⟨r1, r2⟩ ⟨r3, r4, r5⟩ a1 a2 a3 a4 hN e1 e2 e3 e4 e5 hx hy
  have hN2 : W * H ≤ 256 := Nat.mul_le_mul a2 a4
  have k1 := r1.ok
  have k2 := r2.ok
  have hlt := cell_lt hx hy
  obtain ⟨j, hj⟩ : ∃ j, j = W * cy + cx := ⟨_, rfl⟩
  have at0 : atC W H cx cy = (j : Int) := by rw [atC_cell hx hy, hj]
  have at1 := atC_atN (W := W) (H := H) (u := cx) (v := (cy : Int) - 1) a1 a3 (by omega) (by omega) (by omega) (by omega)
  have at2 := atC_atN (W := W) (H := H) (u := (cx : Int) - 1) (v := cy) a1 a3 (by omega) (by omega) (by omega) (by omega)
  have bt1 := atN_lt (W := W) (H := H) (u := cx) (v := (cy : Int) - 1) a1 a3 (by omega) (by omega) (by omega) (by omega)
  have bt2 := atN_lt (W := W) (H := H) (u := (cx : Int) - 1) (v := cy) a1 a3 (by omega) (by omega) (by omega) (by omega)
  rw [← hj]
  unfold newE
  refine ret_gc rfl rfl ?_
  repeat' (first | refine ff ?_ | (apply EvR.aCall h1.at_; (· exact eva); (· apply h1.ok <;> exact sid); (rintro _ _ ⟨rfl, rfl⟩; refine EvR.nrm ?_; try simp only [at0, at1, at2])) | ((first | refine sR ?_ ?_ | refine sC ?_ ?_) <;> (intro hb; (try rw [hb]); (try simp only [bb] at hb); (try (exfalso; first | omega | exact hb trivial)))) | (apply endS trivial; rotate_left; (· exact eva); (· rfl); try refine ⟨?_, rfl⟩) | fail)
  rfl

theorem newE_pre {W H : Nat} {sp lo e x y : List Nat} {g : Nat → Nat} {cx cy : Int} {j : Nat} (h : j < e.length) : newE W H sp lo (preM g e j) x y cx cy j = newE W H sp lo e x y cx cy j := by
  unfold newE; rw [preM_get h]
def impl_stepped_ok (c : Contract) : Prop := ∀ (σ : Heap) (W H : Nat) (wr : Bool) (sv lv ev xv yv : Value) (N : Nat) (sp lo e x y : List Nat), ShR σ sv lv sp lo → FlR σ ev xv yv e x y → 3 ≤ W → W ≤ 16 → 3 ≤ H → H ≤ 16 → W * H = N → sp.length = N → lo.length = N → e.length = N → x.length = N → y.length = N →
    Ret c [shV W H wr sv lv, fV ev xv yv] σ fun v σ' => v = fV (slV σ.length N) (slV (σ.length + 1) N) (slV (σ.length + 2) N) ∧
      σ' = σ ++ [rowO (stepE W H wr sp lo e (halfX W H wr e x) (halfY W H wr e y)), rowO (halfX W H wr e x), rowO (halfY W H wr e y)]
theorem impl_stepped_law {C : Ctab} {i1 i2 i3 i4 i5 : FuncId} {c1 c2 c3 c4 c5 : Contract} (h1 : Has C i1 c1 impl_copyField_ok) (h2 : HasW C i2 c2 impl_halfStep_ok) (h3 : Has C i3 c3 impl_Sheet_isBorder_ok) (h4 : Has C i4 c4 impl_Sheet_at_ok) (h5 : Has C i5 c5 impl_newValue_ok) :
    impl_stepped_ok (gcC C (impl_stepped i1 i2 i3 i4 i5) true) := by
  intro σ W H wr sv lv ev xv yv N sp lo e x y ⟨r1, r2⟩ ⟨r3, r4, r5⟩ a1 a2 a3 a4 hN e1 e2 e3 e4 e5
  have hN2 : W * H ≤ 256 := Nat.mul_le_mul a2 a4
  have k1 := r1.ok
  have k2 := r2.ok
  obtain ⟨X, hX⟩ : ∃ X, X = halfX W H wr e x := ⟨_, rfl⟩
  obtain ⟨Y, hY⟩ : ∃ Y, Y = halfY W H wr e y := ⟨_, rfl⟩
  have lX : X.length = N := by rw [hX, newM_length]; exact e4
  have lY : Y.length = N := by rw [hY, newM_length]; exact e5
  obtain ⟨g, hg⟩ : ∃ g, g = seF W H wr sp lo e X Y := ⟨_, rfl⟩
  show Ret _ _ _ fun v σ' => v = fV (slV σ.length N) (slV (σ.length + 1) N) (slV (σ.length + 2) N) ∧ σ' = σ ++ [rowO (newM (seF W H wr sp lo e (halfX W H wr e x) (halfY W H wr e y)) e), rowO (halfX W H wr e x), rowO (halfY W H wr e y)]
  rw [← hX, ← hY, ← hg]
  refine ret_gc rfl rfl ?_
  repeat' (first | refine ff ?_ | (apply EvR.aCall h1.at_; (· exact eva); (· apply h1.ok <;> exact sid); (rintro _ _ ⟨rfl, rfl⟩; refine EvR.nrm ?_)) | ((first | refine sR ?_ ?_ | refine sC ?_ ?_) <;> (intro hb; (try rw [hb]); (try simp only [bb] at hb); (try (exfalso; first | omega | exact hb trivial)))) | (apply endS trivial; rotate_left; (· exact eva); (· rfl); try refine ⟨?_, rfl⟩) | fail)
  rw [e3, e4, e5]
  (apply EvR.aCall h2.at_; (· exact eva); (· exact  h2.ok _ (σ.length + 6) W H wr sv lv (σ.length + 3) (σ.length + 4) (σ.length + 5) N e x y true k1 k2 a1 a2 a3 a4 (by omega) (by omega) (by omega) hN e3 e4 e5 (hget _ _ 6) (hget _ _ 3) (hget _ _ 4) (hget _ _ 5)); (rintro _ _ ⟨rfl, rfl⟩; refine EvR.nrm ?_))
  have hPH : ∀ (Z : List AObj), PH (σ ++ Z) (σ.length + 3) (σ.length + 4) (σ.length + 5) (rowO e) (rowO (halfX W H wr e x)) (rowO (halfY W H wr e y)) = σ ++ ((Z.set 3 (rowO e)).set 4 (rowO X)).set 5 (rowO Y) := fun Z => by
    unfold PH; rw [set_app, set_app, set_app, ← hX, ← hY]
  rw [hPH]
  refine EvR.nrm ?_
  repeat' (first | refine ff ?_ | ((first | refine sR ?_ ?_ | refine sC ?_ ?_) <;> (intro hb; (try rw [hb]); (try simp only [bb] at hb); (try (exfalso; first | omega | exact hb trivial)))) | (apply endS trivial; rotate_left; (· exact eva); (· rfl); try refine ⟨?_, rfl⟩) | fail)
  refine Ev.whlH (S := Nat) (fun cy => H - cy) (fun cy => [(14, .int .i64 cy)]) (fun cy => σ ++ [⟨[.int .i64 W, .int .i64 H, .bool wr, sv, lv], 0, true⟩, ⟨[ev, xv, yv], 0, true⟩, ⟨[.slice none 0 0, .slice none 0 0, .slice none 0 0], 0, true⟩, rowO (preM g e (W * cy)), rowO X, rowO Y,
    ⟨[slV (σ.length + 3) N, slV (σ.length + 4) N, slV (σ.length + 5) N], 0, true⟩]) (fun cy => cy ≤ H) 0 (by exact tF) (by rw [Nat.mul_zero, preM_zero]) (Nat.zero_le _) ?_
  rintro cy F hF hi
  (simp only [List.cons_append, List.nil_append, ↓fget_cons, fkeep_cons, fkeep_nil, Nat.reduceEqDiff, reduceIte] at hF; subst hF)
  by_cases hlt : cy < H
  · repeat' (first | refine ff ?_ | ((first | refine sR ?_ ?_ | refine sC ?_ ?_) <;> (intro hb; (try rw [hb]); (try simp only [bb] at hb); (try (exfalso; first | omega | exact hb trivial)))) | (apply endS trivial; rotate_left; (· exact eva); (· rfl); try refine ⟨?_, rfl⟩) | fail)
    refine Ev.whlH (S := Nat) (fun cx => W - cx) (fun cx => [(19, .int .i64 cx)]) (fun cx => σ ++ [⟨[.int .i64 W, .int .i64 H, .bool wr, sv, lv], 0, true⟩, ⟨[ev, xv, yv], 0, true⟩, ⟨[.slice none 0 0, .slice none 0 0, .slice none 0 0], 0, true⟩, rowO (preM g e (W * cy + cx)), rowO X, rowO Y,
      ⟨[slV (σ.length + 3) N, slV (σ.length + 4) N, slV (σ.length + 5) N], 0, true⟩]) (fun cx => cx ≤ W) 0 (by exact tF) rfl (Nat.zero_le _) ?_
    rintro cx F hF hi2
    (simp only [List.cons_append, List.nil_append, ↓fget_cons, fkeep_cons, fkeep_nil, Nat.reduceEqDiff, reduceIte] at hF; subst hF)
    have hWs : W * cy + W ≤ N := by rw [← hN, ← Nat.mul_succ]; exact Nat.mul_le_mul_left W hlt
    by_cases hlt2 : cx < W
    · obtain ⟨j, hj⟩ : ∃ j, j = W * cy + cx := ⟨_, rfl⟩
      have at0 : atC W H cx cy = (j : Int) := by rw [atC_cell hlt2 hlt, hj]
      have vg : g j = seC W H wr sp lo e X Y cx cy j := by rw [hg, hj, seF_at hlt2]
      have lg := preM_length (g := g) (xs := e) (j := j) (by omega)
      have qg := preM_set (g := g) (xs := e) (j := j) (by omega)
      have eg := preM_skip (g := g) (xs := e) (j := j) (by omega)
      rw [← hj]
      unfold seC at vg
      cases hbd : border W H wr cx cy
      · rw [if_neg (by rw [hbd]; simp)] at vg
        repeat' (first | refine ff ?_ | (apply EvR.aCall h3.at_; (· exact eva); (· apply h3.ok <;> exact sid); (rintro _ _ ⟨rfl, rfl⟩; refine EvR.nrm ?_; try simp only [hbd, at0])) | (apply EvR.aCall h4.at_; (· exact eva); (· apply h4.ok <;> exact sid); (rintro _ _ ⟨rfl, rfl⟩; refine EvR.nrm ?_; try simp only [hbd, at0])) | ((first | refine sR ?_ ?_ | refine sC ?_ ?_) <;> (intro hb; (try rw [hb]); (try simp only [bb] at hb); (try (exfalso; first | omega | exact hb trivial)))) | (apply endS trivial; rotate_left; (· exact eva); (· rfl); try refine ⟨?_, rfl⟩) | fail)
        (apply EvR.aCall h5.at_; (· exact eva); (· exact  h5.ok _ W H wr sv lv (slV (σ.length + 3) N) (slV (σ.length + 4) N) (slV (σ.length + 5) N) N sp lo (preM g e j) X Y cx cy ⟨r1.ext _, r2.ext _⟩ ⟨by rw [← e3, ← lg]; exact Row.own rfl (by omega) (by rw [f32s_length]; omega), by rw [← lX]; exact Row.own rfl (by omega) (by rw [f32s_length]; omega), by rw [← lY]; exact Row.own rfl (by omega) (by rw [f32s_length]; omega)⟩ a1 a2 a3 a4 hN e1 e2 (by omega) lX lY hlt2 hlt); (rintro _ _ ⟨rfl, rfl⟩; refine EvR.nrm ?_))
        rw [← hj, newE_pre (by omega), ← vg]
        repeat' (first | refine ff ?_ | ((first | refine sR ?_ ?_ | refine sC ?_ ?_) <;> (intro hb; (try rw [hb]); (try simp only [bb] at hb); (try (exfalso; first | omega | exact hb trivial)))) | (apply endS trivial; rotate_left; (· exact eva); (· rfl); try refine ⟨?_, rfl⟩) | fail)
        exact ⟨cx + 1, by omega, by exact tF, by rw [qg, hj]; rfl, by omega⟩
      · rw [if_pos hbd] at vg
        repeat' (first | refine ff ?_ | (apply EvR.aCall h3.at_; (· exact eva); (· apply h3.ok <;> exact sid); (rintro _ _ ⟨rfl, rfl⟩; refine EvR.nrm ?_; try simp only [hbd, at0])) | (apply EvR.aCall h4.at_; (· exact eva); (· apply h4.ok <;> exact sid); (rintro _ _ ⟨rfl, rfl⟩; refine EvR.nrm ?_; try simp only [hbd, at0])) | ((first | refine sR ?_ ?_ | refine sC ?_ ?_) <;> (intro hb; (try rw [hb]); (try simp only [bb] at hb); (try (exfalso; first | omega | exact hb trivial)))) | (apply endS trivial; rotate_left; (· exact eva); (· rfl); try refine ⟨?_, rfl⟩) | fail)
        rw [eg vg]
        exact ⟨cx + 1, by omega, by exact tF, by rw [hj]; rfl, by omega⟩
    · obtain rfl : cx = W := by omega
      repeat' (first | refine ff ?_ | ((first | refine sR ?_ ?_ | refine sC ?_ ?_) <;> (intro hb; (try rw [hb]); (try simp only [bb] at hb); (try (exfalso; first | omega | exact hb trivial)))) | (apply endS trivial; rotate_left; (· exact eva); (· rfl); try refine ⟨?_, rfl⟩) | fail)
      exact ⟨cy + 1, by omega, by exact tF, by rw [Nat.mul_succ], by omega⟩
  · obtain rfl : cy = H := by omega
    repeat' (first | refine ff ?_ | ((first | refine sR ?_ ?_ | refine sC ?_ ?_) <;> (intro hb; (try rw [hb]); (try simp only [bb] at hb); (try (exfalso; first | omega | exact hb trivial)))) | (apply endS trivial; rotate_left; (· exact eva); (· rfl); try refine ⟨?_, rfl⟩) | fail)
    rw [hN, show preM g e N = newM g e from by rw [← e3]; exact preM_end]
    (apply endR [3, 4, 5] trivial ⟨rfl, rfl⟩; (· exact eva); (· simp [gcTop, gcVal, gcLeaf, gcLeaves, gcVals, constOk, gc_lt, gc_lt0]); (· rfl); (· decide); (· simp [allConst, f32s, i64s, b8s, bools, constOk]))
end Go.Abs

