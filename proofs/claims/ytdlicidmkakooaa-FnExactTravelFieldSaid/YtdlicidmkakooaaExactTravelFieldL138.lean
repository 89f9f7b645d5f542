/- Laws of functions: orders of waves that travel, sides and speeds, sheets of one speed without losses. Conditions: the laws of what they call. -/
import Derived.Test.YtdlicidmkakooaaExactTravelFieldL137
import Derived.Test.YtdlicidmkakooaaExactTravelFieldL88
import Derived.Test.YtdlicidmkakooaaExactTravelFieldL03
namespace Go.Abs

set_option linter.unusedSimpArgs false
set_option linter.unusedVariables false
set_option maxHeartbeats 8000000
set_option maxRecDepth 20000
/- loop.example/g01201/impl.isPlain -/
def impl_isPlain_r0 : List SOper := [
 ⟨some 1, none, .box (.tmp 0), 0⟩,
 ⟨some 2, none, .mov (.const (.bool false)), 0⟩]
def impl_isPlain_r1 : List SOper := [
 ⟨some 6, none, .fieldAddr 3 (.tmp 1), 0⟩,
 ⟨some 7, none, .load1 (.tmp 6), 1⟩,
 ⟨some 8, none, .indexAddrS 1 (.tmp 7) (.const (.int .i64 0)), 3⟩,
 ⟨some 9, none, .load1 (.tmp 8), 7⟩,
 ⟨some 3, none, .mov (.tmp 9), 15⟩]
def impl_isPlain_r2 : List SOper := [
 ⟨some 10, none, .fieldAddr 3 (.tmp 1), 0⟩,
 ⟨some 11, none, .load1 (.tmp 10), 1⟩,
 ⟨some 12, none, .len false (.tmp 11), 3⟩,
 ⟨some 13, none, .mov (.const (.int .i64 0)), 0⟩]
def impl_isPlain_r3 : List SOper := [
 ⟨some 14, none, .bin .lss .other (.tmp 13) (.tmp 12), 0⟩]
def impl_isPlain_r4 : List SOper := [
 ⟨some 15, none, .mov (.tmp 13), 0⟩,
 ⟨some 16, none, .indexAddrS 1 (.tmp 11) (.tmp 13), 0⟩,
 ⟨some 17, none, .load1 (.tmp 16), 2⟩,
 ⟨some 4, none, .mov (.tmp 15), 7⟩,
 ⟨some 5, none, .mov (.tmp 17), 15⟩]
def impl_isPlain_r5 (i_impl_SameNumber i_impl_BitsOf : FuncId) : List SOper := [
 ⟨some 18, none, .mov (.tmp 5), 0⟩,
 ⟨some 19, none, .mov (.tmp 3), 0⟩,
 ⟨some 20, none, .call (.func i_impl_SameNumber) [(.tmp 18), (.tmp 19)], 3⟩,
 ⟨some 21, none, .un .not (.tmp 20), 7⟩,
 ⟨some 22, none, .mov (.tmp 21), 15⟩,
  ⟨(some 23), (some (22, false)), .mov (.tmp 5), 31⟩,
  ⟨(some 24), (some (22, false)), .bin .gtr .other (.tmp 23) (.const (.float .f32 0)), 63⟩,
  ⟨(some 25), (some (22, false)), .un .not (.tmp 24), 127⟩,
 ⟨some 26, none, .pick (.tmp 22) (.const (.bool true)) (.tmp 25), 255⟩,
 ⟨some 27, none, .mov (.tmp 26), 511⟩,
  ⟨(some 28), (some (27, false)), .fieldAddr 4 (.tmp 1), 1023⟩,
  ⟨(some 29), (some (27, false)), .load1 (.tmp 28), 2047⟩,
  ⟨(some 30), (some (27, false)), .mov (.tmp 4), 1023⟩,
  ⟨(some 31), (some (27, false)), .indexAddrS 1 (.tmp 29) (.tmp 30), 8191⟩,
  ⟨(some 32), (some (27, false)), .load1 (.tmp 31), 16383⟩,
  ⟨(some 33), (some (27, false)), .call (.func i_impl_BitsOf) [(.tmp 32)], 32767⟩,
  ⟨(some 34), (some (27, false)), .bin .neq .other (.tmp 33) (.const (.int .i64 0)), 65535⟩,
 ⟨some 35, none, .pick (.tmp 27) (.const (.bool true)) (.tmp 34), 131071⟩]
def impl_isPlain_r6 : List SOper := [
 ⟨some 2, none, .mov (.const (.bool false)), 0⟩]
def impl_isPlain_r7 : List SOper := [
 ⟨some 36, none, .bin .add .other (.tmp 13) (.const (.int .i64 1)), 0⟩,
 ⟨some 13, none, .mov (.tmp 36), 1⟩]
def impl_isPlain_l8 (i_impl_SameNumber i_impl_BitsOf : FuncId) : SCode := (.kp [1,3,11,12,13] (.seq (.region impl_isPlain_r3 false) (.kp [1,3,11,12,13,14] (.seq (.cond (.tmp 14) .skip (.exit 0)) (.kp [1,3,11,12,13] (.seq (.block 1 (.seq (.region impl_isPlain_r4 false) (.kp [1,3,4,5,11,12,13] (.seq (.region (impl_isPlain_r5 i_impl_SameNumber i_impl_BitsOf) false) (.kp [1,3,11,12,13,35] (.cond (.tmp 35) (.seq (.region impl_isPlain_r6 false) .ret) .skip)))))) (.kp [1,3,11,12,13] (.region impl_isPlain_r7 false))))))))
def impl_isPlain_r9 : List SOper := [
 ⟨some 2, none, .mov (.const (.bool true)), 0⟩]
def impl_isPlain (i_impl_SameNumber i_impl_BitsOf : FuncId) : SFunc := ⟨37, [.tmp 2], (.kp [0] (.seq (.region impl_isPlain_r0 false) (.kp [1] (.seq (.region impl_isPlain_r1 false) (.kp [1,3] (.seq (.seq (.region impl_isPlain_r2 false) (.kp [1,3,11,12,13] (.block 0 (.loop (impl_isPlain_l8 i_impl_SameNumber i_impl_BitsOf))))) (.kp [] (.seq (.region impl_isPlain_r9 false) .ret))))))))⟩

/- loop.example/g01201/spec.l08Plain -/
def spec_l08Plain_r0 : List SOper := [
 ⟨some 2, none, .mov (.const (.bool false)), 0⟩]
def spec_l08Plain_r1 : List SOper := [
 ⟨some 3, none, .mov (.const (.int .i64 0)), 0⟩]
def spec_l08Plain_r2 : List SOper := [
 ⟨some 4, none, .mov (.tmp 3), 0⟩,
 ⟨some 5, none, .mov (.tmp 0), 0⟩,
 ⟨some 6, none, .nilCheck (.tmp 5), 2⟩,
 ⟨some 7, none, .fieldAddr 3 (.tmp 6), 6⟩,
 ⟨some 8, none, .load1 (.tmp 7), 14⟩,
 ⟨some 9, none, .len false (.tmp 8), 30⟩,
 ⟨some 10, none, .bin .lss .other (.tmp 4) (.tmp 9), 63⟩]
def spec_l08Plain_r3 (i_spec_l01Same : FuncId) : List SOper := [
 ⟨some 13, none, .mov (.tmp 0), 0⟩,
 ⟨some 14, none, .nilCheck (.tmp 13), 1⟩,
 ⟨some 15, none, .fieldAddr 3 (.tmp 14), 3⟩,
 ⟨some 16, none, .load1 (.tmp 15), 7⟩,
 ⟨some 17, none, .mov (.tmp 3), 0⟩,
 ⟨some 18, none, .indexAddrS 1 (.tmp 16) (.tmp 17), 31⟩,
 ⟨some 19, none, .load1 (.tmp 18), 63⟩,
 ⟨some 20, none, .mov (.tmp 0), 0⟩,
 ⟨some 21, none, .nilCheck (.tmp 20), 128⟩,
 ⟨some 22, none, .fieldAddr 3 (.tmp 21), 384⟩,
 ⟨some 23, none, .load1 (.tmp 22), 896⟩,
 ⟨some 24, none, .indexAddrS 1 (.tmp 23) (.const (.int .i64 0)), 1920⟩,
 ⟨some 25, none, .load1 (.tmp 24), 3968⟩,
 ⟨some 26, none, .call (.func i_spec_l01Same) [(.tmp 19), (.tmp 25)], 8191⟩,
 ⟨some 27, none, .un .not (.tmp 26), 16383⟩,
 ⟨some 28, none, .mov (.tmp 27), 32767⟩,
  ⟨(some 29), (some (28, false)), .mov (.tmp 0), 65535⟩,
  ⟨(some 30), (some (28, false)), .nilCheck (.tmp 29), 131071⟩,
  ⟨(some 31), (some (28, false)), .fieldAddr 4 (.tmp 30), 262143⟩,
  ⟨(some 32), (some (28, false)), .load1 (.tmp 31), 524287⟩,
  ⟨(some 33), (some (28, false)), .mov (.tmp 3), 65535⟩,
  ⟨(some 34), (some (28, false)), .indexAddrS 1 (.tmp 32) (.tmp 33), 2097151⟩,
  ⟨(some 35), (some (28, false)), .load1 (.tmp 34), 4194303⟩,
  ⟨(some 36), (some (28, false)), .call (.func i_spec_l01Same) [(.tmp 35), (.const (.float .f32 0))], 8388607⟩,
  ⟨(some 37), (some (28, false)), .un .not (.tmp 36), 16777215⟩,
 ⟨some 38, none, .pick (.tmp 28) (.const (.bool true)) (.tmp 37), 33554431⟩]
def spec_l08Plain_r4 : List SOper := [
 ⟨some 2, none, .mov (.const (.bool false)), 0⟩]
def spec_l08Plain_r5 : List SOper := [
 ⟨some 11, none, .mov (.tmp 3), 0⟩,
 ⟨some 12, none, .bin .add .other (.tmp 11) (.const (.int .i64 1)), 1⟩,
 ⟨some 3, none, .mov (.tmp 12), 3⟩]
def spec_l08Plain_l6 (i_spec_l01Same : FuncId) : SCode := (.kp [0,3] (.seq (.seq (.region spec_l08Plain_r2 false) (.kp [0,3,10] (.cond (.tmp 10) .skip (.exit 0)))) (.kp [0,3] (.seq (.block 1 (.seq (.region (spec_l08Plain_r3 i_spec_l01Same) true) (.kp [0,3,38] (.cond (.tmp 38) (.seq (.region spec_l08Plain_r4 false) .ret) .skip)))) (.kp [0,3] (.region spec_l08Plain_r5 false))))))
def spec_l08Plain_r7 : List SOper := [
 ⟨some 39, none, .mov (.tmp 0), 0⟩,
 ⟨some 40, none, .nilCheck (.tmp 39), 1⟩,
 ⟨some 41, none, .fieldAddr 3 (.tmp 40), 3⟩,
 ⟨some 42, none, .load1 (.tmp 41), 7⟩,
 ⟨some 43, none, .indexAddrS 1 (.tmp 42) (.const (.int .i64 0)), 15⟩,
 ⟨some 44, none, .load1 (.tmp 43), 31⟩,
 ⟨some 45, none, .bin .gtr .other (.tmp 44) (.const (.float .f32 0)), 63⟩,
 ⟨some 2, none, .mov (.tmp 45), 127⟩]
def spec_l08Plain (i_spec_l01Same : FuncId) : SFunc := ⟨46, [.tmp 2], (.kp [0] (.seq (.region spec_l08Plain_r0 false) (.kp [0] (.seq (.seq (.region spec_l08Plain_r1 false) (.kp [0,3] (.block 0 (.loop (spec_l08Plain_l6 i_spec_l01Same))))) (.kp [0] (.seq (.region spec_l08Plain_r7 false) .ret))))))⟩
theorem spec_l08Plain_r3_dr {i_spec_l01Same : FuncId} : drawOkW wStat (spec_l08Plain_r3 i_spec_l01Same) = true := by kernel_rfl
attribute [push_cast] spec_l08Plain_r3_dr
abbrev orders_ok (c : Contract) : Prop := ∀ (σ : Heap) (m n : Int), Ret c [.int .i64 m, .int .i64 n] σ fun v σ' => v = .bool (ordB m n) ∧ σ' = σ
abbrev impl_areOrders_ok := orders_ok
abbrev spec_l08Travels_ok := orders_ok
theorem ordB_in (m n : Int) : ordB m n = (inR m (-8) 8 && inR n (-8) 8 && (m != 0 || n != 0)) := rfl
theorem impl_areOrders_law {C : Ctab} {i1 : FuncId} {c1 : Contract} (h1 : Has C i1 c1 impl_within_ok) : impl_areOrders_ok (gcC C (impl_areOrders i1) true) := by
  intro σ m n
  rw [ordB_in]
  cases ha : inR m (-8) 8 <;> cases hb : inR n (-8) 8
  all_goals
    refine ret_gc rfl rfl ?_
    repeat' (first | refine ff ?_ | (apply EvR.aCall h1.at_; (· exact eva); (· apply h1.ok <;> exact sid); (rintro _ _ ⟨rfl, rfl⟩; refine EvR.nrm ?_; try simp only [ha, hb])) | ((first | refine sR ?_ ?_ | refine sC ?_ ?_) <;> (intro hb; (try rw [hb]); (try simp only [bb] at hb); (try (exfalso; first | omega | exact hb trivial)))) | (apply endS trivial; rotate_left; (· exact eva); (· rfl); try refine ⟨?_, rfl⟩) | fail)
    all_goals (try simp_all)
    all_goals (try (by_cases hn0 : n = 0 <;> simp_all))
theorem spec_l08Travels_law {C : Ctab} {i1 : FuncId} {c1 : Contract} (h1 : Has C i1 c1 spec_l00In_ok) : spec_l08Travels_ok (gcC C (spec_l08Travels i1) true) := by
  intro σ m n
  rw [ordB_in]
  cases ha : inR m (-8) 8 <;> cases hb : inR n (-8) 8
  all_goals
    refine ret_gc rfl rfl ?_
    repeat' (first | refine ff ?_ | (apply EvR.aCall h1.at_; (· exact eva); (· apply h1.ok <;> exact sid); (rintro _ _ ⟨rfl, rfl⟩; refine EvR.nrm ?_; try simp only [ha, hb])) | ((first | refine sR ?_ ?_ | refine sC ?_ ?_) <;> (intro hb; (try rw [hb]); (try simp only [bb] at hb); (try (exfalso; first | omega | exact hb trivial)))) | (apply endS trivial; rotate_left; (· exact eva); (· rfl); try refine ⟨?_, rfl⟩) | fail)
    all_goals (try simp_all)
    all_goals (try (by_cases hn0 : n = 0 <;> simp_all))
/-! Sheets of one speed. -/
def goodP (sp lo : List Nat) (j : Nat) : Bool := decide (bitsC (sp.getD j 0) = bitsC (sp.getD 0 0)) && decide (bitsC (lo.getD j 0) = 0)
def plainB (sp lo : List Nat) : Bool := ((List.range sp.length).all (goodP sp lo)) && fgt .f32 (sp.getD 0 0) 0
theorem fgt_nan {a b : Nat} (h : isNaN .f32 a = true) : fgt .f32 a b = false := by
  unfold fgt; rw [order_nan (.inl h)]; rfl
theorem fgt_same {a b : Nat} (h : bitsC a = bitsC b) : fgt .f32 a 0 = fgt .f32 b 0 := by
  cases ha : isNaN .f32 a <;> cases hb : isNaN .f32 b
  · rw [bitsC_f ha, bitsC_f hb] at h; rw [h]
  · rw [bitsC_f ha, bitsC_n hb] at h; exact absurd h (bitsC_ne ha)
  · rw [bitsC_n ha, bitsC_f hb] at h; exact absurd h.symm (bitsC_ne hb)
  · rw [fgt_nan ha, fgt_nan hb]
theorem plain_no {sp lo : List Nat} {j : Nat} (hj : j < sp.length) (h : goodP sp lo j = false ∨ fgt .f32 (sp.getD j 0) 0 = false) : plainB sp lo = false := by
  unfold plainB
  by_cases hg : goodP sp lo j = true
  · rcases h with h | h
    · rw [hg] at h; cases h
    · have h2 : bitsC (sp.getD j 0) = bitsC (sp.getD 0 0) := by
        unfold goodP at hg; rw [Bool.and_eq_true, decide_eq_true_eq] at hg; exact hg.1
      rw [← fgt_same h2, h, Bool.and_false]
  · have : ((List.range sp.length).all (goodP sp lo)) = false := by
      cases ha : (List.range sp.length).all (goodP sp lo)
      · rfl
      · exact absurd (List.all_eq_true.1 ha j (List.mem_range.2 hj)) hg
    rw [this, Bool.false_and]
theorem plain_yes {sp lo : List Nat} (h : ∀ j, j < sp.length → goodP sp lo j = true) : plainB sp lo = fgt .f32 (sp.getD 0 0) 0 := by
  unfold plainB
  rw [List.all_eq_true.2 fun j hj => h j (List.mem_range.1 hj), Bool.true_and]
theorem getD_mem {xs : List Nat} {i : Nat} (h : i < xs.length) : xs.getD i 0 ∈ xs := by
  rw [List.getD_eq_getElem?_getD, List.getElem?_eq_getElem h]; exact List.getElem_mem h
theorem bits_zero : bitsC 0 = 0 := by decide +kernel
def impl_isPlain_ok (c : Contract) : Prop := ∀ (σ : Heap) (w h : Int) (wr : Bool) (sv lv : Value) (sp lo : List Nat), ShR σ sv lv sp lo → sp.length ≤ 1048576 → lo.length ≤ 1048576 → 0 < sp.length → sp.length ≤ lo.length → (∀ x ∈ sp, x < 4294967296) → (∀ x ∈ lo, x < 4294967296) →
    Ret c [shV w h wr sv lv] σ fun v σ' => v = .bool (plainB sp lo) ∧ σ' = σ
theorem impl_isPlain_law {C : Ctab} {i1 i2 : FuncId} {c1 c2 : Contract} (h1 : Has C i1 c1 impl_SameNumberN_ok) (h2 : Has C i2 c2 impl_BitsOf_ok) : impl_isPlain_ok (gcC C (impl_isPlain i1 i2) true) := by
  intro σ w h wr sv lv sp lo ⟨r1, r2⟩ hn1 hn2 h0 hle hs hl
  have k1 := r1.ok
  have k2 := r2.ok
  refine ret_gc rfl rfl ?_
  repeat' (first | refine ff ?_ | ((first | refine sR ?_ ?_ | refine sC ?_ ?_) <;> (intro hb; (try rw [hb]); (try simp only [bb] at hb); (try (exfalso; first | omega | exact hb trivial)))) | (apply endS trivial; rotate_left; (· exact eva); (· rfl); try refine ⟨?_, rfl⟩) | fail)
  refine Ev.whlC (S := Nat) (fun i => sp.length - i) (fun i => [(13, .int .i64 i)]) (fun i => i ≤ sp.length ∧ ∀ j, j < i → goodP sp lo j = true ∧ fgt .f32 (sp.getD j 0) 0 = true) 0 (by exact tF) ⟨Nat.zero_le _, fun j hj => by omega⟩ ?_
  rintro i F hF ⟨hi, hp⟩
  (simp only [List.cons_append, List.nil_append, ↓fget_cons, fkeep_cons, fkeep_nil, Nat.reduceEqDiff, reduceIte] at hF; subst hF)
  by_cases hlt : i < sp.length
  · have b1 := hs _ (getD_mem hlt)
    have b2 := hs _ (getD_mem h0)
    have b3 := hl _ (getD_mem (show i < lo.length by omega))
    cases g1 : decide (bitsC (sp.getD i 0) = bitsC (sp.getD 0 0))
    · rw [plain_no hlt (.inl (by unfold goodP; rw [g1, Bool.false_and]))]
      repeat' (first | refine ff ?_ | (apply EvR.aCall h1.at_; (· exact eva); (· apply h1.ok <;> exact sid); (rintro _ _ ⟨rfl, rfl⟩; refine EvR.nrm ?_; try simp only [g1])) | (apply EvR.aCall h2.at_; (· exact eva); (· apply h2.ok <;> exact sid); (rintro _ _ ⟨rfl, rfl⟩; refine EvR.nrm ?_; try simp only [g1])) | ((first | refine sR ?_ ?_ | refine sC ?_ ?_) <;> (intro hb; (try rw [hb]); (try simp only [bb] at hb); (try (exfalso; first | omega | exact hb trivial)))) | (apply endS trivial; rotate_left; (· exact eva); (· rfl); try refine ⟨?_, rfl⟩) | fail)
      all_goals (try rfl)
    cases g2 : fgt .f32 (sp.getD i 0) 0
    · rw [plain_no hlt (.inr g2)]
      repeat' (first | refine ff ?_ | (apply EvR.aCall h1.at_; (· exact eva); (· apply h1.ok <;> exact sid); (rintro _ _ ⟨rfl, rfl⟩; refine EvR.nrm ?_; try simp only [g1, g2])) | (apply EvR.aCall h2.at_; (· exact eva); (· apply h2.ok <;> exact sid); (rintro _ _ ⟨rfl, rfl⟩; refine EvR.nrm ?_; try simp only [g1, g2])) | ((first | refine sR ?_ ?_ | refine sC ?_ ?_) <;> (intro hb; (try rw [hb]); (try simp only [bb] at hb); (try (exfalso; first | omega | exact hb trivial)))) | (apply endS trivial; rotate_left; (· exact eva); (· rfl); try refine ⟨?_, rfl⟩) | fail)
      all_goals (try simp_all)
    by_cases g3 : bitsC (lo.getD i 0) = 0
    · repeat' (first | refine ff ?_ | (apply EvR.aCall h1.at_; (· exact eva); (· apply h1.ok <;> exact sid); (rintro _ _ ⟨rfl, rfl⟩; refine EvR.nrm ?_; try simp only [g1, g2, g3])) | (apply EvR.aCall h2.at_; (· exact eva); (· apply h2.ok <;> exact sid); (rintro _ _ ⟨rfl, rfl⟩; refine EvR.nrm ?_; try simp only [g1, g2, g3])) | ((first | refine sR ?_ ?_ | refine sC ?_ ?_) <;> (intro hb; (try rw [hb]); (try simp only [bb] at hb); (try (exfalso; first | omega | exact hb trivial)))) | (apply endS trivial; rotate_left; (· exact eva); (· rfl); try refine ⟨?_, rfl⟩) | fail)
      all_goals (first | (exact ⟨i + 1, by omega, by exact tF, rfl, by omega, fun j hj => by
        rcases Nat.lt_or_ge j i with hji | hji
        · exact hp j hji
        · obtain rfl : j = i := by omega
          exact ⟨by unfold goodP; rw [g1, g3]; rfl, g2⟩⟩) | (exfalso; simp_all; done))
    · rw [plain_no hlt (.inl (by unfold goodP; rw [decide_eq_false g3, Bool.and_false]))]
      repeat' (first | refine ff ?_ | (apply EvR.aCall h1.at_; (· exact eva); (· apply h1.ok <;> exact sid); (rintro _ _ ⟨rfl, rfl⟩; refine EvR.nrm ?_; try simp only [g1, g2])) | (apply EvR.aCall h2.at_; (· exact eva); (· apply h2.ok <;> exact sid); (rintro _ _ ⟨rfl, rfl⟩; refine EvR.nrm ?_; try simp only [g1, g2])) | ((first | refine sR ?_ ?_ | refine sC ?_ ?_) <;> (intro hb; (try rw [hb]); (try simp only [bb] at hb); (try (exfalso; first | omega | exact hb trivial)))) | (apply endS trivial; rotate_left; (· exact eva); (· rfl); try refine ⟨?_, rfl⟩) | fail)
      all_goals (first | rfl | (exfalso; simp_all; done) | (exfalso; omega))
  · obtain rfl : i = sp.length := by omega
    rw [plain_yes fun j hj => (hp j hj).1, (hp 0 h0).2]
    repeat' (first | refine ff ?_ | ((first | refine sR ?_ ?_ | refine sC ?_ ?_) <;> (intro hb; (try rw [hb]); (try simp only [bb] at hb); (try (exfalso; first | omega | exact hb trivial)))) | (apply endS trivial; rotate_left; (· exact eva); (· rfl); try refine ⟨?_, rfl⟩) | fail)
    all_goals (try rfl)
def spec_l08Plain_ok (c : Contract) : Prop := ∀ (σ : Heap) (b o : Nat) (w h : Int) (wr : Bool) (sv lv : Value) (sp lo : List Nat), PtAt σ b o [.int .i64 w, .int .i64 h, .bool wr, sv, lv] → ShR σ sv lv sp lo → sp.length ≤ 1048576 → lo.length ≤ 1048576 → 0 < sp.length → sp.length ≤ lo.length → (∀ x ∈ sp, x < 4294967296) → (∀ x ∈ lo, x < 4294967296) →
    Ret c [.pointer (some ⟨b, o, none⟩)] σ fun v σ' => v = .bool (plainB sp lo) ∧ σ' = σ
theorem spec_l08Plain_law {C : Ctab} {i1 : FuncId} {c1 : Contract} (h1 : Has C i1 c1 spec_l01SameN_ok) : spec_l08Plain_ok (gcC C (spec_l08Plain i1) true) := by
  intro σ b o w h wr sv lv sp lo hb0 ⟨r1, r2⟩ hn1 hn2 h0 hle hs hl
  have k1 := r1.ok
  have k2 := r2.ok
  refine ret_gc rfl rfl ?_
  repeat' (first | refine ff ?_ | ((first | refine sR ?_ ?_ | refine sC ?_ ?_) <;> (intro hb; (try rw [hb]); (try simp only [bb] at hb); (try (exfalso; first | omega | exact hb trivial)))) | (apply endS trivial; rotate_left; (· exact eva); (· rfl); try refine ⟨?_, rfl⟩) | fail)
  refine Ev.whlC (S := Nat) (fun i => sp.length - i) (fun i => [(3, .int .i64 i)]) (fun i => i ≤ sp.length ∧ ∀ j, j < i → goodP sp lo j = true) 0 (by exact tF) ⟨Nat.zero_le _, fun j hj => by omega⟩ ?_
  rintro i F hF ⟨hi, hp⟩
  (simp only [List.cons_append, List.nil_append, ↓fget_cons, fkeep_cons, fkeep_nil, Nat.reduceEqDiff, reduceIte] at hF; subst hF)
  by_cases hlt : i < sp.length
  · have b1 := hs _ (getD_mem hlt)
    have b2 := hs _ (getD_mem h0)
    have b3 := hl _ (getD_mem (show i < lo.length by omega))
    cases g1 : decide (bitsC (sp.getD i 0) = bitsC (sp.getD 0 0))
    · rw [plain_no hlt (.inl (by unfold goodP; rw [g1, Bool.false_and]))]
      repeat' (first | refine ff ?_ | (apply EvR.aCall h1.at_; (· exact eva); (· apply h1.ok <;> exact sid); (rintro _ _ ⟨rfl, rfl⟩; refine EvR.nrm ?_; try simp only [g1])) | ((first | refine sR ?_ ?_ | refine sC ?_ ?_) <;> (intro hb; (try rw [hb]); (try simp only [bb] at hb); (try (exfalso; first | omega | exact hb trivial)))) | (apply endS trivial; rotate_left; (· exact eva); (· rfl); try refine ⟨?_, rfl⟩) | fail)
      all_goals (try rfl)
    cases g3 : decide (bitsC (lo.getD i 0) = bitsC 0)
    · have g4 := of_decide_eq_false g3
      rw [bits_zero] at g4
      rw [plain_no hlt (.inl (by unfold goodP; rw [decide_eq_false g4, Bool.and_false]))]
      repeat' (first | refine ff ?_ | (apply EvR.aCall h1.at_; (· exact eva); (· apply h1.ok <;> exact sid); (rintro _ _ ⟨rfl, rfl⟩; refine EvR.nrm ?_; try simp only [g1, g3])) | ((first | refine sR ?_ ?_ | refine sC ?_ ?_) <;> (intro hb; (try rw [hb]); (try simp only [bb] at hb); (try (exfalso; first | omega | exact hb trivial)))) | (apply endS trivial; rotate_left; (· exact eva); (· rfl); try refine ⟨?_, rfl⟩) | fail)
      all_goals (try rfl)
    · have g4 := of_decide_eq_true g3
      rw [bits_zero] at g4
      repeat' (first | refine ff ?_ | (apply EvR.aCall h1.at_; (· exact eva); (· apply h1.ok <;> exact sid); (rintro _ _ ⟨rfl, rfl⟩; refine EvR.nrm ?_; try simp only [g1, g3])) | ((first | refine sR ?_ ?_ | refine sC ?_ ?_) <;> (intro hb; (try rw [hb]); (try simp only [bb] at hb); (try (exfalso; first | omega | exact hb trivial)))) | (apply endS trivial; rotate_left; (· exact eva); (· rfl); try refine ⟨?_, rfl⟩) | fail)
      all_goals (first | (exact ⟨i + 1, by omega, by exact tF, rfl, by omega, fun j hj => by
        rcases Nat.lt_or_ge j i with hji | hji
        · exact hp j hji
        · obtain rfl : j = i := by omega
          unfold goodP; rw [g1, g4]; rfl⟩) | (exfalso; simp_all; done))
  · obtain rfl : i = sp.length := by omega
    rw [plain_yes hp]
    repeat' (first | refine ff ?_ | ((first | refine sR ?_ ?_ | refine sC ?_ ?_) <;> (intro hb; (try rw [hb]); (try simp only [bb] at hb); (try (exfalso; first | omega | exact hb trivial)))) | (apply endS trivial; rotate_left; (· exact eva); (· rfl); try refine ⟨?_, rfl⟩) | fail)
    all_goals (try rfl)
end Go.Abs

