/- Laws of functions: the bytes of a valid sheet, by the program and by the reference, and the row. Conditions: the laws of what they call. -/
import Derived.Test.YtogekdhkcndbdaaExactStoreSheetL84
import Derived.Test.YtogekdhkcndbdaaExactStoreSheetL39
import Derived.Test.YtogekdhkcndbdaaExactStoreSheetL35
namespace Go.Abs

set_option linter.unusedSimpArgs false
set_option linter.unusedVariables false
set_option maxHeartbeats 8000000
set_option maxRecDepth 20000
/- loop.example/g01201/impl.StoreSheet -/
def impl_StoreSheet_r0 : List SOper := [
  ⟨(some 1), none, .box (.tmp 0), 0⟩,
  ⟨(some 2), none, .mov (.const (.string ⟨#[]⟩)), 0⟩,
  ⟨(some 3), none, .mov (.const (.bool false)), 2⟩]
def impl_StoreSheet_r1 (i_impl_ValidSheet : FuncId) : List SOper := [
  ⟨(some 4), none, .loadN 5 (.tmp 1), 0⟩,
  ⟨(some 5), none, .call (.func i_impl_ValidSheet) [(.tmp 4)], 1⟩,
  ⟨(some 6), none, .un .not (.tmp 5), 3⟩]
def impl_StoreSheet_r2 : List SOper := [
  ⟨(some 2), none, .mov (.const (.string ⟨#[]⟩)), 0⟩,
  ⟨(some 3), none, .mov (.const (.bool false)), 1⟩]
def impl_StoreSheet_r3 (i_impl_sheetBytes : FuncId) : List SOper := [
  ⟨(some 7), none, .loadN 5 (.tmp 1), 0⟩,
  ⟨(some 8), none, .call (.func i_impl_sheetBytes) [(.tmp 7)], 1⟩,
  ⟨(some 9), none, .conv .toStr (.tmp 8), 3⟩,
  ⟨(some 2), none, .mov (.tmp 9), 7⟩,
  ⟨(some 3), none, .mov (.const (.bool true)), 15⟩]
def impl_StoreSheet (i_impl_ValidSheet i_impl_sheetBytes : FuncId) : SFunc := ⟨10, [.tmp 2, .tmp 3], (.kp [0] (.seq (.region impl_StoreSheet_r0 false) (.kp [1] (.seq (.seq (.region (impl_StoreSheet_r1 i_impl_ValidSheet) false) (.kp [1, 6] (.cond (.tmp 6) (.seq (.region impl_StoreSheet_r2 false) .ret) .skip))) (.kp [1] (.seq (.region (impl_StoreSheet_r3 i_impl_sheetBytes) false) .ret))))))⟩

/- loop.example/g01201/spec.StoreSheet -/
def spec_StoreSheet_r0 : List SOper := [
  ⟨(some 1), none, .box (.tmp 0), 0⟩,
  ⟨(some 2), none, .mov (.const (.string ⟨#[]⟩)), 0⟩,
  ⟨(some 3), none, .mov (.const (.bool false)), 2⟩]
def spec_StoreSheet_r1 (i_spec_l02Is : FuncId) : List SOper := [
  ⟨(some 4), none, .call (.func i_spec_l02Is) [(.tmp 1)], 0⟩,
  ⟨(some 5), none, .un .not (.tmp 4), 1⟩]
def spec_StoreSheet_r2 : List SOper := [
  ⟨(some 2), none, .mov (.const (.string ⟨#[]⟩)), 0⟩,
  ⟨(some 3), none, .mov (.const (.bool false)), 1⟩]
def spec_StoreSheet_r3 (i_spec_l10Head : FuncId) : List SOper := [
  ⟨(some 6), none, .call (.func i_spec_l10Head) [(.tmp 1)], 0⟩,
  ⟨(some 2), none, .mov (.tmp 6), 1⟩,
  ⟨(some 3), none, .mov (.const (.bool true)), 3⟩]
def spec_StoreSheet (i_spec_l02Is i_spec_l10Head : FuncId) : SFunc := ⟨7, [.tmp 2, .tmp 3], (.kp [0] (.seq (.region spec_StoreSheet_r0 false) (.kp [1] (.seq (.seq (.region (spec_StoreSheet_r1 i_spec_l02Is) false) (.kp [1, 5] (.cond (.tmp 5) (.seq (.region spec_StoreSheet_r2 false) .ret) .skip))) (.kp [1] (.seq (.region (spec_StoreSheet_r3 i_spec_l10Head) false) .ret))))))⟩

/- loop.example/g01201/laws.FnExactStoreSheet -/
def laws_FnExactStoreSheet_r0 : List SOper := [
  ⟨(some 1), none, .box (.tmp 0), 0⟩,
  ⟨(some 2), none, .mov (.const (.bool false)), 0⟩]
def laws_FnExactStoreSheet_r1 : List SOper := [
  ⟨(some 3), none, .mov (.const (.int .i64 1048576)), 0⟩]
def laws_FnExactStoreSheet_r2 (i_laws_szSheet : FuncId) : List SOper := [
  ⟨(some 9), none, .loadN 5 (.tmp 1), 0⟩,
  ⟨(some 10), none, .mov (.tmp 3), 0⟩,
  ⟨(some 11), none, .call (.func i_laws_szSheet) [(.tmp 9), (.tmp 10)], 3⟩,
  ⟨(some 3), none, .mov (.tmp 11), 7⟩]
def laws_FnExactStoreSheet_r3 : List SOper := [
  ⟨(some 12), none, .mov (.tmp 3), 0⟩,
  ⟨(some 13), none, .bin .lss .other (.tmp 12) (.const (.int .i64 0)), 1⟩]
def laws_FnExactStoreSheet_r4 : List SOper := [
  ⟨(some 2), none, .mov (.const (.bool true)), 0⟩]
def laws_FnExactStoreSheet_r5 (i_laws_toSheet i_spec_StoreSheet : FuncId) : List SOper := [
  ⟨(some 15), none, .loadN 5 (.tmp 1), 0⟩,
  ⟨(some 16), none, .call (.func i_laws_toSheet) [(.tmp 15)], 1⟩,
  ⟨(some 17), none, .call (.func i_spec_StoreSheet) [(.tmp 16)], 3⟩,
  ⟨(some 14), none, .mov (.tmp 17), 7⟩,
  ⟨(some 18), none, .extract (.tmp 14) 0, 15⟩,
  ⟨(some 19), none, .extract (.tmp 14) 1, 15⟩,
  ⟨(some 4), none, .mov (.tmp 18), 31⟩,
  ⟨(some 5), none, .mov (.tmp 19), 127⟩]
def laws_FnExactStoreSheet_r6 (i_laws_toSheet : FuncId) : List SOper := [
  ⟨(some 20), none, .loadN 5 (.tmp 1), 0⟩,
  ⟨(some 21), none, .call (.func i_laws_toSheet) [(.tmp 20)], 1⟩,
  ⟨(some 6), none, .alloc [(.int .i64 0), (.int .i64 0), (.bool false), (.slice none 0 0), (.slice none 0 0)], 0⟩,
  ⟨none, none, .store 5 (.tmp 6) (.tmp 21), 7⟩]
def laws_FnExactStoreSheet_r7 (i_impl_StoreSheet : FuncId) : List SOper := [
  ⟨(some 23), none, .loadN 5 (.tmp 6), 0⟩,
  ⟨(some 24), none, .call (.func i_impl_StoreSheet) [(.tmp 23)], 1⟩,
  ⟨(some 22), none, .mov (.tmp 24), 3⟩,
  ⟨(some 25), none, .extract (.tmp 22) 0, 7⟩,
  ⟨(some 26), none, .extract (.tmp 22) 1, 7⟩,
  ⟨(some 7), none, .mov (.tmp 25), 15⟩,
  ⟨(some 8), none, .mov (.tmp 26), 63⟩]
def laws_FnExactStoreSheet_r8 : List SOper := [
  ⟨(some 27), none, .mov (.tmp 7), 0⟩,
  ⟨(some 28), none, .mov (.tmp 4), 0⟩,
  ⟨(some 29), none, .bin .neq .other (.tmp 27) (.tmp 28), 3⟩,
  ⟨(some 30), none, .mov (.tmp 29), 7⟩,
  ⟨(some 31), (some (30, false)), .mov (.tmp 8), 15⟩,
  ⟨(some 32), (some (30, false)), .mov (.tmp 5), 15⟩,
  ⟨(some 33), (some (30, false)), .bin .neq .bool (.tmp 31) (.tmp 32), 63⟩,
  ⟨(some 34), none, .pick (.tmp 30) (.const (.bool true)) (.tmp 33), 127⟩]
def laws_FnExactStoreSheet_r9 : List SOper := [
  ⟨(some 2), none, .mov (.const (.bool false)), 0⟩]
def laws_FnExactStoreSheet_r10 (i_laws_toSheet i_laws_eqSheet : FuncId) : List SOper := [
  ⟨(some 35), none, .loadN 5 (.tmp 6), 0⟩,
  ⟨(some 36), none, .loadN 5 (.tmp 1), 0⟩,
  ⟨(some 37), none, .call (.func i_laws_toSheet) [(.tmp 36)], 2⟩,
  ⟨(some 38), none, .call (.func i_laws_eqSheet) [(.tmp 35), (.tmp 37)], 7⟩,
  ⟨(some 39), none, .un .not (.tmp 38), 15⟩]
def laws_FnExactStoreSheet_r11 : List SOper := [
  ⟨(some 2), none, .mov (.const (.bool false)), 0⟩]
def laws_FnExactStoreSheet_r12 : List SOper := [
  ⟨(some 2), none, .mov (.const (.bool true)), 0⟩]
def laws_FnExactStoreSheet (i_laws_szSheet i_laws_toSheet i_spec_StoreSheet i_impl_StoreSheet i_laws_eqSheet : FuncId) : SFunc := ⟨40, [.tmp 2], (.kp [0] (.seq (.region laws_FnExactStoreSheet_r0 false) (.kp [1] (.seq (.region laws_FnExactStoreSheet_r1 false) (.kp [1, 3] (.seq (.region (laws_FnExactStoreSheet_r2 i_laws_szSheet) false) (.kp [1, 3] (.seq (.seq (.region laws_FnExactStoreSheet_r3 false) (.kp [1, 13] (.cond (.tmp 13) (.seq (.region laws_FnExactStoreSheet_r4 false) .ret) .skip))) (.kp [1] (.seq (.region (laws_FnExactStoreSheet_r5 i_laws_toSheet i_spec_StoreSheet) false) (.kp [1, 4, 5] (.seq (.region (laws_FnExactStoreSheet_r6 i_laws_toSheet) false) (.kp [1, 4, 5, 6] (.seq (.region (laws_FnExactStoreSheet_r7 i_impl_StoreSheet) false) (.kp [1, 4, 5, 6, 7, 8] (.seq (.seq (.region laws_FnExactStoreSheet_r8 false) (.kp [1, 6, 34] (.cond (.tmp 34) (.seq (.region laws_FnExactStoreSheet_r9 false) .ret) .skip))) (.kp [1, 6] (.seq (.seq (.region (laws_FnExactStoreSheet_r10 i_laws_toSheet i_laws_eqSheet) true) (.kp [39] (.cond (.tmp 39) (.seq (.region laws_FnExactStoreSheet_r11 false) .ret) .skip))) (.kp [] (.seq (.region laws_FnExactStoreSheet_r12 false) .ret))))))))))))))))))))⟩
theorem laws_FnExactStoreSheet_r10_dr {i_laws_toSheet i_laws_eqSheet : FuncId} : drawOkW wStat (laws_FnExactStoreSheet_r10 i_laws_toSheet i_laws_eqSheet) = true := by kernel_rfl
attribute [push_cast] laws_FnExactStoreSheet_r10_dr
def stS (w h : Int) (wr : Bool) (sp lo : List Nat) : List UInt8 := shB w.toNat h.toNat wr sp lo
def StoreSheet_ok (c : Contract) : Prop := ∀ (σ : Heap) (w h : Int) (wr : Bool) (sv lv : Value) (sp lo : List Nat), ShR σ sv lv sp lo → sp.length ≤ 1048576 → lo.length ≤ 1048576 → in32L sp → in32L lo →
    Ret c [shV w h wr sv lv] σ fun v σ' => v = chRes (isSheet w h sp lo) (stS w h wr sp lo) ∧ σ' = σ
abbrev impl_StoreSheet_ok := StoreSheet_ok
abbrev spec_StoreSheet_ok := StoreSheet_ok
theorem impl_StoreSheet_law {C : Ctab} {i1 i2 : FuncId} {c1 c2 : Contract} (h1 : Has C i1 c1 impl_ValidSheet_ok) (h2 : Has C i2 c2 impl_sheetBytes_ok) : impl_StoreSheet_ok (gcC C (impl_StoreSheet i1 i2) true) := by
  intro σ w h wr sv lv sp lo ⟨r1, r2⟩ n1 n2 l1 l2
  have k1 := r1.ok
  have k2 := r2.ok
  cases hs : isSheet w h sp lo
  · rw [chRes_f]
    refine ret_gc rfl rfl ?_
    repeat' (first | refine ff ?_ | (apply EvR.aCall h1.at_; (· exact eva); (· apply h1.ok <;> exact sid); (rintro _ _ ⟨rfl, rfl⟩; refine EvR.nrm ?_; try simp only [hs])) | ((first | refine EvR.aSplB ?_ ?_ | refine Ev.aSplB ?_ ?_) <;> (intro hb; (try rw [hb]); (try simp only [Bool.not_eq_true', Bool.not_eq_false', Bool.not_eq_eq_eq_not, Bool.not_true, Bool.not_false, decide_eq_true_eq, decide_eq_false_iff_not, Bool.and_eq_true, Bool.and_eq_false_iff, Bool.or_eq_true, Bool.or_eq_false_iff] at hb); (try (exfalso; first | omega | exact hb trivial)))) | (apply endS trivial; rotate_left; (· exact eva); (· rfl); try refine ⟨?_, rfl⟩) | fail)
    all_goals rfl
  · rw [chRes_t]
    obtain ⟨a1, a2, a3, a4, q1, q2⟩ := isSheet_sides hs
    obtain ⟨W, rfl⟩ := Int.eq_ofNat_of_zero_le (show 0 ≤ w by omega)
    obtain ⟨H, rfl⟩ := Int.eq_ofNat_of_zero_le (show 0 ≤ h by omega)
    have hWH : ((W * H : Nat) : Int) = (W : Int) * (H : Int) := Int.natCast_mul _ _
    have hN2 : W * H ≤ 256 := Nat.mul_le_mul (show W ≤ 16 by omega) (show H ≤ 16 by omega)
    have hN3 : 9 ≤ W * H := Nat.mul_le_mul (show 3 ≤ W by omega) (show 3 ≤ H by omega)
    unfold stS
    rw [Int.toNat_natCast, Int.toNat_natCast]
    refine ret_gc rfl rfl ?_
    repeat' (first | refine ff ?_ | (apply EvR.aCall h1.at_; (· exact eva); (· apply h1.ok <;> exact sid); (rintro _ _ ⟨rfl, rfl⟩; refine EvR.nrm ?_; try simp only [hs])) | ((first | refine EvR.aSplB ?_ ?_ | refine Ev.aSplB ?_ ?_) <;> (intro hb; (try rw [hb]); (try simp only [Bool.not_eq_true', Bool.not_eq_false', Bool.not_eq_eq_eq_not, Bool.not_true, Bool.not_false, decide_eq_true_eq, decide_eq_false_iff_not, Bool.and_eq_true, Bool.and_eq_false_iff, Bool.or_eq_true, Bool.or_eq_false_iff] at hb); (try (exfalso; first | omega | exact hb trivial)))) | (apply endS trivial; rotate_left; (· exact eva); (· rfl); try refine ⟨?_, rfl⟩) | fail)
    (apply EvR.aCall h2.at_; (· exact eva); (· exact  h2.ok _ W H wr sv lv sp lo ⟨r1.ext _, r2.ext _⟩ (by omega) (by omega) l1 l2); (rintro _ _ ⟨rfl, rfl⟩; refine EvR.nrm ?_))
    simp only [slV]
    repeat' (first | refine ff ?_ | ((first | refine EvR.aSplB ?_ ?_ | refine Ev.aSplB ?_ ?_) <;> (intro hb; (try rw [hb]); (try simp only [Bool.not_eq_true', Bool.not_eq_false', Bool.not_eq_eq_eq_not, Bool.not_true, Bool.not_false, decide_eq_true_eq, decide_eq_false_iff_not, Bool.and_eq_true, Bool.and_eq_false_iff, Bool.or_eq_true, Bool.or_eq_false_iff] at hb); (try (exfalso; first | omega | exact hb trivial)))) | (apply endS trivial; rotate_left; (· exact eva); (· rfl); try refine ⟨?_, rfl⟩) | fail)
    all_goals (try rfl)
theorem spec_StoreSheet_law {C : Ctab} {i1 i2 : FuncId} {c1 c2 : Contract} (h1 : Has C i1 c1 spec_l02Is_ok) (h2 : Has C i2 c2 spec_l10Head_ok) : spec_StoreSheet_ok (gcC C (spec_StoreSheet i1 i2) true) := by
  intro σ w h wr sv lv sp lo ⟨r1, r2⟩ n1 n2 l1 l2
  have k1 := r1.ok
  have k2 := r2.ok
  cases hs : isSheet w h sp lo
  · rw [chRes_f]
    refine ret_gc rfl rfl ?_
    repeat' (first | refine ff ?_ | ((first | refine EvR.aSplB ?_ ?_ | refine Ev.aSplB ?_ ?_) <;> (intro hb; (try rw [hb]); (try simp only [Bool.not_eq_true', Bool.not_eq_false', Bool.not_eq_eq_eq_not, Bool.not_true, Bool.not_false, decide_eq_true_eq, decide_eq_false_iff_not, Bool.and_eq_true, Bool.and_eq_false_iff, Bool.or_eq_true, Bool.or_eq_false_iff] at hb); (try (exfalso; first | omega | exact hb trivial)))) | (apply endS trivial; rotate_left; (· exact eva); (· rfl); try refine ⟨?_, rfl⟩) | fail)
    (apply EvR.aCall h1.at_; (· exact eva); (· exact  h1.ok _ (σ.length + 0) 0 w h wr sv lv sp lo (PtAt.own rfl) ⟨r1.ext _, r2.ext _⟩ n1 n2); (rintro _ _ ⟨rfl, rfl⟩; refine EvR.nrm ?_))
    rw [hs]
    repeat' (first | refine ff ?_ | ((first | refine EvR.aSplB ?_ ?_ | refine Ev.aSplB ?_ ?_) <;> (intro hb; (try rw [hb]); (try simp only [Bool.not_eq_true', Bool.not_eq_false', Bool.not_eq_eq_eq_not, Bool.not_true, Bool.not_false, decide_eq_true_eq, decide_eq_false_iff_not, Bool.and_eq_true, Bool.and_eq_false_iff, Bool.or_eq_true, Bool.or_eq_false_iff] at hb); (try (exfalso; first | omega | exact hb trivial)))) | (apply endS trivial; rotate_left; (· exact eva); (· rfl); try refine ⟨?_, rfl⟩) | fail)
    all_goals rfl
  · rw [chRes_t]
    obtain ⟨a1, a2, a3, a4, q1, q2⟩ := isSheet_sides hs
    obtain ⟨W, rfl⟩ := Int.eq_ofNat_of_zero_le (show 0 ≤ w by omega)
    obtain ⟨H, rfl⟩ := Int.eq_ofNat_of_zero_le (show 0 ≤ h by omega)
    have hWH : ((W * H : Nat) : Int) = (W : Int) * (H : Int) := Int.natCast_mul _ _
    have hN2 : W * H ≤ 256 := Nat.mul_le_mul (show W ≤ 16 by omega) (show H ≤ 16 by omega)
    unfold stS
    rw [Int.toNat_natCast, Int.toNat_natCast]
    refine ret_gc rfl rfl ?_
    repeat' (first | refine ff ?_ | ((first | refine EvR.aSplB ?_ ?_ | refine Ev.aSplB ?_ ?_) <;> (intro hb; (try rw [hb]); (try simp only [Bool.not_eq_true', Bool.not_eq_false', Bool.not_eq_eq_eq_not, Bool.not_true, Bool.not_false, decide_eq_true_eq, decide_eq_false_iff_not, Bool.and_eq_true, Bool.and_eq_false_iff, Bool.or_eq_true, Bool.or_eq_false_iff] at hb); (try (exfalso; first | omega | exact hb trivial)))) | (apply endS trivial; rotate_left; (· exact eva); (· rfl); try refine ⟨?_, rfl⟩) | fail)
    (apply EvR.aCall h1.at_; (· exact eva); (· exact  h1.ok _ (σ.length + 0) 0 W H wr sv lv sp lo (PtAt.own rfl) ⟨r1.ext _, r2.ext _⟩ n1 n2); (rintro _ _ ⟨rfl, rfl⟩; refine EvR.nrm ?_))
    rw [hs]
    repeat' (first | refine ff ?_ | ((first | refine EvR.aSplB ?_ ?_ | refine Ev.aSplB ?_ ?_) <;> (intro hb; (try rw [hb]); (try simp only [Bool.not_eq_true', Bool.not_eq_false', Bool.not_eq_eq_eq_not, Bool.not_true, Bool.not_false, decide_eq_true_eq, decide_eq_false_iff_not, Bool.and_eq_true, Bool.and_eq_false_iff, Bool.or_eq_true, Bool.or_eq_false_iff] at hb); (try (exfalso; first | omega | exact hb trivial)))) | (apply endS trivial; rotate_left; (· exact eva); (· rfl); try refine ⟨?_, rfl⟩) | fail)
    (apply EvR.aCall h2.at_; (· exact eva); (· exact  h2.ok _ (σ.length + 0) 0 W H wr sv lv sp lo (PtAt.own rfl) ⟨r1.ext _, r2.ext _⟩ (by omega) (by omega) (by omega) l1 l2); (rintro _ _ ⟨rfl, rfl⟩; refine EvR.nrm ?_))
    repeat' (first | refine ff ?_ | ((first | refine EvR.aSplB ?_ ?_ | refine Ev.aSplB ?_ ?_) <;> (intro hb; (try rw [hb]); (try simp only [Bool.not_eq_true', Bool.not_eq_false', Bool.not_eq_eq_eq_not, Bool.not_true, Bool.not_false, decide_eq_true_eq, decide_eq_false_iff_not, Bool.and_eq_true, Bool.and_eq_false_iff, Bool.or_eq_true, Bool.or_eq_false_iff] at hb); (try (exfalso; first | omega | exact hb trivial)))) | (apply endS trivial; rotate_left; (· exact eva); (· rfl); try refine ⟨?_, rfl⟩) | fail)
    all_goals (try rfl)

def laws_FnExactStoreSheet_ok (c : Contract) : Prop := AlwaysTrue [sheetK] c
theorem laws_FnExactStoreSheet_law {C : Ctab} {i1 i2 i3 i4 i5 : FuncId} {c1 c2 c3 c4 c5 : Contract} (h1 : Has C i1 c1 laws_szSheet_ok) (h2 : Has C i2 c2 laws_toSheet_ok) (h3 : Has C i3 c3 spec_StoreSheet_ok) (h4 : Has C i4 c4 impl_StoreSheet_ok) (h5 : Has C i5 c5 laws_eqSheet_ok) : laws_FnExactStoreSheet_ok (gcC C (laws_FnExactStoreSheet i1 i2 i3 i4 i5) true) := by
  intro σ avs h
  match avs, h with
  | [v], ⟨ha, _⟩ =>
    obtain ⟨w, h, wr, sv, lv, sp, lo, rfl, ⟨r1, r2⟩, hb1, hb2, _, _, wsp, wlo⟩ := sheet_absW ha
    have l1 : in32L sp := wsp
    have l2 : in32L lo := wlo
    have z := szSheet_fact sp lo 1048576 (by omega)
    cases hz : decide (szSheet sp lo 1048576 < 0)
    · have hz' := of_decide_eq_false hz
      have hn1 : sp.length ≤ 1048576 := by omega
      have hn2 : lo.length ≤ 1048576 := by omega
      obtain ⟨T, hT⟩ : ∃ T, stS w h wr sp lo = T := ⟨_, rfl⟩
      cases hok : isSheet w h sp lo
      · refine ret_gc rfl rfl ?_
        repeat' (first | refine ff ?_ | (apply EvR.aCall h1.at_; (· exact eva); (· apply h1.ok <;> exact sid); (rintro _ _ ⟨rfl, rfl⟩; refine EvR.nrm ?_; try simp only [hz, hok, hT, chRes_f])) | (apply EvR.aCall h2.at_; (· exact eva); (· apply h2.ok <;> exact sid); (rintro _ _ ⟨rfl, rfl⟩; refine EvR.nrm ?_; try simp only [hz, hok, hT, chRes_f])) | (apply EvR.aCall h3.at_; (· exact eva); (· apply h3.ok <;> exact sid); (rintro _ _ ⟨rfl, rfl⟩; refine EvR.nrm ?_; try simp only [hz, hok, hT, chRes_f])) | (apply EvR.aCall h4.at_; (· exact eva); (· apply h4.ok <;> exact sid); (rintro _ _ ⟨rfl, rfl⟩; refine EvR.nrm ?_; try simp only [hz, hok, hT, chRes_f])) | (apply EvR.aCall h5.at_; (· exact eva); (· apply h5.ok <;> exact sid); (rintro _ _ ⟨rfl, rfl⟩; refine EvR.nrm ?_; try simp only [hz, hok, hT, chRes_f])) | ((first | refine EvR.aSplB ?_ ?_ | refine Ev.aSplB ?_ ?_) <;> (intro hb; (try rw [hb]); (try simp only [Bool.not_eq_true', Bool.not_eq_false', Bool.not_eq_eq_eq_not, Bool.not_true, Bool.not_false, decide_eq_true_eq, decide_eq_false_iff_not, Bool.and_eq_true, Bool.and_eq_false_iff, Bool.or_eq_true, Bool.or_eq_false_iff] at hb); (try (exfalso; first | omega | exact hb trivial)))) | (apply endS trivial; rotate_left; (· exact eva); (· rfl); try refine ⟨?_, rfl⟩) | fail)
        all_goals rfl
      · refine ret_gc rfl rfl ?_
        repeat' (first | refine ff ?_ | (apply EvR.aCall h1.at_; (· exact eva); (· apply h1.ok <;> exact sid); (rintro _ _ ⟨rfl, rfl⟩; refine EvR.nrm ?_; try simp only [hz, hok, hT, chRes_t])) | (apply EvR.aCall h2.at_; (· exact eva); (· apply h2.ok <;> exact sid); (rintro _ _ ⟨rfl, rfl⟩; refine EvR.nrm ?_; try simp only [hz, hok, hT, chRes_t])) | (apply EvR.aCall h3.at_; (· exact eva); (· apply h3.ok <;> exact sid); (rintro _ _ ⟨rfl, rfl⟩; refine EvR.nrm ?_; try simp only [hz, hok, hT, chRes_t])) | (apply EvR.aCall h4.at_; (· exact eva); (· apply h4.ok <;> exact sid); (rintro _ _ ⟨rfl, rfl⟩; refine EvR.nrm ?_; try simp only [hz, hok, hT, chRes_t])) | (apply EvR.aCall h5.at_; (· exact eva); (· apply h5.ok <;> exact sid); (rintro _ _ ⟨rfl, rfl⟩; refine EvR.nrm ?_; try simp only [hz, hok, hT, chRes_t])) | ((first | refine EvR.aSplB ?_ ?_ | refine Ev.aSplB ?_ ?_) <;> (intro hb; (try rw [hb]); (try simp only [Bool.not_eq_true', Bool.not_eq_false', Bool.not_eq_eq_eq_not, Bool.not_true, Bool.not_false, decide_eq_true_eq, decide_eq_false_iff_not, Bool.and_eq_true, Bool.and_eq_false_iff, Bool.or_eq_true, Bool.or_eq_false_iff] at hb); (try (exfalso; first | omega | exact hb trivial)))) | (apply endS trivial; rotate_left; (· exact eva); (· rfl); try refine ⟨?_, rfl⟩) | fail)
        all_goals rfl
    · have hz' := of_decide_eq_true hz
      refine ret_gc rfl rfl ?_
      repeat' (first | refine ff ?_ | (apply EvR.aCall h1.at_; (· exact eva); (· apply h1.ok <;> exact sid); (rintro _ _ ⟨rfl, rfl⟩; refine EvR.nrm ?_; try simp only [hz])) | ((first | refine EvR.aSplB ?_ ?_ | refine Ev.aSplB ?_ ?_) <;> (intro hb; (try rw [hb]); (try simp only [Bool.not_eq_true', Bool.not_eq_false', Bool.not_eq_eq_eq_not, Bool.not_true, Bool.not_false, decide_eq_true_eq, decide_eq_false_iff_not, Bool.and_eq_true, Bool.and_eq_false_iff, Bool.or_eq_true, Bool.or_eq_false_iff] at hb); (try (exfalso; first | omega | exact hb trivial)))) | (apply endS trivial; rotate_left; (· exact eva); (· rfl); try refine ⟨?_, rfl⟩) | fail)
      all_goals rfl
end Go.Abs

