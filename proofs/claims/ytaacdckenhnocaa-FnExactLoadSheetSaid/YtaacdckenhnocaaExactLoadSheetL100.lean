/- Law of a row's function: sheets that are loaded. Conditions: the laws of what it calls. -/
import Derived.Test.YtaacdckenhnocaaExactLoadSheetL99
import Derived.Test.YtaacdckenhnocaaExactLoadSheetL43
namespace Go.Abs

set_option linter.unusedSimpArgs false
set_option linter.unusedVariables false
set_option maxHeartbeats 8000000
set_option maxRecDepth 20000
/- loop.example/g01201/laws.FnExactLoadSheet -/
def laws_FnExactLoadSheet_r0 : List SOper := [
  ⟨(some 2), none, .mov (.const (.bool false)), 0⟩]
def laws_FnExactLoadSheet_r1 : List SOper := [
  ⟨(some 11), none, .mov (.tmp 0), 0⟩,
  ⟨(some 12), none, .len true (.tmp 11), 1⟩,
  ⟨(some 13), none, .bin .gtr .other (.tmp 12) (.const (.int .i64 1048576)), 3⟩]
def laws_FnExactLoadSheet_r2 : List SOper := [
  ⟨(some 2), none, .mov (.const (.bool true)), 0⟩]
def laws_FnExactLoadSheet_r3 (i_spec_LoadSheet : FuncId) : List SOper := [
  ⟨(some 15), none, .mov (.tmp 0), 0⟩,
  ⟨(some 16), none, .call (.func i_spec_LoadSheet) [(.tmp 15)], 1⟩,
  ⟨(some 14), none, .mov (.tmp 16), 3⟩,
  ⟨(some 17), none, .extract (.tmp 14) 0, 7⟩,
  ⟨(some 18), none, .extract (.tmp 14) 1, 7⟩,
  ⟨(some 3), none, .alloc [(.int .i64 0), (.int .i64 0), (.bool false), (.slice none 0 0), (.slice none 0 0)], 0⟩,
  ⟨none, none, .store 5 (.tmp 3) (.tmp 17), 47⟩,
  ⟨(some 4), none, .mov (.tmp 18), 127⟩]
def laws_FnExactLoadSheet_r4 (i_impl_LoadSheet : FuncId) : List SOper := [
  ⟨(some 20), none, .mov (.tmp 0), 0⟩,
  ⟨(some 21), none, .call (.func i_impl_LoadSheet) [(.tmp 20)], 1⟩,
  ⟨(some 19), none, .mov (.tmp 21), 3⟩,
  ⟨(some 22), none, .extract (.tmp 19) 0, 7⟩,
  ⟨(some 23), none, .extract (.tmp 19) 1, 7⟩,
  ⟨(some 5), none, .alloc [(.int .i64 0), (.int .i64 0), (.bool false), (.slice none 0 0), (.slice none 0 0)], 0⟩,
  ⟨none, none, .store 5 (.tmp 5) (.tmp 22), 47⟩,
  ⟨(some 6), none, .mov (.tmp 23), 127⟩]
def laws_FnExactLoadSheet_r5 (i_laws_eqSheet : FuncId) : List SOper := [
  ⟨(some 24), none, .loadN 5 (.tmp 5), 0⟩,
  ⟨(some 25), none, .loadN 5 (.tmp 3), 0⟩,
  ⟨(some 26), none, .call (.func i_laws_eqSheet) [(.tmp 24), (.tmp 25)], 3⟩,
  ⟨(some 27), none, .un .not (.tmp 26), 7⟩,
  ⟨(some 28), none, .mov (.tmp 27), 15⟩,
  ⟨(some 29), (some (28, false)), .mov (.tmp 6), 31⟩,
  ⟨(some 30), (some (28, false)), .mov (.tmp 4), 31⟩,
  ⟨(some 31), (some (28, false)), .bin .neq .bool (.tmp 29) (.tmp 30), 127⟩,
  ⟨(some 32), none, .pick (.tmp 28) (.const (.bool true)) (.tmp 31), 255⟩]
def laws_FnExactLoadSheet_r6 : List SOper := [
  ⟨(some 2), none, .mov (.const (.bool false)), 0⟩]
def laws_FnExactLoadSheet_r7 : List SOper := [
  ⟨(some 7), none, .mov (.const (.int .i64 1)), 0⟩]
def laws_FnExactLoadSheet_r8 (i_laws_markSheet : FuncId) : List SOper := [
  ⟨(some 33), none, .loadN 5 (.tmp 5), 0⟩,
  ⟨(some 34), none, .mov (.tmp 7), 0⟩,
  ⟨(some 35), none, .call (.func i_laws_markSheet) [(.tmp 33), (.tmp 34)], 3⟩,
  ⟨(some 7), none, .mov (.tmp 35), 7⟩]
def laws_FnExactLoadSheet_r9 : List SOper := [
  ⟨(some 8), none, .mov (.const (.int .i64 1)), 0⟩]
def laws_FnExactLoadSheet_r10 (i_laws_heldSheet : FuncId) : List SOper := [
  ⟨(some 36), none, .loadN 5 (.tmp 5), 0⟩,
  ⟨(some 37), none, .mov (.tmp 8), 0⟩,
  ⟨(some 38), none, .call (.func i_laws_heldSheet) [(.tmp 36), (.tmp 37)], 3⟩,
  ⟨(some 8), none, .mov (.tmp 38), 7⟩]
def laws_FnExactLoadSheet_r11 : List SOper := [
  ⟨(some 39), none, .mov (.tmp 8), 0⟩,
  ⟨(some 40), none, .bin .lss .other (.tmp 39) (.const (.int .i64 0)), 1⟩]
def laws_FnExactLoadSheet_r12 : List SOper := [
  ⟨(some 2), none, .mov (.const (.bool false)), 0⟩]
def laws_FnExactLoadSheet_r13 : List SOper := [
  ⟨(some 41), none, .mov (.tmp 8), 0⟩,
  ⟨(some 42), none, .mov (.tmp 7), 0⟩,
  ⟨(some 43), none, .bin .neq .other (.tmp 41) (.tmp 42), 3⟩]
def laws_FnExactLoadSheet_r14 : List SOper := [
  ⟨(some 2), none, .mov (.const (.bool false)), 0⟩]
def laws_FnExactLoadSheet_r15 (i_impl_LoadSheet : FuncId) : List SOper := [
  ⟨(some 45), none, .mov (.tmp 0), 0⟩,
  ⟨(some 46), none, .call (.func i_impl_LoadSheet) [(.tmp 45)], 1⟩,
  ⟨(some 44), none, .mov (.tmp 46), 3⟩,
  ⟨(some 47), none, .extract (.tmp 44) 0, 7⟩,
  ⟨(some 48), none, .extract (.tmp 44) 1, 7⟩,
  ⟨(some 9), none, .alloc [(.int .i64 0), (.int .i64 0), (.bool false), (.slice none 0 0), (.slice none 0 0)], 0⟩,
  ⟨none, none, .store 5 (.tmp 9) (.tmp 47), 47⟩,
  ⟨(some 10), none, .mov (.tmp 48), 127⟩]
def laws_FnExactLoadSheet_r16 (i_laws_eqSheet : FuncId) : List SOper := [
  ⟨(some 49), none, .loadN 5 (.tmp 9), 0⟩,
  ⟨(some 50), none, .loadN 5 (.tmp 3), 0⟩,
  ⟨(some 51), none, .call (.func i_laws_eqSheet) [(.tmp 49), (.tmp 50)], 3⟩,
  ⟨(some 52), none, .un .not (.tmp 51), 7⟩,
  ⟨(some 53), none, .mov (.tmp 52), 15⟩,
  ⟨(some 54), (some (53, false)), .mov (.tmp 10), 31⟩,
  ⟨(some 55), (some (53, false)), .mov (.tmp 4), 31⟩,
  ⟨(some 56), (some (53, false)), .bin .neq .bool (.tmp 54) (.tmp 55), 127⟩,
  ⟨(some 57), none, .pick (.tmp 53) (.const (.bool true)) (.tmp 56), 255⟩]
def laws_FnExactLoadSheet_r17 : List SOper := [
  ⟨(some 2), none, .mov (.const (.bool false)), 0⟩]
def laws_FnExactLoadSheet_r18 : List SOper := [
  ⟨(some 8), none, .mov (.const (.int .i64 1)), 0⟩]
def laws_FnExactLoadSheet_r19 (i_laws_heldSheet : FuncId) : List SOper := [
  ⟨(some 58), none, .loadN 5 (.tmp 5), 0⟩,
  ⟨(some 59), none, .mov (.tmp 8), 0⟩,
  ⟨(some 60), none, .call (.func i_laws_heldSheet) [(.tmp 58), (.tmp 59)], 3⟩,
  ⟨(some 8), none, .mov (.tmp 60), 7⟩]
def laws_FnExactLoadSheet_r20 : List SOper := [
  ⟨(some 61), none, .mov (.tmp 8), 0⟩,
  ⟨(some 62), none, .bin .lss .other (.tmp 61) (.const (.int .i64 0)), 1⟩]
def laws_FnExactLoadSheet_r21 : List SOper := [
  ⟨(some 2), none, .mov (.const (.bool false)), 0⟩]
def laws_FnExactLoadSheet_r22 : List SOper := [
  ⟨(some 63), none, .mov (.tmp 8), 0⟩,
  ⟨(some 64), none, .mov (.tmp 7), 0⟩,
  ⟨(some 65), none, .bin .neq .other (.tmp 63) (.tmp 64), 3⟩]
def laws_FnExactLoadSheet_r23 : List SOper := [
  ⟨(some 2), none, .mov (.const (.bool false)), 0⟩]
def laws_FnExactLoadSheet_r24 : List SOper := [
  ⟨(some 2), none, .mov (.const (.bool true)), 0⟩]
def laws_FnExactLoadSheet (i_spec_LoadSheet i_impl_LoadSheet i_laws_eqSheet i_laws_markSheet i_laws_heldSheet : FuncId) : SFunc := ⟨66, [.tmp 2], (.kp [0] (.seq (.region laws_FnExactLoadSheet_r0 false) (.kp [0] (.seq (.seq (.region laws_FnExactLoadSheet_r1 false) (.kp [0, 13] (.cond (.tmp 13) (.seq (.region laws_FnExactLoadSheet_r2 false) .ret) .skip))) (.kp [0] (.seq (.region (laws_FnExactLoadSheet_r3 i_spec_LoadSheet) false) (.kp [0, 3, 4] (.seq (.region (laws_FnExactLoadSheet_r4 i_impl_LoadSheet) false) (.kp [0, 3, 4, 5, 6] (.seq (.seq (.region (laws_FnExactLoadSheet_r5 i_laws_eqSheet) false) (.kp [0, 3, 4, 5, 32] (.cond (.tmp 32) (.seq (.region laws_FnExactLoadSheet_r6 false) .ret) .skip))) (.kp [0, 3, 4, 5] (.seq (.region laws_FnExactLoadSheet_r7 false) (.kp [0, 3, 4, 5, 7] (.seq (.region (laws_FnExactLoadSheet_r8 i_laws_markSheet) false) (.kp [0, 3, 4, 5, 7] (.seq (.region laws_FnExactLoadSheet_r9 false) (.kp [0, 3, 4, 5, 7, 8] (.seq (.region (laws_FnExactLoadSheet_r10 i_laws_heldSheet) false) (.kp [0, 3, 4, 5, 7, 8] (.seq (.seq (.region laws_FnExactLoadSheet_r11 false) (.kp [0, 3, 4, 5, 7, 8, 40] (.cond (.tmp 40) (.seq (.region laws_FnExactLoadSheet_r12 false) .ret) .skip))) (.kp [0, 3, 4, 5, 7, 8] (.seq (.seq (.region laws_FnExactLoadSheet_r13 false) (.kp [0, 3, 4, 5, 7, 43] (.cond (.tmp 43) (.seq (.region laws_FnExactLoadSheet_r14 false) .ret) .skip))) (.kp [0, 3, 4, 5, 7] (.seq (.region (laws_FnExactLoadSheet_r15 i_impl_LoadSheet) false) (.kp [3, 4, 5, 7, 9, 10] (.seq (.seq (.region (laws_FnExactLoadSheet_r16 i_laws_eqSheet) false) (.kp [5, 7, 57] (.cond (.tmp 57) (.seq (.region laws_FnExactLoadSheet_r17 false) .ret) .skip))) (.kp [5, 7] (.seq (.region laws_FnExactLoadSheet_r18 false) (.kp [5, 7, 8] (.seq (.region (laws_FnExactLoadSheet_r19 i_laws_heldSheet) false) (.kp [7, 8] (.seq (.seq (.region laws_FnExactLoadSheet_r20 false) (.kp [7, 8, 62] (.cond (.tmp 62) (.seq (.region laws_FnExactLoadSheet_r21 false) .ret) .skip))) (.kp [7, 8] (.seq (.seq (.region laws_FnExactLoadSheet_r22 false) (.kp [65] (.cond (.tmp 65) (.seq (.region laws_FnExactLoadSheet_r23 false) .ret) .skip))) (.kp [] (.seq (.region laws_FnExactLoadSheet_r24 false) .ret))))))))))))))))))))))))))))))))))))⟩


theorem ld_ex (s : List UInt8) : ∃ (w h : Int) (wr : Bool) (sp lo : List Nat), sp.length ≤ 1048576 ∧ lo.length ≤ 1048576 ∧ ∀ (σ σ' : Heap) (v : Value), ldRes true s σ σ' v → v = .tuple #[shV w h wr (slV σ.length sp.length) (slV (σ.length + 1) lo.length), .bool true] ∧ σ' = σ ++ [rowO sp, rowO lo] := by
  have hN2 := shN_le s
  have n1 : (shSp s).length = shN s := numsAt_length _ _ _
  have n2 : (shLo s).length = shN s := numsAt_length _ _ _
  exact ⟨_, _, _, _, _, by rw [n1]; omega, by rw [n2]; omega, fun σ σ' v h => h⟩
def laws_FnExactLoadSheet_ok (c : Contract) : Prop := AlwaysTrue [strK] c
theorem laws_FnExactLoadSheet_law {C : Ctab} {i1 i2 i3 i4 i5 : FuncId} {c1 c2 c3 c4 c5 : Contract} (h1 : Has C i1 c1 spec_LoadSheet_ok) (h2 : Has C i2 c2 impl_LoadSheet_ok) (h3 : Has C i3 c3 laws_eqSheet_ok) (h4 : HasW C i4 c4 laws_markSheet_ok) (h5 : Has C i5 c5 laws_heldSheet_ok) :
    laws_FnExactLoadSheet_ok (gcC C (laws_FnExactLoadSheet i1 i2 i3 i4 i5) true) := by
  intro σ avs h
  match avs, h with
  | [vs], ⟨g1, _⟩ =>
    obtain ⟨s, rfl⟩ := str_abs g1
    by_cases m2 : s.length ≤ 1048576
    · cases hok : ldOk s
      · have H1 : ∀ σ, Ret c1 [.string (str s)] σ fun v σ' => v = .tuple #[shV 0 0 false (.slice none 0 0) (.slice none 0 0), .bool false] ∧ σ' = σ := fun σ => (h1.ok σ s m2).mono fun v σ' h => by rw [hok] at h; exact h
        have H2 : ∀ σ, Ret c2 [.string (str s)] σ fun v σ' => v = .tuple #[shV 0 0 false (.slice none 0 0) (.slice none 0 0), .bool false] ∧ σ' = σ := fun σ => (h2.ok σ s m2).mono fun v σ' h => by rw [hok] at h; exact h
        refine ret_gc rfl rfl ?_
        repeat' (first | refine ff ?_ | ((first | refine EvR.aSplB ?_ ?_ | refine Ev.aSplB ?_ ?_) <;> (intro hb; (try rw [hb]); (try simp only [Bool.not_eq_true', Bool.not_eq_false', Bool.not_eq_eq_eq_not, Bool.not_true, Bool.not_false, decide_eq_true_eq, decide_eq_false_iff_not, Bool.and_eq_true, Bool.and_eq_false_iff, Bool.or_eq_true, Bool.or_eq_false_iff] at hb); (try (exfalso; first | omega | exact hb trivial)))) | (apply endS trivial; rotate_left; (· exact eva); (· rfl); try refine ⟨?_, rfl⟩) | fail)
        (apply EvR.aCall h1.at_; (· exact eva); (· exact  H1 _); (rintro _ _ ⟨rfl, rfl⟩; refine EvR.nrm ?_))
        repeat' (first | refine ff ?_ | ((first | refine EvR.aSplB ?_ ?_ | refine Ev.aSplB ?_ ?_) <;> (intro hb; (try rw [hb]); (try simp only [Bool.not_eq_true', Bool.not_eq_false', Bool.not_eq_eq_eq_not, Bool.not_true, Bool.not_false, decide_eq_true_eq, decide_eq_false_iff_not, Bool.and_eq_true, Bool.and_eq_false_iff, Bool.or_eq_true, Bool.or_eq_false_iff] at hb); (try (exfalso; first | omega | exact hb trivial)))) | (apply endS trivial; rotate_left; (· exact eva); (· rfl); try refine ⟨?_, rfl⟩) | fail)
        (apply EvR.aCall h2.at_; (· exact eva); (· exact  H2 _); (rintro _ _ ⟨rfl, rfl⟩; refine EvR.nrm ?_))
        repeat' (first | refine ff ?_ | ((first | refine EvR.aSplB ?_ ?_ | refine Ev.aSplB ?_ ?_) <;> (intro hb; (try rw [hb]); (try simp only [Bool.not_eq_true', Bool.not_eq_false', Bool.not_eq_eq_eq_not, Bool.not_true, Bool.not_false, decide_eq_true_eq, decide_eq_false_iff_not, Bool.and_eq_true, Bool.and_eq_false_iff, Bool.or_eq_true, Bool.or_eq_false_iff] at hb); (try (exfalso; first | omega | exact hb trivial)))) | (apply endS trivial; rotate_left; (· exact eva); (· rfl); try refine ⟨?_, rfl⟩) | fail)
        (apply EvR.aCall h3.at_; (· exact eva); (· exact  h3.ok _ _ _ _ _ _ _ _ [] [] ⟨Row.nilF, Row.nilF⟩ ⟨Row.nilF, Row.nilF⟩ (by simp) (by simp)); (rintro _ _ ⟨rfl, rfl⟩; refine EvR.nrm ?_))
        repeat' (first | refine ff ?_ | ((first | refine EvR.aSplB ?_ ?_ | refine Ev.aSplB ?_ ?_) <;> (intro hb; (try rw [hb]); (try simp only [Bool.not_eq_true', Bool.not_eq_false', Bool.not_eq_eq_eq_not, Bool.not_true, Bool.not_false, decide_eq_true_eq, decide_eq_false_iff_not, Bool.and_eq_true, Bool.and_eq_false_iff, Bool.or_eq_true, Bool.or_eq_false_iff] at hb); (try (exfalso; first | omega | exact hb trivial)))) | (apply endS trivial; rotate_left; (· exact eva); (· rfl); try refine ⟨?_, rfl⟩) | fail)
        (apply EvR.aCall h4.at_; (· exact eva); (· exact  h4.ok.1 _ _ _ _ 1); (rintro _ _ ⟨rfl, rfl⟩; refine EvR.nrm ?_))
        repeat' (first | refine ff ?_ | ((first | refine EvR.aSplB ?_ ?_ | refine Ev.aSplB ?_ ?_) <;> (intro hb; (try rw [hb]); (try simp only [Bool.not_eq_true', Bool.not_eq_false', Bool.not_eq_eq_eq_not, Bool.not_true, Bool.not_false, decide_eq_true_eq, decide_eq_false_iff_not, Bool.and_eq_true, Bool.and_eq_false_iff, Bool.or_eq_true, Bool.or_eq_false_iff] at hb); (try (exfalso; first | omega | exact hb trivial)))) | (apply endS trivial; rotate_left; (· exact eva); (· rfl); try refine ⟨?_, rfl⟩) | fail)
        (apply EvR.aCall h5.at_; (· exact eva); (· exact  h5.ok _ _ _ _ _ _ 0 0 1 ⟨rfl, rfl, rfl⟩ ⟨rfl, rfl, rfl⟩ (by omega) (by omega) (by omega) (by omega)); (rintro _ _ ⟨rfl, rfl⟩; refine EvR.nrm ?_))
        repeat' (first | refine ff ?_ | ((first | refine EvR.aSplB ?_ ?_ | refine Ev.aSplB ?_ ?_) <;> (intro hb; (try rw [hb]); (try simp only [Bool.not_eq_true', Bool.not_eq_false', Bool.not_eq_eq_eq_not, Bool.not_true, Bool.not_false, decide_eq_true_eq, decide_eq_false_iff_not, Bool.and_eq_true, Bool.and_eq_false_iff, Bool.or_eq_true, Bool.or_eq_false_iff] at hb); (try (exfalso; first | omega | exact hb trivial)))) | (apply endS trivial; rotate_left; (· exact eva); (· rfl); try refine ⟨?_, rfl⟩) | fail)
        (apply EvR.aCall h2.at_; (· exact eva); (· exact  H2 _); (rintro _ _ ⟨rfl, rfl⟩; refine EvR.nrm ?_))
        repeat' (first | refine ff ?_ | ((first | refine EvR.aSplB ?_ ?_ | refine Ev.aSplB ?_ ?_) <;> (intro hb; (try rw [hb]); (try simp only [Bool.not_eq_true', Bool.not_eq_false', Bool.not_eq_eq_eq_not, Bool.not_true, Bool.not_false, decide_eq_true_eq, decide_eq_false_iff_not, Bool.and_eq_true, Bool.and_eq_false_iff, Bool.or_eq_true, Bool.or_eq_false_iff] at hb); (try (exfalso; first | omega | exact hb trivial)))) | (apply endS trivial; rotate_left; (· exact eva); (· rfl); try refine ⟨?_, rfl⟩) | fail)
        (apply EvR.aCall h3.at_; (· exact eva); (· exact  h3.ok _ _ _ _ _ _ _ _ [] [] ⟨Row.nilF, Row.nilF⟩ ⟨Row.nilF, Row.nilF⟩ (by simp) (by simp)); (rintro _ _ ⟨rfl, rfl⟩; refine EvR.nrm ?_))
        repeat' (first | refine ff ?_ | ((first | refine EvR.aSplB ?_ ?_ | refine Ev.aSplB ?_ ?_) <;> (intro hb; (try rw [hb]); (try simp only [Bool.not_eq_true', Bool.not_eq_false', Bool.not_eq_eq_eq_not, Bool.not_true, Bool.not_false, decide_eq_true_eq, decide_eq_false_iff_not, Bool.and_eq_true, Bool.and_eq_false_iff, Bool.or_eq_true, Bool.or_eq_false_iff] at hb); (try (exfalso; first | omega | exact hb trivial)))) | (apply endS trivial; rotate_left; (· exact eva); (· rfl); try refine ⟨?_, rfl⟩) | fail)
        (apply EvR.aCall h5.at_; (· exact eva); (· exact  h5.ok _ _ _ _ _ _ 0 0 1 ⟨rfl, rfl, rfl⟩ ⟨rfl, rfl, rfl⟩ (by omega) (by omega) (by omega) (by omega)); (rintro _ _ ⟨rfl, rfl⟩; refine EvR.nrm ?_))
        repeat' (first | refine ff ?_ | ((first | refine EvR.aSplB ?_ ?_ | refine Ev.aSplB ?_ ?_) <;> (intro hb; (try rw [hb]); (try simp only [Bool.not_eq_true', Bool.not_eq_false', Bool.not_eq_eq_eq_not, Bool.not_true, Bool.not_false, decide_eq_true_eq, decide_eq_false_iff_not, Bool.and_eq_true, Bool.and_eq_false_iff, Bool.or_eq_true, Bool.or_eq_false_iff] at hb); (try (exfalso; first | omega | exact hb trivial)))) | (apply endS trivial; rotate_left; (· exact eva); (· rfl); try refine ⟨?_, rfl⟩) | fail)
        all_goals rfl
      · obtain ⟨w, hh, wr, sp, lo, n1, n2, hld⟩ := ld_ex s
        have H1 : ∀ σ, Ret c1 [.string (str s)] σ fun v σ' => v = .tuple #[shV w hh wr (slV σ.length sp.length) (slV (σ.length + 1) lo.length), .bool true] ∧ σ' = σ ++ [rowO sp, rowO lo] := fun σ => (h1.ok σ s m2).mono fun v σ' h => by rw [hok] at h; exact hld _ _ _ h
        have H2 : ∀ σ, Ret c2 [.string (str s)] σ fun v σ' => v = .tuple #[shV w hh wr (slV σ.length sp.length) (slV (σ.length + 1) lo.length), .bool true] ∧ σ' = σ ++ [rowO sp, rowO lo] := fun σ => (h2.ok σ s m2).mono fun v σ' h => by rw [hok] at h; exact hld _ _ _ h
        have rw1 : ∀ (τ l : Heap) (i : Nat) (xs : List Nat), l[i]? = some (rowO xs) → Row (τ ++ l) 1 (slV (τ.length + i) xs.length) xs.length (f32s xs) := fun τ l i xs h => Row.whole (by rw [hget]; exact h) (by omega) (by rw [f32s_length]; omega)
        refine ret_gc rfl rfl ?_
        repeat' (first | refine ff ?_ | ((first | refine EvR.aSplB ?_ ?_ | refine Ev.aSplB ?_ ?_) <;> (intro hb; (try rw [hb]); (try simp only [Bool.not_eq_true', Bool.not_eq_false', Bool.not_eq_eq_eq_not, Bool.not_true, Bool.not_false, decide_eq_true_eq, decide_eq_false_iff_not, Bool.and_eq_true, Bool.and_eq_false_iff, Bool.or_eq_true, Bool.or_eq_false_iff] at hb); (try (exfalso; first | omega | exact hb trivial)))) | (apply endS trivial; rotate_left; (· exact eva); (· rfl); try refine ⟨?_, rfl⟩) | fail)
        (apply EvR.aCall h1.at_; (· exact eva); (· exact  H1 _); (rintro _ _ ⟨rfl, rfl⟩; refine EvR.nrm ?_))
        repeat' (first | refine ff ?_ | ((first | refine EvR.aSplB ?_ ?_ | refine Ev.aSplB ?_ ?_) <;> (intro hb; (try rw [hb]); (try simp only [Bool.not_eq_true', Bool.not_eq_false', Bool.not_eq_eq_eq_not, Bool.not_true, Bool.not_false, decide_eq_true_eq, decide_eq_false_iff_not, Bool.and_eq_true, Bool.and_eq_false_iff, Bool.or_eq_true, Bool.or_eq_false_iff] at hb); (try (exfalso; first | omega | exact hb trivial)))) | (apply endS trivial; rotate_left; (· exact eva); (· rfl); try refine ⟨?_, rfl⟩) | fail)
        (apply EvR.aCall h2.at_; (· exact eva); (· exact  H2 _); (rintro _ _ ⟨rfl, rfl⟩; refine EvR.nrm ?_))
        repeat' (first | refine ff ?_ | ((first | refine EvR.aSplB ?_ ?_ | refine Ev.aSplB ?_ ?_) <;> (intro hb; (try rw [hb]); (try simp only [Bool.not_eq_true', Bool.not_eq_false', Bool.not_eq_eq_eq_not, Bool.not_true, Bool.not_false, decide_eq_true_eq, decide_eq_false_iff_not, Bool.and_eq_true, Bool.and_eq_false_iff, Bool.or_eq_true, Bool.or_eq_false_iff] at hb); (try (exfalso; first | omega | exact hb trivial)))) | (apply endS trivial; rotate_left; (· exact eva); (· rfl); try refine ⟨?_, rfl⟩) | fail)
        (apply EvR.aCall h3.at_; (· exact eva); (· exact  h3.ok _ _ _ _ _ _ _ _ sp lo ⟨rw1 _ _ 3 sp rfl, rw1 _ _ 4 lo rfl⟩ ⟨rw1 _ _ 0 sp rfl, rw1 _ _ 1 lo rfl⟩ n1 n2); (rintro _ _ ⟨rfl, rfl⟩; refine EvR.nrm ?_))
        repeat' (first | refine ff ?_ | ((first | refine EvR.aSplB ?_ ?_ | refine Ev.aSplB ?_ ?_) <;> (intro hb; (try rw [hb]); (try simp only [Bool.not_eq_true', Bool.not_eq_false', Bool.not_eq_eq_eq_not, Bool.not_true, Bool.not_false, decide_eq_true_eq, decide_eq_false_iff_not, Bool.and_eq_true, Bool.and_eq_false_iff, Bool.or_eq_true, Bool.or_eq_false_iff] at hb); (try (exfalso; first | omega | exact hb trivial)))) | (apply endS trivial; rotate_left; (· exact eva); (· rfl); try refine ⟨?_, rfl⟩) | fail)
        (apply EvR.aCall h4.at_; (· exact eva); (· exact  h4.ok.2 _ _ _ _ _ _ sp lo _ (by omega) (hget _ _ 3) (hget _ _ 4) n1 n2 (by omega) (by omega)); (rintro _ _ ⟨rfl, rfl⟩; refine EvR.nrm ?_))
        repeat' (first | refine ff ?_ | ((first | refine EvR.aSplB ?_ ?_ | refine Ev.aSplB ?_ ?_) <;> (intro hb; (try rw [hb]); (try simp only [Bool.not_eq_true', Bool.not_eq_false', Bool.not_eq_eq_eq_not, Bool.not_true, Bool.not_false, decide_eq_true_eq, decide_eq_false_iff_not, Bool.and_eq_true, Bool.and_eq_false_iff, Bool.or_eq_true, Bool.or_eq_false_iff] at hb); (try (exfalso; first | omega | exact hb trivial)))) | (apply endS trivial; rotate_left; (· exact eva); (· rfl); try refine ⟨?_, rfl⟩) | fail)
        (apply EvR.aCall h5.at_; (· exact eva); (· exact  h5.ok _ _ _ _ _ _ sp.length lo.length 1 (Row.own rfl (by omega) (by rw [f32s_length, marks_length]; omega)) (Row.own rfl (by omega) (by rw [f32s_length, marks_length]; omega)) n1 n2 (by omega) (by omega)); (rintro _ _ ⟨rfl, rfl⟩; refine EvR.nrm ?_))
        repeat' (first | refine ff ?_ | ((first | refine EvR.aSplB ?_ ?_ | refine Ev.aSplB ?_ ?_) <;> (intro hb; (try rw [hb]); (try simp only [Bool.not_eq_true', Bool.not_eq_false', Bool.not_eq_eq_eq_not, Bool.not_true, Bool.not_false, decide_eq_true_eq, decide_eq_false_iff_not, Bool.and_eq_true, Bool.and_eq_false_iff, Bool.or_eq_true, Bool.or_eq_false_iff] at hb); (try (exfalso; first | omega | exact hb trivial)))) | (apply endS trivial; rotate_left; (· exact eva); (· rfl); try refine ⟨?_, rfl⟩) | fail)
        (apply EvR.aCall h2.at_; (· exact eva); (· exact  H2 _); (rintro _ _ ⟨rfl, rfl⟩; refine EvR.nrm ?_))
        repeat' (first | refine ff ?_ | ((first | refine EvR.aSplB ?_ ?_ | refine Ev.aSplB ?_ ?_) <;> (intro hb; (try rw [hb]); (try simp only [Bool.not_eq_true', Bool.not_eq_false', Bool.not_eq_eq_eq_not, Bool.not_true, Bool.not_false, decide_eq_true_eq, decide_eq_false_iff_not, Bool.and_eq_true, Bool.and_eq_false_iff, Bool.or_eq_true, Bool.or_eq_false_iff] at hb); (try (exfalso; first | omega | exact hb trivial)))) | (apply endS trivial; rotate_left; (· exact eva); (· rfl); try refine ⟨?_, rfl⟩) | fail)
        (apply EvR.aCall h3.at_; (· exact eva); (· exact  h3.ok _ _ _ _ _ _ _ _ sp lo ⟨rw1 _ _ 6 sp rfl, rw1 _ _ 7 lo rfl⟩ ⟨rw1 _ _ 0 sp rfl, rw1 _ _ 1 lo rfl⟩ n1 n2); (rintro _ _ ⟨rfl, rfl⟩; refine EvR.nrm ?_))
        repeat' (first | refine ff ?_ | ((first | refine EvR.aSplB ?_ ?_ | refine Ev.aSplB ?_ ?_) <;> (intro hb; (try rw [hb]); (try simp only [Bool.not_eq_true', Bool.not_eq_false', Bool.not_eq_eq_eq_not, Bool.not_true, Bool.not_false, decide_eq_true_eq, decide_eq_false_iff_not, Bool.and_eq_true, Bool.and_eq_false_iff, Bool.or_eq_true, Bool.or_eq_false_iff] at hb); (try (exfalso; first | omega | exact hb trivial)))) | (apply endS trivial; rotate_left; (· exact eva); (· rfl); try refine ⟨?_, rfl⟩) | fail)
        (apply EvR.aCall h5.at_; (· exact eva); (· exact  h5.ok _ _ _ _ _ _ sp.length lo.length 1 (Row.own rfl (by omega) (by rw [f32s_length, marks_length]; omega)) (Row.own rfl (by omega) (by rw [f32s_length, marks_length]; omega)) n1 n2 (by omega) (by omega)); (rintro _ _ ⟨rfl, rfl⟩; refine EvR.nrm ?_))
        repeat' (first | refine ff ?_ | ((first | refine EvR.aSplB ?_ ?_ | refine Ev.aSplB ?_ ?_) <;> (intro hb; (try rw [hb]); (try simp only [Bool.not_eq_true', Bool.not_eq_false', Bool.not_eq_eq_eq_not, Bool.not_true, Bool.not_false, decide_eq_true_eq, decide_eq_false_iff_not, Bool.and_eq_true, Bool.and_eq_false_iff, Bool.or_eq_true, Bool.or_eq_false_iff] at hb); (try (exfalso; first | omega | exact hb trivial)))) | (apply endS trivial; rotate_left; (· exact eva); (· rfl); try refine ⟨?_, rfl⟩) | fail)
        all_goals rfl
    · refine ret_gc rfl rfl ?_
      repeat' (first | refine ff ?_ | ((first | refine EvR.aSplB ?_ ?_ | refine Ev.aSplB ?_ ?_) <;> (intro hb; (try rw [hb]); (try simp only [Bool.not_eq_true', Bool.not_eq_false', Bool.not_eq_eq_eq_not, Bool.not_true, Bool.not_false, decide_eq_true_eq, decide_eq_false_iff_not, Bool.and_eq_true, Bool.and_eq_false_iff, Bool.or_eq_true, Bool.or_eq_false_iff] at hb); (try (exfalso; first | omega | exact hb trivial)))) | (apply endS trivial; rotate_left; (· exact eva); (· rfl); try refine ⟨?_, rfl⟩) | fail)
      all_goals rfl
end Go.Abs

