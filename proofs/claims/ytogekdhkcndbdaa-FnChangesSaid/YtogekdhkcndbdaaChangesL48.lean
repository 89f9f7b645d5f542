/- Laws of functions: lists of numbers are drawn; what laws read of bytes. Conditions: the laws of what they call. -/
import Derived.Test.YtogekdhkcndbdaaChangesL47
namespace Go.Abs

set_option linter.unusedSimpArgs false
set_option linter.unusedVariables false
set_option maxHeartbeats 8000000
set_option maxRecDepth 20000
/- loop.example/g01201/spec.l01DrawFloats -/
def spec_l01DrawFloats_r0 : List SOper := [
  ⟨(some 4), none, .mov (.const (.slice none 0 0)), 0⟩]
def spec_l01DrawFloats_r1 : List SOper := [
  ⟨(some 7), none, .buildSlice 1 0 [] [], 0⟩,
  ⟨(some 5), none, .mov (.tmp 7), 1⟩]
def spec_l01DrawFloats_r2 (i_spec_l00Src_one : FuncId) : List SOper := [
  ⟨(some 8), none, .mov (.tmp 0), 0⟩,
  ⟨(some 9), none, .call (.func i_spec_l00Src_one) [(.tmp 8), (.const (.int .i64 4))], 1⟩,
  ⟨(some 6), none, .mov (.tmp 9), 3⟩]
def spec_l01DrawFloats_r3 : List SOper := [
  ⟨(some 10), none, .mov (.tmp 1), 0⟩,
  ⟨(some 11), none, .bin .gtr .other (.tmp 10) (.const (.int .i64 0)), 1⟩]
def spec_l01DrawFloats_r4 : List SOper := [
  ⟨(some 14), none, .mov (.tmp 6), 0⟩]
def spec_l01DrawFloats_r5 (i_spec_l01DrawFloat : FuncId) : List SOper := [
  ⟨(some 15), none, .mov (.tmp 5), 0⟩,
  ⟨(some 16), none, .mov (.tmp 0), 0⟩,
  ⟨(some 17), none, .call (.func i_spec_l01DrawFloat) [(.tmp 16)], 2⟩,
  ⟨(some 18), none, .buildSlice 1 1 [(.float .f32 0)] [(0, 1, (.tmp 17))], 6⟩,
  ⟨(some 19), none, .append 1 4 (.tmp 15) (.tmp 18), 15⟩,
  ⟨(some 5), none, .mov (.tmp 19), 31⟩]
def spec_l01DrawFloats_r6 (i_spec_l01DrawPlain : FuncId) : List SOper := [
  ⟨(some 20), none, .mov (.tmp 5), 0⟩,
  ⟨(some 21), none, .mov (.tmp 0), 0⟩,
  ⟨(some 22), none, .call (.func i_spec_l01DrawPlain) [(.tmp 21)], 2⟩,
  ⟨(some 23), none, .buildSlice 1 1 [(.float .f32 0)] [(0, 1, (.tmp 22))], 6⟩,
  ⟨(some 24), none, .append 1 4 (.tmp 20) (.tmp 23), 15⟩,
  ⟨(some 5), none, .mov (.tmp 24), 31⟩]
def spec_l01DrawFloats_r7 : List SOper := [
  ⟨(some 12), none, .mov (.tmp 1), 0⟩,
  ⟨(some 13), none, .bin .sub .other (.tmp 12) (.const (.int .i64 1)), 1⟩,
  ⟨(some 1), none, .mov (.tmp 13), 3⟩]
def spec_l01DrawFloats_l8 (i_spec_l01DrawFloat i_spec_l01DrawPlain : FuncId) : SCode := (.kp [0, 1, 5, 6] (.seq (.seq (.region spec_l01DrawFloats_r3 false) (.kp [0, 1, 5, 6, 11] (.cond (.tmp 11) .skip (.exit 0)))) (.kp [0, 1, 5, 6] (.seq (.block 1 (.seq (.region spec_l01DrawFloats_r4 false) (.kp [0, 1, 5, 6, 14] (.cond (.tmp 14) (.region (spec_l01DrawFloats_r5 i_spec_l01DrawFloat) false) (.region (spec_l01DrawFloats_r6 i_spec_l01DrawPlain) false))))) (.kp [0, 1, 5, 6] (.region spec_l01DrawFloats_r7 false))))))
def spec_l01DrawFloats_r9 : List SOper := [
  ⟨(some 25), none, .mov (.tmp 5), 0⟩,
  ⟨(some 4), none, .mov (.tmp 25), 1⟩]
def spec_l01DrawFloats (i_spec_l00Src_one i_spec_l01DrawFloat i_spec_l01DrawPlain : FuncId) : SFunc := ⟨26, [.tmp 4], (.kp [0, 1] (.seq (.region spec_l01DrawFloats_r0 false) (.kp [0, 1] (.seq (.region spec_l01DrawFloats_r1 false) (.kp [0, 1, 5] (.seq (.region (spec_l01DrawFloats_r2 i_spec_l00Src_one) false) (.kp [0, 1, 5, 6] (.seq (.block 0 (.loop (spec_l01DrawFloats_l8 i_spec_l01DrawFloat i_spec_l01DrawPlain))) (.kp [5] (.seq (.region spec_l01DrawFloats_r9 false) .ret))))))))))⟩

/- loop.example/g01201/spec.l00From -/
def spec_l00From_r0 : List SOper := [
  ⟨(some 2), none, .mov (.const (.pointer none)), 0⟩]
def spec_l00From_r1 : List SOper := [
  ⟨(some 3), none, .mov (.tmp 0), 0⟩,
  ⟨(some 4), none, .build [(.slice none 0 0), (.int .i64 0), (.int .u64 0)] [(0, 1, (.tmp 3))], 1⟩,
  ⟨(some 5), none, .box (.tmp 4), 3⟩,
  ⟨(some 2), none, .mov (.tmp 5), 7⟩]
def spec_l00From : SFunc := ⟨6, [.tmp 2], (.kp [0] (.seq (.region spec_l00From_r0 false) (.kp [0] (.seq (.region spec_l00From_r1 false) .ret))))⟩

/- loop.example/g01201/spec.R8Numbers -/
def spec_R8Numbers_r0 : List SOper := [
  ⟨(some 4), none, .mov (.const (.slice none 0 0)), 0⟩]
def spec_R8Numbers_r1 (i_spec_l00From : FuncId) : List SOper := [
  ⟨(some 6), none, .mov (.tmp 0), 0⟩,
  ⟨(some 7), none, .call (.func i_spec_l00From) [(.tmp 6)], 1⟩,
  ⟨(some 5), none, .mov (.tmp 7), 3⟩]
def spec_R8Numbers_r2 (i_spec_l01DrawFloats : FuncId) : List SOper := [
  ⟨(some 8), none, .mov (.tmp 5), 0⟩,
  ⟨(some 9), none, .mov (.tmp 1), 0⟩,
  ⟨(some 10), none, .call (.func i_spec_l01DrawFloats) [(.tmp 8), (.tmp 9)], 3⟩,
  ⟨(some 4), none, .mov (.tmp 10), 7⟩]
def spec_R8Numbers (i_spec_l00From i_spec_l01DrawFloats : FuncId) : SFunc := ⟨11, [.tmp 4], (.kp [0, 1] (.seq (.region spec_R8Numbers_r0 false) (.kp [0, 1] (.seq (.region (spec_R8Numbers_r1 i_spec_l00From) false) (.kp [1, 5] (.seq (.region (spec_R8Numbers_r2 i_spec_l01DrawFloats) false) .ret))))))⟩

/- loop.example/g01201/laws.r8Long -/
def laws_r8Long_r0 : List SOper := [
  ⟨(some 4), none, .mov (.const (.bool false)), 0⟩]
def laws_r8Long_r1 : List SOper := [
  ⟨(some 5), none, .mov (.tmp 0), 0⟩,
  ⟨(some 6), none, .len false (.tmp 5), 1⟩,
  ⟨(some 7), none, .bin .gtr .other (.tmp 6) (.const (.int .i64 48)), 3⟩,
  ⟨(some 8), none, .mov (.tmp 7), 7⟩,
  ⟨(some 9), (some (8, false)), .mov (.tmp 1), 15⟩,
  ⟨(some 10), (some (8, false)), .len false (.tmp 9), 31⟩,
  ⟨(some 11), (some (8, false)), .bin .gtr .other (.tmp 10) (.const (.int .i64 48)), 63⟩,
  ⟨(some 12), none, .pick (.tmp 8) (.const (.bool true)) (.tmp 11), 127⟩,
  ⟨(some 4), none, .mov (.tmp 12), 255⟩]
def laws_r8Long : SFunc := ⟨13, [.tmp 4], (.kp [0, 1] (.seq (.region laws_r8Long_r0 false) (.kp [0, 1] (.seq (.region laws_r8Long_r1 false) .ret))))⟩

/- loop.example/g01201/laws.r8At -/
def laws_r8At_r0 : List SOper := [
  ⟨(some 6), none, .mov (.const (.int .i64 0)), 0⟩]
def laws_r8At_r1 : List SOper := [
  ⟨(some 7), none, .mov (.tmp 2), 0⟩,
  ⟨(some 8), none, .bin .leq .other (.tmp 7) (.const (.int .i64 1)), 1⟩,
  ⟨(some 9), none, .mov (.tmp 8), 3⟩,
  ⟨(some 10), (some (9, false)), .mov (.tmp 1), 7⟩,
  ⟨(some 11), (some (9, false)), .mov (.tmp 0), 7⟩,
  ⟨(some 12), (some (9, false)), .len false (.tmp 11), 23⟩,
  ⟨(some 13), (some (9, false)), .bin .geq .other (.tmp 10) (.tmp 12), 63⟩,
  ⟨(some 14), none, .pick (.tmp 9) (.const (.bool true)) (.tmp 13), 127⟩]
def laws_r8At_r2 : List SOper := [
  ⟨(some 6), none, .mov (.const (.int .i64 0)), 0⟩]
def laws_r8At_r3 : List SOper := [
  ⟨(some 15), none, .mov (.tmp 0), 0⟩,
  ⟨(some 16), none, .mov (.tmp 1), 0⟩,
  ⟨(some 17), none, .indexAddrS 1 (.tmp 15) (.tmp 16), 3⟩,
  ⟨(some 18), none, .load1 (.tmp 17), 7⟩,
  ⟨(some 19), none, .conv (.toInt .i64) (.tmp 18), 15⟩,
  ⟨(some 20), none, .mov (.tmp 2), 0⟩,
  ⟨(some 21), none, .bin .rem .other (.tmp 19) (.tmp 20), 63⟩,
  ⟨(some 6), none, .mov (.tmp 21), 127⟩]
def laws_r8At : SFunc := ⟨22, [.tmp 6], (.kp [0, 1, 2] (.seq (.region laws_r8At_r0 false) (.kp [0, 1, 2] (.seq (.seq (.region laws_r8At_r1 false) (.kp [0, 1, 2, 14] (.cond (.tmp 14) (.seq (.region laws_r8At_r2 false) .ret) .skip))) (.kp [0, 1, 2] (.seq (.region laws_r8At_r3 false) .ret))))))⟩


theorem lows_snoc {xs : List Nat} {y : Nat} (h : lows xs) (hy : y < 4294967296) : lows (xs ++ [y]) := fun i hi => by
  rw [List.length_append, List.length_singleton] at hi
  rcases Nat.lt_or_ge i xs.length with h' | h'
  · rw [List.getD_eq_getElem?_getD, List.getElem?_append_left h', ← List.getD_eq_getElem?_getD]; exact h i h'
  · obtain rfl : i = xs.length := by omega
    rw [List.getD_eq_getElem?_getD, List.getElem?_append_right (Nat.le_refl _), Nat.sub_self]
    exact hy
theorem lows_nil : lows [] := fun i hi => by simp at hi

def spec_l01DrawFloats_ok (c : Contract) : Prop := ∀ (σ : Heap) (b : Nat) (cv : Value) (code : List UInt8) (p d : Int) (n : Nat), Src σ b cv code p d → 0 ≤ p → p ≤ 500000 → code.length ≤ 1000000 → n ≤ 10000 →
    Ret c [.pointer (some ⟨b, 0, none⟩), .int .i64 n] σ fun v σ' => ∃ (ys : List Nat) (p' d' : Int) (rub : Heap), ys.length = n ∧ lows ys ∧ v = slV σ.length n ∧ σ' = σ.set b (srcO cv p' d') ++ (rowO ys :: rub)
theorem spec_l01DrawFloats_law {C : Ctab} {i1 i2 i3 : FuncId} {c1 c2 c3 : Contract} (h1 : HasW C i1 c1 spec_l00Src_one_ok) (h2 : HasW C i2 c2 spec_l01DrawFloat_ok) (h3 : HasW C i3 c3 spec_l01DrawPlain_ok) : spec_l01DrawFloats_ok (bodyC C (spec_l01DrawFloats i1 i2 i3) false) := by
  intro σ b cv code p d n hs p0 p1 hc n1
  refine ret_bw rfl rfl ?_
  repeat' (first | refine ff ?_ | ((first | refine EvR.aSplB ?_ ?_ | refine Ev.aSplB ?_ ?_) <;> (intro hb; (try rw [hb]); (try simp only [Bool.not_eq_true', Bool.not_eq_false', Bool.not_eq_eq_eq_not, Bool.not_true, Bool.not_false, decide_eq_true_eq, decide_eq_false_iff_not, Bool.and_eq_true, Bool.and_eq_false_iff, Bool.or_eq_true, Bool.or_eq_false_iff] at hb); (try (exfalso; first | omega | exact hb trivial)))) | (apply endS trivial; rotate_left; (· exact eva); (· rfl); try refine ⟨?_, rfl⟩) | fail)
  apply EvR.aCall h1.at_; (· exact eva); (· exact h1.ok _ b cv code p d 4 (hs.ext _) p0 (by omega) hc (by omega) (by omega)); rintro _ _ ⟨t, q, e, q0, q1, rfl, rfl⟩
  rw [List.set_append_left _ _ hs.lt]
  refine EvR.nrm ?_
  have hs1 := hs.step q e
  repeat' (first | refine ff ?_ | ((first | refine EvR.aSplB ?_ ?_ | refine Ev.aSplB ?_ ?_) <;> (intro hb; (try rw [hb]); (try simp only [Bool.not_eq_true', Bool.not_eq_false', Bool.not_eq_eq_eq_not, Bool.not_true, Bool.not_false, decide_eq_true_eq, decide_eq_false_iff_not, Bool.and_eq_true, Bool.and_eq_false_iff, Bool.or_eq_true, Bool.or_eq_false_iff] at hb); (try (exfalso; first | omega | exact hb trivial)))) | (apply endS trivial; rotate_left; (· exact eva); (· rfl); try refine ⟨?_, rfl⟩) | fail)
  refine Ev.whlH (S := Nat × List Nat × Int × Int × Heap) (fun st => st.1) (fun st => [(1, .int .i64 st.1), (5, .slice (some ⟨σ.length + 0, 0, none⟩) st.2.1.length st.2.1.length)])
    (fun st => σ.set b (srcO cv st.2.2.1 st.2.2.2.1) ++ (rowO st.2.1 :: st.2.2.2.2)) (fun st => st.2.1.length + st.1 = n ∧ lows st.2.1 ∧ q ≤ st.2.2.1 ∧ st.2.2.1 ≤ q + 12 * st.2.1.length) (n, [], q, e, []) (by (simp only [List.cons_append, List.nil_append, ↓fget_cons, push_cast, Nat.reduceEqDiff, reduceIte] <;> rfl)) rfl ⟨by simp, lows_nil, by dsimp only; omega, by dsimp only; simp⟩ ?_
  rintro ⟨k, ys, p2, d2, rub⟩ F hF ⟨hk, hy, u0, u1⟩
  dsimp only at hF hk hy u0 u1 ⊢
  (simp only [List.cons_append, List.nil_append, ↓fget_cons, fkeep_cons, fkeep_nil, Nat.reduceEqDiff, reduceIte] at hF; subst hF)
  have hs2 := hs.step p2 d2
  obtain ⟨τ, hτ⟩ : ∃ s, s = σ.set b (srcO cv p2 d2) := ⟨_, rfl⟩
  have hl2 : σ.length = τ.length := by rw [hτ, List.length_set]
  rw [← hτ] at hs2 ⊢
  by_cases hlt : 0 < k
  · cases t
    · rw [hl2]
      repeat' (first | refine ff ?_ | ((first | refine EvR.aSplB ?_ ?_ | refine Ev.aSplB ?_ ?_) <;> (intro hb; (try rw [hb]); (try simp only [Bool.not_eq_true', Bool.not_eq_false', Bool.not_eq_eq_eq_not, Bool.not_true, Bool.not_false, decide_eq_true_eq, decide_eq_false_iff_not, Bool.and_eq_true, Bool.and_eq_false_iff, Bool.or_eq_true, Bool.or_eq_false_iff] at hb); (try (exfalso; first | omega | exact hb trivial)))) | (apply endS trivial; rotate_left; (· exact eva); (· rfl); try refine ⟨?_, rfl⟩) | fail)
      apply EvR.aCall h3.at_; (· exact eva); (· exact h3.ok _ b cv code p2 d2 (hs2.ext _) (by omega) (by omega) hc); rintro _ _ ⟨y, p3, d3, rub2, hy3, q2, q3, rfl, rfl⟩
      obtain ⟨τ2, hτ2⟩ : ∃ s, s = τ.set b (srcO cv p3 d3) := ⟨_, rfl⟩
      have hl4 : τ.length = τ2.length := by rw [hτ2, List.length_set]
      rw [List.set_append_left _ _ hs2.lt, ← hτ2, hl4]
      refine EvR.nrm ?_
      generalize rub ++ rub2 = rub3
      repeat' (first | refine ff ?_ | ((first | refine EvR.aSplB ?_ ?_ | refine Ev.aSplB ?_ ?_) <;> (intro hb; (try rw [hb]); (try simp only [Bool.not_eq_true', Bool.not_eq_false', Bool.not_eq_eq_eq_not, Bool.not_true, Bool.not_false, decide_eq_true_eq, decide_eq_false_iff_not, Bool.and_eq_true, Bool.and_eq_false_iff, Bool.or_eq_true, Bool.or_eq_false_iff] at hb); (try (exfalso; first | omega | exact hb trivial)))) | (apply endS trivial; rotate_left; (· exact eva); (· rfl); try refine ⟨?_, rfl⟩) | fail)
      exact ⟨(k - 1, ys ++ [y], p3, d3, rub3 ++ [⟨[.float .f32 y], 1, true⟩]), by dsimp only; omega, by dsimp only; rw [show (ys ++ [y]).length = ys.length + 1 from by simp, show ((k - 1 : Nat) : Int) = (k : Int) - 1 from by omega]; (simp only [List.cons_append, List.nil_append, ↓fget_cons, push_cast, Nat.reduceEqDiff, reduceIte] <;> rfl), by dsimp only; rw [hτ2, hτ, List.set_set], by dsimp only; rw [List.length_append, List.length_singleton]; omega, lows_snoc hy hy3, by dsimp only; omega, by dsimp only; rw [List.length_append, List.length_singleton]; omega⟩
    · rw [hl2]
      repeat' (first | refine ff ?_ | ((first | refine EvR.aSplB ?_ ?_ | refine Ev.aSplB ?_ ?_) <;> (intro hb; (try rw [hb]); (try simp only [Bool.not_eq_true', Bool.not_eq_false', Bool.not_eq_eq_eq_not, Bool.not_true, Bool.not_false, decide_eq_true_eq, decide_eq_false_iff_not, Bool.and_eq_true, Bool.and_eq_false_iff, Bool.or_eq_true, Bool.or_eq_false_iff] at hb); (try (exfalso; first | omega | exact hb trivial)))) | (apply endS trivial; rotate_left; (· exact eva); (· rfl); try refine ⟨?_, rfl⟩) | fail)
      apply EvR.aCall h2.at_; (· exact eva); (· exact h2.ok _ b cv code p2 d2 (hs2.ext _) (by omega) (by omega) hc); rintro _ _ ⟨y, p3, d3, rub2, hy3, q2, q3, rfl, rfl⟩
      obtain ⟨τ2, hτ2⟩ : ∃ s, s = τ.set b (srcO cv p3 d3) := ⟨_, rfl⟩
      have hl4 : τ.length = τ2.length := by rw [hτ2, List.length_set]
      rw [List.set_append_left _ _ hs2.lt, ← hτ2, hl4]
      refine EvR.nrm ?_
      generalize rub ++ rub2 = rub3
      repeat' (first | refine ff ?_ | ((first | refine EvR.aSplB ?_ ?_ | refine Ev.aSplB ?_ ?_) <;> (intro hb; (try rw [hb]); (try simp only [Bool.not_eq_true', Bool.not_eq_false', Bool.not_eq_eq_eq_not, Bool.not_true, Bool.not_false, decide_eq_true_eq, decide_eq_false_iff_not, Bool.and_eq_true, Bool.and_eq_false_iff, Bool.or_eq_true, Bool.or_eq_false_iff] at hb); (try (exfalso; first | omega | exact hb trivial)))) | (apply endS trivial; rotate_left; (· exact eva); (· rfl); try refine ⟨?_, rfl⟩) | fail)
      exact ⟨(k - 1, ys ++ [y], p3, d3, rub3 ++ [⟨[.float .f32 y], 1, true⟩]), by dsimp only; omega, by dsimp only; rw [show (ys ++ [y]).length = ys.length + 1 from by simp, show ((k - 1 : Nat) : Int) = (k : Int) - 1 from by omega]; (simp only [List.cons_append, List.nil_append, ↓fget_cons, push_cast, Nat.reduceEqDiff, reduceIte] <;> rfl), by dsimp only; rw [hτ2, hτ, List.set_set], by dsimp only; rw [List.length_append, List.length_singleton]; omega, lows_snoc hy hy3, by dsimp only; omega, by dsimp only; rw [List.length_append, List.length_singleton]; omega⟩
  · obtain rfl : k = 0 := by omega
    rw [hl2]
    repeat' (first | refine ff ?_ | ((first | refine EvR.aSplB ?_ ?_ | refine Ev.aSplB ?_ ?_) <;> (intro hb; (try rw [hb]); (try simp only [Bool.not_eq_true', Bool.not_eq_false', Bool.not_eq_eq_eq_not, Bool.not_true, Bool.not_false, decide_eq_true_eq, decide_eq_false_iff_not, Bool.and_eq_true, Bool.and_eq_false_iff, Bool.or_eq_true, Bool.or_eq_false_iff] at hb); (try (exfalso; first | omega | exact hb trivial)))) | (apply endS trivial; rotate_left; (· exact eva); (· rfl); try refine ⟨?_, rfl⟩) | fail)
    apply atEnd_ret
    · exact eva
    · exact ⟨ys, p2, d2, rub, by omega, hy, by rw [show ys.length = n from by omega]; rfl, by rw [hτ]⟩

def spec_l00From_ok (c : Contract) : Prop := ∀ (σ : Heap) (cv : Value), cellOk cv = true → Ret c [cv] σ fun v σ' => v = .pointer (some ⟨σ.length, 0, none⟩) ∧ σ' = σ ++ [srcO cv 0 0]
theorem spec_l00From_law {C : Ctab} : spec_l00From_ok (bodyC C spec_l00From true) := by
  intro σ cv k1
  refine ret_bd rfl rfl ?_
  repeat' (first | refine ff ?_ | ((first | refine EvR.aSplB ?_ ?_ | refine Ev.aSplB ?_ ?_) <;> (intro hb; (try rw [hb]); (try simp only [Bool.not_eq_true', Bool.not_eq_false', Bool.not_eq_eq_eq_not, Bool.not_true, Bool.not_false, decide_eq_true_eq, decide_eq_false_iff_not, Bool.and_eq_true, Bool.and_eq_false_iff, Bool.or_eq_true, Bool.or_eq_false_iff] at hb); (try (exfalso; first | omega | exact hb trivial)))) | (apply endS trivial; rotate_left; (· exact eva); (· rfl); try refine ⟨?_, rfl⟩) | fail)
  apply endB trivial
  · exact eva
  · exact ⟨rfl, rfl⟩
def spec_R8Numbers_ok (c : Contract) : Prop := ∀ (σ : Heap) (cv : Value) (code : List UInt8) (n : Nat), Row σ 1 cv code.length (b8s code) → code.length ≤ 1000000 → n ≤ 10000 →
    Ret c [cv, .int .i64 n] σ fun v σ' => ∃ ys : List Nat, ys.length = n ∧ lows ys ∧ v = slV σ.length n ∧ σ' = σ ++ [rowO ys]
theorem spec_R8Numbers_law {C : Ctab} {i1 i2 : FuncId} {c1 c2 : Contract} (h1 : Has C i1 c1 spec_l00From_ok) (h2 : HasW C i2 c2 spec_l01DrawFloats_ok) : spec_R8Numbers_ok (gcC C (spec_R8Numbers i1 i2) true) := by
  intro σ cv code n hr hc hn
  have k1 := hr.ok
  refine ret_gc rfl rfl ?_
  repeat' (first | refine ff ?_ | ((first | refine EvR.aSplB ?_ ?_ | refine Ev.aSplB ?_ ?_) <;> (intro hb; (try rw [hb]); (try simp only [Bool.not_eq_true', Bool.not_eq_false', Bool.not_eq_eq_eq_not, Bool.not_true, Bool.not_false, decide_eq_true_eq, decide_eq_false_iff_not, Bool.and_eq_true, Bool.and_eq_false_iff, Bool.or_eq_true, Bool.or_eq_false_iff] at hb); (try (exfalso; first | omega | exact hb trivial)))) | (apply endS trivial; rotate_left; (· exact eva); (· rfl); try refine ⟨?_, rfl⟩) | fail)
  (apply EvR.aCall h1.at_; (· exact eva); (· exact  h1.ok _ cv k1); (rintro _ _ ⟨rfl, rfl⟩; refine EvR.nrm ?_))
  repeat' (first | refine ff ?_ | ((first | refine EvR.aSplB ?_ ?_ | refine Ev.aSplB ?_ ?_) <;> (intro hb; (try rw [hb]); (try simp only [Bool.not_eq_true', Bool.not_eq_false', Bool.not_eq_eq_eq_not, Bool.not_true, Bool.not_false, decide_eq_true_eq, decide_eq_false_iff_not, Bool.and_eq_true, Bool.and_eq_false_iff, Bool.or_eq_true, Bool.or_eq_false_iff] at hb); (try (exfalso; first | omega | exact hb trivial)))) | (apply endS trivial; rotate_left; (· exact eva); (· rfl); try refine ⟨?_, rfl⟩) | fail)
  apply EvR.aCall h2.at_; (· exact eva); (· exact h2.ok _ (σ.length + 0) cv code 0 0 n ⟨hget _ _ 0, hr.ext _⟩ (by omega) (by omega) hc hn); rintro _ _ ⟨ys, p', d', rub, hyl, hyw, rfl, rfl⟩
  refine EvR.nrm ?_
  repeat' (first | refine ff ?_ | ((first | refine EvR.aSplB ?_ ?_ | refine Ev.aSplB ?_ ?_) <;> (intro hb; (try rw [hb]); (try simp only [Bool.not_eq_true', Bool.not_eq_false', Bool.not_eq_eq_eq_not, Bool.not_true, Bool.not_false, decide_eq_true_eq, decide_eq_false_iff_not, Bool.and_eq_true, Bool.and_eq_false_iff, Bool.or_eq_true, Bool.or_eq_false_iff] at hb); (try (exfalso; first | omega | exact hb trivial)))) | (apply endS trivial; rotate_left; (· exact eva); (· rfl); try refine ⟨?_, rfl⟩) | fail)
  (apply endR [1] trivial ⟨ys, hyl, hyw, rfl, rfl⟩; (· exact eva); (· simp [gcTop, gcVal, gcLeaf, gcLeaves, gcVals, constOk, gc_lt, gc_lt0]); (· rfl); (· decide); (· simp [allConst, f32s, constOk]))
/-- The numbers that laws read of bytes. -/
def laws_r8Long_ok (c : Contract) : Prop := ∀ (σ : Heap) (u v : Value) (xs ys : List UInt8), Row σ 1 u xs.length (b8s xs) → Row σ 1 v ys.length (b8s ys) → Ret c [u, v] σ fun r σ' => r = .bool (decide (48 < xs.length) || decide (48 < ys.length)) ∧ σ' = σ
theorem laws_r8Long_law {C : Ctab} : laws_r8Long_ok (gcC C laws_r8Long true) := by
  intro σ u v xs ys r1 r2
  refine ret_gc rfl rfl ?_
  repeat' (first | refine ff ?_ | ((first | refine EvR.aSplB ?_ ?_ | refine Ev.aSplB ?_ ?_) <;> (intro hb; (try rw [hb]); (try simp only [Bool.not_eq_true', Bool.not_eq_false', Bool.not_eq_eq_eq_not, Bool.not_true, Bool.not_false, decide_eq_true_eq, decide_eq_false_iff_not, Bool.and_eq_true, Bool.and_eq_false_iff, Bool.or_eq_true, Bool.or_eq_false_iff] at hb); (try (exfalso; first | omega | exact hb trivial)))) | (apply endS trivial; rotate_left; (· exact eva); (· rfl); try refine ⟨?_, rfl⟩) | fail)
  all_goals
    by_cases hx : 48 < xs.length <;> by_cases hy : 48 < ys.length <;> (try simp [hx, hy]) <;> (try omega)
def laws_r8At_ok (c : Contract) : Prop := ∀ (σ : Heap) (u : Value) (xs : List UInt8) (k n : Int), Row σ 1 u xs.length (b8s xs) → 0 ≤ k → 1 < n → n ≤ 1000 → Ret c [u, .int .i64 k, .int .i64 n] σ fun r σ' => ∃ q : Int, 0 ≤ q ∧ q < n ∧ r = .int .i64 q ∧ σ' = σ
theorem laws_r8At_law {C : Ctab} : laws_r8At_ok (gcC C laws_r8At true) := by
  intro σ u xs k n r1 k0 n1 n2
  have hbyte : ∀ i : Nat, i < xs.length → aLoad1 (σ ++ []) (elemP 1 u i) = some (byteV (xs.getD i 0)) := fun i hi => by
    rw [(r1.ext []).load hi, b8s_get hi]
  refine ret_gc rfl rfl ?_
  repeat' (first | refine ff ?_ | ((first | refine EvR.aSplB ?_ ?_ | refine Ev.aSplB ?_ ?_) <;> (intro hb; (try rw [hb]); (try simp only [Bool.not_eq_true', Bool.not_eq_false', Bool.not_eq_eq_eq_not, Bool.not_true, Bool.not_false, decide_eq_true_eq, decide_eq_false_iff_not, Bool.and_eq_true, Bool.and_eq_false_iff, Bool.or_eq_true, Bool.or_eq_false_iff] at hb); (try (exfalso; first | omega | exact hb trivial)))) | (apply endS trivial; rotate_left; (· exact eva); (· rfl); try refine ⟨?_, rfl⟩) | fail)
  · exact ⟨0, by omega, by omega, rfl, rfl⟩
  · refine EvR.opS (v := byteV (xs.getD k.toNat 0)) (by show (aLoad1 _ (elemP 1 u k.toNat)).map _ = _; rw [hbyte _ (by omega)]; rfl) ?_
    have hbt := UInt8.toNat_lt (xs.getD k.toNat 0)
    repeat' (first | refine ff ?_ | ((first | refine EvR.aSplB ?_ ?_ | refine Ev.aSplB ?_ ?_) <;> (intro hb; (try rw [hb]); (try simp only [Bool.not_eq_true', Bool.not_eq_false', Bool.not_eq_eq_eq_not, Bool.not_true, Bool.not_false, decide_eq_true_eq, decide_eq_false_iff_not, Bool.and_eq_true, Bool.and_eq_false_iff, Bool.or_eq_true, Bool.or_eq_false_iff] at hb); (try (exfalso; first | omega | exact hb trivial)))) | (apply endS trivial; rotate_left; (· exact eva); (· rfl); try refine ⟨?_, rfl⟩) | fail)
    exact ⟨_, Int.emod_nonneg _ (by omega), Int.emod_lt_of_pos _ (by omega), rfl, rfl⟩
end Go.Abs

