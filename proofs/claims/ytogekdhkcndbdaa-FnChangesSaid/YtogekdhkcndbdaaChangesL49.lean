/- Law of a row's function: changes of numbers lead to the others. Conditions: the laws of what it calls. -/
import Derived.Test.YtogekdhkcndbdaaChangesL48
import Derived.Test.YtogekdhkcndbdaaChangesL45
import Derived.Test.YtogekdhkcndbdaaChangesL43
import Derived.Test.YtogekdhkcndbdaaChangesL88
import Derived.Test.YtogekdhkcndbdaaChangesL93
namespace Go.Abs

set_option linter.unusedSimpArgs false
set_option linter.unusedVariables false
set_option maxHeartbeats 8000000
set_option maxRecDepth 20000
/- loop.example/g01201/laws.r8Same -/
def laws_r8Same_r0 : List SOper := [
  ⟨(some 4), none, .mov (.const (.bool false)), 0⟩]
def laws_r8Same_r1 : List SOper := [
  ⟨(some 6), none, .mov (.tmp 0), 0⟩,
  ⟨(some 7), none, .len false (.tmp 6), 1⟩,
  ⟨(some 8), none, .mov (.tmp 1), 0⟩,
  ⟨(some 9), none, .len false (.tmp 8), 4⟩,
  ⟨(some 10), none, .bin .neq .other (.tmp 7) (.tmp 9), 15⟩]
def laws_r8Same_r2 : List SOper := [
  ⟨(some 4), none, .mov (.const (.bool false)), 0⟩]
def laws_r8Same_r3 : List SOper := [
  ⟨(some 5), none, .mov (.const (.int .i64 0)), 0⟩]
def laws_r8Same_r4 : List SOper := [
  ⟨(some 11), none, .mov (.tmp 5), 0⟩,
  ⟨(some 12), none, .mov (.tmp 0), 0⟩,
  ⟨(some 13), none, .len false (.tmp 12), 2⟩,
  ⟨(some 14), none, .bin .lss .other (.tmp 11) (.tmp 13), 7⟩]
def laws_r8Same_r5 (i_impl_SameNumber : FuncId) : List SOper := [
  ⟨(some 17), none, .mov (.tmp 0), 0⟩,
  ⟨(some 18), none, .mov (.tmp 5), 0⟩,
  ⟨(some 19), none, .indexAddrS 1 (.tmp 17) (.tmp 18), 3⟩,
  ⟨(some 20), none, .load1 (.tmp 19), 7⟩,
  ⟨(some 21), none, .mov (.tmp 1), 0⟩,
  ⟨(some 22), none, .mov (.tmp 5), 0⟩,
  ⟨(some 23), none, .indexAddrS 1 (.tmp 21) (.tmp 22), 48⟩,
  ⟨(some 24), none, .load1 (.tmp 23), 112⟩,
  ⟨(some 25), none, .call (.func i_impl_SameNumber) [(.tmp 20), (.tmp 24)], 255⟩,
  ⟨(some 26), none, .un .not (.tmp 25), 511⟩]
def laws_r8Same_r6 : List SOper := [
  ⟨(some 4), none, .mov (.const (.bool false)), 0⟩]
def laws_r8Same_r7 : List SOper := [
  ⟨(some 15), none, .mov (.tmp 5), 0⟩,
  ⟨(some 16), none, .bin .add .other (.tmp 15) (.const (.int .i64 1)), 1⟩,
  ⟨(some 5), none, .mov (.tmp 16), 3⟩]
def laws_r8Same_l8 (i_impl_SameNumber : FuncId) : SCode := (.kp [0, 1, 5] (.seq (.seq (.region laws_r8Same_r4 false) (.kp [0, 1, 5, 14] (.cond (.tmp 14) .skip (.exit 0)))) (.kp [0, 1, 5] (.seq (.block 1 (.seq (.region (laws_r8Same_r5 i_impl_SameNumber) true) (.kp [0, 1, 5, 26] (.cond (.tmp 26) (.seq (.region laws_r8Same_r6 false) .ret) .skip)))) (.kp [0, 1, 5] (.region laws_r8Same_r7 false))))))
def laws_r8Same_r9 : List SOper := [
  ⟨(some 4), none, .mov (.const (.bool true)), 0⟩]
def laws_r8Same (i_impl_SameNumber : FuncId) : SFunc := ⟨27, [.tmp 4], (.kp [0, 1] (.seq (.region laws_r8Same_r0 false) (.kp [0, 1] (.seq (.seq (.region laws_r8Same_r1 false) (.kp [0, 1, 10] (.cond (.tmp 10) (.seq (.region laws_r8Same_r2 false) .ret) .skip))) (.kp [0, 1] (.seq (.seq (.region laws_r8Same_r3 false) (.kp [0, 1, 5] (.block 0 (.loop (laws_r8Same_l8 i_impl_SameNumber))))) (.kp [] (.seq (.region laws_r8Same_r9 false) .ret))))))))⟩
theorem laws_r8Same_r5_dr {i_impl_SameNumber : FuncId} : drawOkW wStat (laws_r8Same_r5 i_impl_SameNumber) = true := by kernel_rfl
attribute [push_cast] laws_r8Same_r5_dr
/- loop.example/g01201/laws.FnChanges -/
def laws_FnChanges_r0 : List SOper := [
  ⟨(some 4), none, .mov (.const (.bool false)), 0⟩]
def laws_FnChanges_r1 (i_laws_r8Long : FuncId) : List SOper := [
  ⟨(some 17), none, .mov (.tmp 0), 0⟩,
  ⟨(some 18), none, .mov (.tmp 1), 0⟩,
  ⟨(some 19), none, .call (.func i_laws_r8Long) [(.tmp 17), (.tmp 18)], 3⟩]
def laws_FnChanges_r2 : List SOper := [
  ⟨(some 4), none, .mov (.const (.bool true)), 0⟩]
def laws_FnChanges_r3 (i_laws_r8At : FuncId) : List SOper := [
  ⟨(some 20), none, .mov (.tmp 1), 0⟩,
  ⟨(some 21), none, .call (.func i_laws_r8At) [(.tmp 20), (.const (.int .i64 40)), (.const (.int .i64 20))], 1⟩,
  ⟨(some 5), none, .mov (.tmp 21), 3⟩]
def laws_FnChanges_r4 (i_spec_R8Numbers : FuncId) : List SOper := [
  ⟨(some 22), none, .mov (.tmp 0), 0⟩,
  ⟨(some 23), none, .mov (.tmp 5), 0⟩,
  ⟨(some 24), none, .call (.func i_spec_R8Numbers) [(.tmp 22), (.tmp 23)], 3⟩,
  ⟨(some 6), none, .mov (.tmp 24), 7⟩]
def laws_FnChanges_r5 (i_spec_R8Numbers : FuncId) : List SOper := [
  ⟨(some 25), none, .mov (.tmp 1), 0⟩,
  ⟨(some 26), none, .mov (.tmp 5), 0⟩,
  ⟨(some 27), none, .call (.func i_spec_R8Numbers) [(.tmp 25), (.tmp 26)], 3⟩,
  ⟨(some 7), none, .mov (.tmp 27), 7⟩]
def laws_FnChanges_r6 : List SOper := [
  ⟨(some 8), none, .mov (.const (.int .i64 0)), 0⟩]
def laws_FnChanges_r7 : List SOper := [
  ⟨(some 28), none, .mov (.tmp 8), 0⟩,
  ⟨(some 29), none, .mov (.tmp 5), 0⟩,
  ⟨(some 30), none, .bin .lss .other (.tmp 28) (.tmp 29), 3⟩]
def laws_FnChanges_r8 (i_laws_r8At : FuncId) : List SOper := [
  ⟨(some 33), none, .mov (.tmp 0), 0⟩,
  ⟨(some 34), none, .mov (.tmp 8), 0⟩,
  ⟨(some 35), none, .call (.func i_laws_r8At) [(.tmp 33), (.tmp 34), (.const (.int .i64 3))], 3⟩,
  ⟨(some 36), none, .bin .eql .other (.tmp 35) (.const (.int .i64 0)), 7⟩]
def laws_FnChanges_r9 : List SOper := [
  ⟨(some 37), none, .mov (.tmp 7), 0⟩,
  ⟨(some 38), none, .mov (.tmp 8), 0⟩,
  ⟨(some 39), none, .mov (.tmp 6), 0⟩,
  ⟨(some 40), none, .mov (.tmp 8), 0⟩,
  ⟨(some 41), none, .indexAddrS 1 (.tmp 39) (.tmp 40), 12⟩,
  ⟨(some 42), none, .load1 (.tmp 41), 28⟩,
  ⟨(some 43), none, .indexAddrS 1 (.tmp 37) (.tmp 38), 63⟩,
  ⟨none, none, .store 1 (.tmp 43) (.tmp 42), 127⟩]
def laws_FnChanges_r10 : List SOper := [
  ⟨(some 31), none, .mov (.tmp 8), 0⟩,
  ⟨(some 32), none, .bin .add .other (.tmp 31) (.const (.int .i64 1)), 1⟩,
  ⟨(some 8), none, .mov (.tmp 32), 3⟩]
def laws_FnChanges_l11 (i_laws_r8At : FuncId) : SCode := (.kp [0, 5, 6, 7, 8] (.seq (.seq (.region laws_FnChanges_r7 false) (.kp [0, 5, 6, 7, 8, 30] (.cond (.tmp 30) .skip (.exit 0)))) (.kp [0, 5, 6, 7, 8] (.seq (.block 1 (.seq (.region (laws_FnChanges_r8 i_laws_r8At) false) (.kp [0, 5, 6, 7, 8, 36] (.cond (.tmp 36) (.region laws_FnChanges_r9 false) .skip)))) (.kp [0, 5, 6, 7, 8] (.region laws_FnChanges_r10 false))))))
def laws_FnChanges_r12 (i_impl_ChangeBytes : FuncId) : List SOper := [
  ⟨(some 45), none, .mov (.tmp 6), 0⟩,
  ⟨(some 46), none, .mov (.tmp 7), 0⟩,
  ⟨(some 47), none, .call (.func i_impl_ChangeBytes) [(.tmp 45), (.tmp 46)], 3⟩,
  ⟨(some 44), none, .mov (.tmp 47), 7⟩,
  ⟨(some 48), none, .extract (.tmp 44) 0, 15⟩,
  ⟨(some 49), none, .extract (.tmp 44) 1, 15⟩,
  ⟨(some 9), none, .mov (.tmp 48), 31⟩,
  ⟨(some 10), none, .mov (.tmp 49), 127⟩]
def laws_FnChanges_r13 (i_impl_ApplyChange : FuncId) : List SOper := [
  ⟨(some 51), none, .mov (.tmp 6), 0⟩,
  ⟨(some 52), none, .mov (.tmp 9), 0⟩,
  ⟨(some 53), none, .call (.func i_impl_ApplyChange) [(.tmp 51), (.tmp 52)], 3⟩,
  ⟨(some 50), none, .mov (.tmp 53), 7⟩,
  ⟨(some 54), none, .extract (.tmp 50) 0, 15⟩,
  ⟨(some 55), none, .extract (.tmp 50) 1, 15⟩,
  ⟨(some 11), none, .mov (.tmp 54), 31⟩,
  ⟨(some 12), none, .mov (.tmp 55), 127⟩]
def laws_FnChanges_r14 (i_impl_ChangeBytes : FuncId) : List SOper := [
  ⟨(some 57), none, .mov (.tmp 6), 0⟩,
  ⟨(some 58), none, .mov (.tmp 6), 0⟩,
  ⟨(some 59), none, .call (.func i_impl_ChangeBytes) [(.tmp 57), (.tmp 58)], 3⟩,
  ⟨(some 56), none, .mov (.tmp 59), 7⟩,
  ⟨(some 60), none, .extract (.tmp 56) 0, 15⟩,
  ⟨(some 61), none, .extract (.tmp 56) 1, 15⟩,
  ⟨(some 13), none, .mov (.tmp 60), 31⟩,
  ⟨(some 14), none, .mov (.tmp 61), 127⟩]
def laws_FnChanges_r15 (i_impl_ApplyChange : FuncId) : List SOper := [
  ⟨(some 63), none, .mov (.tmp 6), 0⟩,
  ⟨(some 64), none, .mov (.tmp 9), 0⟩,
  ⟨(some 65), none, .bin .add .other (.tmp 64) (.const (.string ⟨#[120]⟩)), 2⟩,
  ⟨(some 66), none, .call (.func i_impl_ApplyChange) [(.tmp 63), (.tmp 65)], 7⟩,
  ⟨(some 62), none, .mov (.tmp 66), 15⟩,
  ⟨(some 67), none, .extract (.tmp 62) 0, 31⟩,
  ⟨(some 68), none, .extract (.tmp 62) 1, 31⟩,
  ⟨(some 15), none, .mov (.tmp 67), 63⟩,
  ⟨(some 16), none, .mov (.tmp 68), 255⟩]
def laws_FnChanges_r16 (i_laws_r8Same : FuncId) : List SOper := [
  ⟨(some 69), none, .mov (.tmp 10), 0⟩,
  ⟨(some 70), none, .mov (.tmp 69), 1⟩,
  ⟨(some 71), (some (70, true)), .mov (.tmp 12), 3⟩,
  ⟨(some 72), none, .pick (.tmp 70) (.tmp 71) (.const (.bool false)), 7⟩,
  ⟨(some 73), none, .mov (.tmp 72), 15⟩,
  ⟨(some 74), (some (73, true)), .mov (.tmp 14), 31⟩,
  ⟨(some 75), none, .pick (.tmp 73) (.tmp 74) (.const (.bool false)), 63⟩,
  ⟨(some 76), none, .mov (.tmp 75), 127⟩,
  ⟨(some 77), (some (76, true)), .mov (.tmp 16), 255⟩,
  ⟨(some 78), (some (76, true)), .un .not (.tmp 77), 511⟩,
  ⟨(some 79), none, .pick (.tmp 76) (.tmp 78) (.const (.bool false)), 1023⟩,
  ⟨(some 80), none, .mov (.tmp 79), 2047⟩,
  ⟨(some 81), (some (80, true)), .mov (.tmp 11), 4095⟩,
  ⟨(some 82), (some (80, true)), .mov (.tmp 7), 4095⟩,
  ⟨(some 83), (some (80, true)), .call (.func i_laws_r8Same) [(.tmp 81), (.tmp 82)], 16383⟩,
  ⟨(some 84), none, .pick (.tmp 80) (.tmp 83) (.const (.bool false)), 32767⟩,
  ⟨(some 85), none, .mov (.tmp 84), 65535⟩,
  ⟨(some 86), (some (85, true)), .mov (.tmp 13), 131071⟩,
  ⟨(some 87), (some (85, true)), .len true (.tmp 86), 262143⟩,
  ⟨(some 88), (some (85, true)), .bin .leq .other (.tmp 87) (.const (.int .i64 2)), 524287⟩,
  ⟨(some 89), none, .pick (.tmp 85) (.tmp 88) (.const (.bool false)), 1048575⟩,
  ⟨(some 90), none, .mov (.tmp 89), 2097151⟩,
  ⟨(some 91), (some (90, true)), .mov (.tmp 5), 4194303⟩,
  ⟨(some 92), (some (90, true)), .bin .eql .other (.tmp 91) (.const (.int .i64 0)), 8388607⟩,
  ⟨(some 93), (some (90, true)), .mov (.tmp 13), 4194303⟩,
  ⟨(some 94), (some (90, true)), .len true (.tmp 93), 20971519⟩,
  ⟨(some 95), (some (90, true)), .bin .eql .other (.tmp 94) (.const (.int .i64 0)), 54525951⟩,
  ⟨(some 96), (some (90, true)), .bin .eql .bool (.tmp 92) (.tmp 95), 134217727⟩,
  ⟨(some 97), none, .pick (.tmp 90) (.tmp 96) (.const (.bool false)), 268435455⟩,
  ⟨(some 4), none, .mov (.tmp 97), 536870911⟩]
def laws_FnChanges (i_laws_r8Long i_laws_r8At i_spec_R8Numbers i_impl_ChangeBytes i_impl_ApplyChange i_laws_r8Same : FuncId) : SFunc := ⟨98, [.tmp 4], (.kp [0, 1] (.seq (.region laws_FnChanges_r0 false) (.kp [0, 1] (.seq (.seq (.region (laws_FnChanges_r1 i_laws_r8Long) false) (.kp [0, 1, 19] (.cond (.tmp 19) (.seq (.region laws_FnChanges_r2 false) .ret) .skip))) (.kp [0, 1] (.seq (.region (laws_FnChanges_r3 i_laws_r8At) false) (.kp [0, 1, 5] (.seq (.region (laws_FnChanges_r4 i_spec_R8Numbers) false) (.kp [0, 1, 5, 6] (.seq (.region (laws_FnChanges_r5 i_spec_R8Numbers) false) (.kp [0, 5, 6, 7] (.seq (.seq (.region laws_FnChanges_r6 false) (.kp [0, 5, 6, 7, 8] (.block 0 (.loop (laws_FnChanges_l11 i_laws_r8At))))) (.kp [5, 6, 7] (.seq (.region (laws_FnChanges_r12 i_impl_ChangeBytes) false) (.kp [5, 6, 7, 9, 10] (.seq (.region (laws_FnChanges_r13 i_impl_ApplyChange) false) (.kp [5, 6, 7, 9, 10, 11, 12] (.seq (.region (laws_FnChanges_r14 i_impl_ChangeBytes) false) (.kp [5, 6, 7, 9, 10, 11, 12, 13, 14] (.seq (.region (laws_FnChanges_r15 i_impl_ApplyChange) false) (.kp [5, 7, 10, 11, 12, 13, 14, 16] (.seq (.region (laws_FnChanges_r16 i_laws_r8Same) false) .ret))))))))))))))))))))))⟩


theorem lows_set {xs : List Nat} {i y : Nat} (h : lows xs) (hy : y < 4294967296) : lows (xs.set i y) := fun j hj => by
  rw [List.length_set] at hj
  rw [List.getD_eq_getElem?_getD, List.getElem?_set]
  by_cases e : i = j
  · rw [if_pos e, if_pos (by omega)]; exact hy
  · rw [if_neg e, ← List.getD_eq_getElem?_getD]; exact h j hj
theorem lows_in {xs : List Nat} (h : lows xs) : in32N xs := fun i => by
  rcases Nat.lt_or_ge i xs.length with h' | h'
  · exact h i h'
  · rw [List.getD_eq_getElem?_getD, List.getElem?_eq_none h']; simp
def laws_r8Same_ok (c : Contract) : Prop := ∀ (σ : Heap) (u v : Value) (xs ys : List Nat), Row σ 1 u xs.length (f32s xs) → Row σ 1 v ys.length (f32s ys) → xs.length = ys.length → xs.length ≤ 1048576 → lows xs → lows ys → (∀ j, j < xs.length → bitsC (xs.getD j 0) = bitsC (ys.getD j 0)) →
    Ret c [u, v] σ fun r σ' => r = .bool true ∧ σ' = σ
theorem laws_r8Same_law {C : Ctab} {i1 : FuncId} {c1 : Contract} (h1 : Has C i1 c1 impl_SameNumberN_ok) : laws_r8Same_ok (gcC C (laws_r8Same i1) true) := by
  intro σ v u xs ys r1 r2 hl hn l1 l2 hg
  have n1 := lows_in l1
  have n2 := lows_in l2
  have k1 := r1.ok
  have k2 := r2.ok
  refine ret_gc rfl rfl ?_
  repeat' (first | refine ff ?_ | ((first | refine EvR.aSplB ?_ ?_ | refine Ev.aSplB ?_ ?_) <;> (intro hb; (try rw [hb]); (try simp only [Bool.not_eq_true', Bool.not_eq_false', Bool.not_eq_eq_eq_not, Bool.not_true, Bool.not_false, decide_eq_true_eq, decide_eq_false_iff_not, Bool.and_eq_true, Bool.and_eq_false_iff, Bool.or_eq_true, Bool.or_eq_false_iff] at hb); (try (exfalso; first | omega | exact hb trivial)))) | (apply endS trivial; rotate_left; (· exact eva); (· rfl); try refine ⟨?_, rfl⟩) | fail)
  refine Ev.whlC (S := Nat) (fun i => xs.length - i) (fun i => [(5, .int .i64 i)]) (fun i => i ≤ xs.length) 0 (by (simp only [List.cons_append, List.nil_append, ↓fget_cons, push_cast, Nat.reduceEqDiff, reduceIte] <;> rfl)) (Nat.zero_le _) ?_
  rintro i F hF hi
  (simp only [List.cons_append, List.nil_append, ↓fget_cons, fkeep_cons, fkeep_nil, Nat.reduceEqDiff, reduceIte] at hF; subst hF)
  by_cases hlt : i < xs.length
  · have a1 := n1 i
    have b1 := n2 i
    have he := hg i hlt
    repeat' (first | refine ff ?_ | ((first | refine EvR.aSplB ?_ ?_ | refine Ev.aSplB ?_ ?_) <;> (intro hb; (try rw [hb]); (try simp only [Bool.not_eq_true', Bool.not_eq_false', Bool.not_eq_eq_eq_not, Bool.not_true, Bool.not_false, decide_eq_true_eq, decide_eq_false_iff_not, Bool.and_eq_true, Bool.and_eq_false_iff, Bool.or_eq_true, Bool.or_eq_false_iff] at hb); (try (exfalso; first | omega | exact hb trivial)))) | (apply endS trivial; rotate_left; (· exact eva); (· rfl); try refine ⟨?_, rfl⟩) | fail)
    (apply EvR.aCall h1.at_; (· exact eva); (· exact  h1.ok _ (xs.getD i 0) (ys.getD i 0) a1 b1); (rintro _ _ ⟨rfl, rfl⟩; refine EvR.nrm ?_))
    rw [decide_eq_true he]
    repeat' (first | refine ff ?_ | ((first | refine EvR.aSplB ?_ ?_ | refine Ev.aSplB ?_ ?_) <;> (intro hb; (try rw [hb]); (try simp only [Bool.not_eq_true', Bool.not_eq_false', Bool.not_eq_eq_eq_not, Bool.not_true, Bool.not_false, decide_eq_true_eq, decide_eq_false_iff_not, Bool.and_eq_true, Bool.and_eq_false_iff, Bool.or_eq_true, Bool.or_eq_false_iff] at hb); (try (exfalso; first | omega | exact hb trivial)))) | (apply endS trivial; rotate_left; (· exact eva); (· rfl); try refine ⟨?_, rfl⟩) | fail)
    exact ⟨i + 1, by omega, by (simp only [List.cons_append, List.nil_append, ↓fget_cons, push_cast, Nat.reduceEqDiff, reduceIte] <;> rfl), rfl, by omega⟩
  · obtain rfl : i = xs.length := by omega
    repeat' (first | refine ff ?_ | ((first | refine EvR.aSplB ?_ ?_ | refine Ev.aSplB ?_ ?_) <;> (intro hb; (try rw [hb]); (try simp only [Bool.not_eq_true', Bool.not_eq_false', Bool.not_eq_eq_eq_not, Bool.not_true, Bool.not_false, decide_eq_true_eq, decide_eq_false_iff_not, Bool.and_eq_true, Bool.and_eq_false_iff, Bool.or_eq_true, Bool.or_eq_false_iff] at hb); (try (exfalso; first | omega | exact hb trivial)))) | (apply endS trivial; rotate_left; (· exact eva); (· rfl); try refine ⟨?_, rfl⟩) | fail)
    all_goals (try rfl)

abbrev bytesK : Bool × List CK := (false, [.rowI .u8])
theorem bytes_abs {σ : Heap} {v : Value} (h : argAbs σ false [.rowI .u8] v) : ∃ xs : List UInt8, Row σ 1 v xs.length (b8s xs) ∧ xs.length ≤ 9223372036854775807 := by
  obtain ⟨cs, h1, h2⟩ := h
  obtain ⟨_, _, rfl, ⟨xs, hs, hs2, hs3⟩, g1⟩ := absAll_cons h1
  cases absAll_nil g1
  rw [maxLen_eq] at hs2
  simp only [Bool.false_eq_true, if_false, List.cons.injEq, and_true] at h2
  subst h2
  refine ⟨xs.map fun x => UInt8.ofNat x.toNat, ?_, by rw [List.length_map]; exact hs2⟩
  have e : b8s (xs.map fun x => UInt8.ofNat x.toNat) = xs.map (.int .u8) := by
    unfold b8s
    rw [List.map_map]
    apply List.map_congr_left
    intro x hx
    have := hs3 x hx
    unfold inK at this
    simp [IntKind.min, IntKind.max, IntKind.bits, IntKind.signed] at this
    simp
    omega
  rw [List.length_map, e]
  exact hs
theorem lows_mixed {a b : List Nat} (la : lows a) (lb : lows b) (h : b.length = a.length) : lows (mixed a (xb a b) a.length) := fun k hk => by
  rw [mixed_length] at hk
  rw [mixed_get hk]
  split
  · exact la k hk
  · exact Nat.xor_lt_two_pow (n := 32) (bitsC_lt (la k hk)) (xb_lt (la k hk) (lb k (by omega)))
def laws_FnChanges_ok (c : Contract) : Prop := AlwaysTrue [bytesK, bytesK] c
theorem laws_FnChanges_law {C : Ctab} {i1 i2 i3 i4 i5 i6 : FuncId} {c1 c2 c3 c4 c5 c6 : Contract} (h1 : Has C i1 c1 laws_r8Long_ok) (h2 : Has C i2 c2 laws_r8At_ok) (h3 : Has C i3 c3 spec_R8Numbers_ok) (h4 : Has C i4 c4 impl_ChangeBytes_ok) (h5 : Has C i5 c5 impl_ApplyChange_ok) (h6 : Has C i6 c6 laws_r8Same_ok) :
    laws_FnChanges_ok (gcC C (laws_FnChanges i1 i2 i3 i4 i5 i6) true) := by
  intro σ avs hh
  match avs, hh with
  | [va, vb], ⟨g0, g1, _⟩ =>
    obtain ⟨code, r1, hb1⟩ := bytes_abs g0
    obtain ⟨more, r2, hb2⟩ := bytes_abs g1
    have k1 := r1.ok
    have k2 := r2.ok
    by_cases hL : code.length ≤ 48 ∧ more.length ≤ 48
    rotate_left
    · refine ret_gc rfl rfl ?_
      repeat' (first | refine ff ?_ | ((first | refine EvR.aSplB ?_ ?_ | refine Ev.aSplB ?_ ?_) <;> (intro hb; (try rw [hb]); (try simp only [Bool.not_eq_true', Bool.not_eq_false', Bool.not_eq_eq_eq_not, Bool.not_true, Bool.not_false, decide_eq_true_eq, decide_eq_false_iff_not, Bool.and_eq_true, Bool.and_eq_false_iff, Bool.or_eq_true, Bool.or_eq_false_iff] at hb); (try (exfalso; first | omega | exact hb trivial)))) | (apply endS trivial; rotate_left; (· exact eva); (· rfl); try refine ⟨?_, rfl⟩) | fail)
      (apply EvR.aCall h1.at_; (· exact eva); (· exact  h1.ok _ va vb code more (r1.ext _) (r2.ext _)); (rintro _ _ ⟨rfl, rfl⟩; refine EvR.nrm ?_))
      rw [show (decide (48 < code.length) || decide (48 < more.length)) = true from by simp; omega]
      repeat' (first | refine ff ?_ | ((first | refine EvR.aSplB ?_ ?_ | refine Ev.aSplB ?_ ?_) <;> (intro hb; (try rw [hb]); (try simp only [Bool.not_eq_true', Bool.not_eq_false', Bool.not_eq_eq_eq_not, Bool.not_true, Bool.not_false, decide_eq_true_eq, decide_eq_false_iff_not, Bool.and_eq_true, Bool.and_eq_false_iff, Bool.or_eq_true, Bool.or_eq_false_iff] at hb); (try (exfalso; first | omega | exact hb trivial)))) | (apply endS trivial; rotate_left; (· exact eva); (· rfl); try refine ⟨?_, rfl⟩) | fail)
      all_goals (try rfl)
    obtain ⟨hL1, hL2⟩ := hL
    refine ret_gc rfl rfl ?_
    repeat' (first | refine ff ?_ | ((first | refine EvR.aSplB ?_ ?_ | refine Ev.aSplB ?_ ?_) <;> (intro hb; (try rw [hb]); (try simp only [Bool.not_eq_true', Bool.not_eq_false', Bool.not_eq_eq_eq_not, Bool.not_true, Bool.not_false, decide_eq_true_eq, decide_eq_false_iff_not, Bool.and_eq_true, Bool.and_eq_false_iff, Bool.or_eq_true, Bool.or_eq_false_iff] at hb); (try (exfalso; first | omega | exact hb trivial)))) | (apply endS trivial; rotate_left; (· exact eva); (· rfl); try refine ⟨?_, rfl⟩) | fail)
    (apply EvR.aCall h1.at_; (· exact eva); (· exact  h1.ok _ va vb code more (r1.ext _) (r2.ext _)); (rintro _ _ ⟨rfl, rfl⟩; refine EvR.nrm ?_))
    rw [show (decide (48 < code.length) || decide (48 < more.length)) = false from by simp; omega]
    repeat' (first | refine ff ?_ | ((first | refine EvR.aSplB ?_ ?_ | refine Ev.aSplB ?_ ?_) <;> (intro hb; (try rw [hb]); (try simp only [Bool.not_eq_true', Bool.not_eq_false', Bool.not_eq_eq_eq_not, Bool.not_true, Bool.not_false, decide_eq_true_eq, decide_eq_false_iff_not, Bool.and_eq_true, Bool.and_eq_false_iff, Bool.or_eq_true, Bool.or_eq_false_iff] at hb); (try (exfalso; first | omega | exact hb trivial)))) | (apply endS trivial; rotate_left; (· exact eva); (· rfl); try refine ⟨?_, rfl⟩) | fail)
    apply EvR.aCall h2.at_; (· exact eva); (· exact h2.ok _ vb more 40 20 (r2.ext _) (by omega) (by omega) (by omega)); rintro _ _ ⟨n, n0, n1, rfl, rfl⟩
    refine EvR.nrm ?_
    obtain ⟨N, rfl⟩ := Int.eq_ofNat_of_zero_le n0
    repeat' (first | refine ff ?_ | ((first | refine EvR.aSplB ?_ ?_ | refine Ev.aSplB ?_ ?_) <;> (intro hb; (try rw [hb]); (try simp only [Bool.not_eq_true', Bool.not_eq_false', Bool.not_eq_eq_eq_not, Bool.not_true, Bool.not_false, decide_eq_true_eq, decide_eq_false_iff_not, Bool.and_eq_true, Bool.and_eq_false_iff, Bool.or_eq_true, Bool.or_eq_false_iff] at hb); (try (exfalso; first | omega | exact hb trivial)))) | (apply endS trivial; rotate_left; (· exact eva); (· rfl); try refine ⟨?_, rfl⟩) | fail)
    apply EvR.aCall h3.at_; (· exact eva); (· exact h3.ok _ va code N (r1.ext _) (by omega) (by omega)); rintro _ _ ⟨as, al, aw, rfl, rfl⟩
    refine EvR.nrm ?_
    repeat' (first | refine ff ?_ | ((first | refine EvR.aSplB ?_ ?_ | refine Ev.aSplB ?_ ?_) <;> (intro hb; (try rw [hb]); (try simp only [Bool.not_eq_true', Bool.not_eq_false', Bool.not_eq_eq_eq_not, Bool.not_true, Bool.not_false, decide_eq_true_eq, decide_eq_false_iff_not, Bool.and_eq_true, Bool.and_eq_false_iff, Bool.or_eq_true, Bool.or_eq_false_iff] at hb); (try (exfalso; first | omega | exact hb trivial)))) | (apply endS trivial; rotate_left; (· exact eva); (· rfl); try refine ⟨?_, rfl⟩) | fail)
    apply EvR.aCall h3.at_; (· exact eva); (· exact h3.ok _ vb more N (r2.ext _) (by omega) (by omega)); rintro _ _ ⟨bs, bl, bw, rfl, rfl⟩
    refine EvR.nrm ?_
    repeat' (first | refine ff ?_ | ((first | refine EvR.aSplB ?_ ?_ | refine Ev.aSplB ?_ ?_) <;> (intro hb; (try rw [hb]); (try simp only [Bool.not_eq_true', Bool.not_eq_false', Bool.not_eq_eq_eq_not, Bool.not_true, Bool.not_false, decide_eq_true_eq, decide_eq_false_iff_not, Bool.and_eq_true, Bool.and_eq_false_iff, Bool.or_eq_true, Bool.or_eq_false_iff] at hb); (try (exfalso; first | omega | exact hb trivial)))) | (apply endS trivial; rotate_left; (· exact eva); (· rfl); try refine ⟨?_, rfl⟩) | fail)
    refine Ev.whlH (S := Nat × List Nat) (fun st => N - st.1) (fun st => [(8, .int .i64 st.1)]) (fun st => σ ++ [rowO as, rowO st.2]) (fun st => st.1 ≤ N ∧ st.2.length = N ∧ lows st.2) (0, bs) (by (simp only [List.cons_append, List.nil_append, ↓fget_cons, push_cast, Nat.reduceEqDiff, reduceIte] <;> rfl)) rfl ⟨Nat.zero_le _, bl, bw⟩ ?_
    rintro ⟨i, cs⟩ F hF ⟨hi, cl, cw⟩
    dsimp only at hi hF cl cw ⊢
    (simp only [List.cons_append, List.nil_append, ↓fget_cons, fkeep_cons, fkeep_nil, Nat.reduceEqDiff, reduceIte] at hF; subst hF)
    by_cases hlt : i < N
    · have ha := lows_in aw i
      repeat' (first | refine ff ?_ | ((first | refine EvR.aSplB ?_ ?_ | refine Ev.aSplB ?_ ?_) <;> (intro hb; (try rw [hb]); (try simp only [Bool.not_eq_true', Bool.not_eq_false', Bool.not_eq_eq_eq_not, Bool.not_true, Bool.not_false, decide_eq_true_eq, decide_eq_false_iff_not, Bool.and_eq_true, Bool.and_eq_false_iff, Bool.or_eq_true, Bool.or_eq_false_iff] at hb); (try (exfalso; first | omega | exact hb trivial)))) | (apply endS trivial; rotate_left; (· exact eva); (· rfl); try refine ⟨?_, rfl⟩) | fail)
      apply EvR.aCall h2.at_; (· exact eva); (· exact h2.ok _ va code i 3 (r1.ext _) (by omega) (by omega) (by omega)); rintro _ _ ⟨q, q0, q1, rfl, rfl⟩
      refine EvR.nrm ?_
      repeat' (first | refine ff ?_ | ((first | refine EvR.aSplB ?_ ?_ | refine Ev.aSplB ?_ ?_) <;> (intro hb; (try rw [hb]); (try simp only [Bool.not_eq_true', Bool.not_eq_false', Bool.not_eq_eq_eq_not, Bool.not_true, Bool.not_false, decide_eq_true_eq, decide_eq_false_iff_not, Bool.and_eq_true, Bool.and_eq_false_iff, Bool.or_eq_true, Bool.or_eq_false_iff] at hb); (try (exfalso; first | omega | exact hb trivial)))) | (apply endS trivial; rotate_left; (· exact eva); (· rfl); try refine ⟨?_, rfl⟩) | fail)
      · exact ⟨(i + 1, cs.set i (as.getD i 0)), by dsimp only; omega, by (simp only [List.cons_append, List.nil_append, ↓fget_cons, push_cast, Nat.reduceEqDiff, reduceIte] <;> rfl), rfl, by dsimp only; omega, by dsimp only; rw [List.length_set]; exact cl, lows_set cw ha⟩
      · exact ⟨(i + 1, cs), by dsimp only; omega, by (simp only [List.cons_append, List.nil_append, ↓fget_cons, push_cast, Nat.reduceEqDiff, reduceIte] <;> rfl), rfl, by dsimp only; omega, cl, cw⟩
    · obtain rfl : i = N := by omega
      obtain ⟨s, hs⟩ : ∃ s, s = chg (xb as cs) as.length (as.length + 1) 0 := ⟨_, rfl⟩
      have hsl : s.length ≤ 1000 := by have := chg_len (xb as cs) as.length (as.length + 1) 0; rw [← hs] at this; omega
      obtain ⟨c, hc⟩ : ∃ c, c = mixed as (xb as cs) as.length := ⟨_, rfl⟩
      have hA : acOk as s = some c := by rw [hs, hc]; exact apply_change aw cw (by omega)
      have hB : acOk as (s ++ [120]) = none := by rw [hs]; exact apply_more 120
      have hcl : c.length = i := by rw [hc, mixed_length]; exact al
      have hcw : lows c := by rw [hc]; exact lows_mixed aw cw (by omega)
      have hcb : ∀ j, j < c.length → bitsC (c.getD j 0) = bitsC (cs.getD j 0) := fun j hj => by rw [hc]; exact mixed_bits (by omega)
      obtain ⟨s2, hs2⟩ : ∃ s, s = chg (xb as as) as.length (as.length + 1) 0 := ⟨_, rfl⟩
      have hl2 : s2.length = if as.length = 0 then 0 else 2 := by rw [hs2]; exact chg_same (by omega)
      have hk1 : chOk as cs = true := by simp [chOk]; omega
      have hk2 : chOk as as = true := by simp [chOk]; omega
      have hsx : (s ++ [120]).length ≤ 1048576 := by rw [List.length_append, List.length_singleton]; omega
      repeat' (first | refine ff ?_ | ((first | refine EvR.aSplB ?_ ?_ | refine Ev.aSplB ?_ ?_) <;> (intro hb; (try rw [hb]); (try simp only [Bool.not_eq_true', Bool.not_eq_false', Bool.not_eq_eq_eq_not, Bool.not_true, Bool.not_false, decide_eq_true_eq, decide_eq_false_iff_not, Bool.and_eq_true, Bool.and_eq_false_iff, Bool.or_eq_true, Bool.or_eq_false_iff] at hb); (try (exfalso; first | omega | exact hb trivial)))) | (apply endS trivial; rotate_left; (· exact eva); (· rfl); try refine ⟨?_, rfl⟩) | fail)
      (apply EvR.aCall h4.at_; (· exact eva); (· exact  h4.ok _ _ _ as cs (Row.ownF rfl al) (Row.ownF rfl cl) aw cw (by omega) (by omega)); (rintro _ _ ⟨rfl, rfl⟩; refine EvR.nrm ?_))
      rw [hk1, ← hs, chRes_t]
      repeat' (first | refine ff ?_ | ((first | refine EvR.aSplB ?_ ?_ | refine Ev.aSplB ?_ ?_) <;> (intro hb; (try rw [hb]); (try simp only [Bool.not_eq_true', Bool.not_eq_false', Bool.not_eq_eq_eq_not, Bool.not_true, Bool.not_false, decide_eq_true_eq, decide_eq_false_iff_not, Bool.and_eq_true, Bool.and_eq_false_iff, Bool.or_eq_true, Bool.or_eq_false_iff] at hb); (try (exfalso; first | omega | exact hb trivial)))) | (apply endS trivial; rotate_left; (· exact eva); (· rfl); try refine ⟨?_, rfl⟩) | fail)
      (apply EvR.aCall h5.at_; (· exact eva); (· exact  h5.ok _ _ as s (Row.ownF rfl al) aw (by omega) (by omega)); (rintro _ _ ⟨rfl, rfl⟩; refine EvR.nrm ?_))
      rw [hA, afRes_s, afRows_s, hcl]
      repeat' (first | refine ff ?_ | ((first | refine EvR.aSplB ?_ ?_ | refine Ev.aSplB ?_ ?_) <;> (intro hb; (try rw [hb]); (try simp only [Bool.not_eq_true', Bool.not_eq_false', Bool.not_eq_eq_eq_not, Bool.not_true, Bool.not_false, decide_eq_true_eq, decide_eq_false_iff_not, Bool.and_eq_true, Bool.and_eq_false_iff, Bool.or_eq_true, Bool.or_eq_false_iff] at hb); (try (exfalso; first | omega | exact hb trivial)))) | (apply endS trivial; rotate_left; (· exact eva); (· rfl); try refine ⟨?_, rfl⟩) | fail)
      (apply EvR.aCall h4.at_; (· exact eva); (· exact  h4.ok _ _ _ as as (Row.ownF rfl al) (Row.ownF rfl al) aw aw (by omega) (by omega)); (rintro _ _ ⟨rfl, rfl⟩; refine EvR.nrm ?_))
      rw [hk2, ← hs2, chRes_t]
      repeat' (first | refine ff ?_ | ((first | refine EvR.aSplB ?_ ?_ | refine Ev.aSplB ?_ ?_) <;> (intro hb; (try rw [hb]); (try simp only [Bool.not_eq_true', Bool.not_eq_false', Bool.not_eq_eq_eq_not, Bool.not_true, Bool.not_false, decide_eq_true_eq, decide_eq_false_iff_not, Bool.and_eq_true, Bool.and_eq_false_iff, Bool.or_eq_true, Bool.or_eq_false_iff] at hb); (try (exfalso; first | omega | exact hb trivial)))) | (apply endS trivial; rotate_left; (· exact eva); (· rfl); try refine ⟨?_, rfl⟩) | fail)
      (apply EvR.aCall h5.at_; (· exact eva); (· exact  h5.ok _ _ as (s ++ [120]) (Row.ownF rfl al) aw (by omega) hsx); (rintro _ _ ⟨rfl, rfl⟩; refine EvR.nrm ?_))
      rw [hB, afRes_n]
      repeat' (first | refine ff ?_ | ((first | refine EvR.aSplB ?_ ?_ | refine Ev.aSplB ?_ ?_) <;> (intro hb; (try rw [hb]); (try simp only [Bool.not_eq_true', Bool.not_eq_false', Bool.not_eq_eq_eq_not, Bool.not_true, Bool.not_false, decide_eq_true_eq, decide_eq_false_iff_not, Bool.and_eq_true, Bool.and_eq_false_iff, Bool.or_eq_true, Bool.or_eq_false_iff] at hb); (try (exfalso; first | omega | exact hb trivial)))) | (apply endS trivial; rotate_left; (· exact eva); (· rfl); try refine ⟨?_, rfl⟩) | fail)
      (apply EvR.aCall h6.at_; (· exact eva); (· exact  h6.ok _ _ _ c cs (Row.ownF rfl hcl) (Row.ownF rfl cl) (by omega) (by omega) hcw cw hcb); (rintro _ _ ⟨rfl, rfl⟩; refine EvR.nrm ?_))
      repeat' (first | refine ff ?_ | ((first | refine EvR.aSplB ?_ ?_ | refine Ev.aSplB ?_ ?_) <;> (intro hb; (try rw [hb]); (try simp only [Bool.not_eq_true', Bool.not_eq_false', Bool.not_eq_eq_eq_not, Bool.not_true, Bool.not_false, decide_eq_true_eq, decide_eq_false_iff_not, Bool.and_eq_true, Bool.and_eq_false_iff, Bool.or_eq_true, Bool.or_eq_false_iff] at hb); (try (exfalso; first | omega | exact hb trivial)))) | (apply endS trivial; rotate_left; (· exact eva); (· rfl); try refine ⟨?_, rfl⟩) | fail)
      · by_cases h0 : i = 0
        · have h3 : s2.length = 0 := by split at hl2 <;> omega
          simp [h0, h3]
        · have h3 : s2.length = 2 := by split at hl2 <;> omega
          simp [h0, h3]
      · exfalso
        split at hl2 <;> omega
end Go.Abs

