/- Laws of functions: numbers to which bytes change others, by the reference. Conditions: the laws of what they call. -/
import Derived.Test.YtaacdckenhnocaaExactRecoverFilmL41
namespace Go.Abs

set_option linter.unusedSimpArgs false
set_option linter.unusedVariables false
set_option maxHeartbeats 8000000
set_option maxRecDepth 20000
/- loop.example/g01201/spec.l10Apply -/
def spec_l10Apply_r0 : List SOper := [
 ⟨some 4, none, .mov (.const (.slice none 0 0)), 0⟩,
 ⟨some 5, none, .mov (.const (.bool false)), 1⟩]
def spec_l10Apply_r1 : List SOper := [
 ⟨some 11, none, .buildSlice 1 0 [] [], 0⟩,
 ⟨some 12, none, .mov (.tmp 0), 0⟩,
 ⟨some 13, none, .append 1 4 (.tmp 11) (.tmp 12), 3⟩,
 ⟨some 6, none, .mov (.tmp 13), 7⟩]
def spec_l10Apply_r2 : List SOper := [
 ⟨some 7, none, .mov (.const (.int .i64 0)), 0⟩]
def spec_l10Apply_r3 : List SOper := [
 ⟨some 8, none, .mov (.const (.int .i64 0)), 0⟩]
def spec_l10Apply_r4 : List SOper := [
 ⟨some 14, none, .mov (.tmp 7), 0⟩,
 ⟨some 15, none, .mov (.tmp 1), 0⟩,
 ⟨some 16, none, .len true (.tmp 15), 2⟩,
 ⟨some 17, none, .bin .lss .other (.tmp 14) (.tmp 16), 7⟩]
def spec_l10Apply_r5 : List SOper := [
 ⟨some 18, none, .mov (.tmp 7), 0⟩,
 ⟨some 19, none, .bin .add .other (.tmp 18) (.const (.int .i64 2)), 1⟩,
 ⟨some 20, none, .mov (.tmp 1), 0⟩,
 ⟨some 21, none, .len true (.tmp 20), 4⟩,
 ⟨some 22, none, .bin .gtr .other (.tmp 19) (.tmp 21), 15⟩]
def spec_l10Apply_r6 : List SOper := [
 ⟨some 23, none, .buildSlice 1 0 [] [], 0⟩,
 ⟨some 4, none, .mov (.tmp 23), 1⟩,
 ⟨some 5, none, .mov (.const (.bool false)), 3⟩]
def spec_l10Apply_r7 : List SOper := [
 ⟨some 24, none, .mov (.tmp 8), 0⟩,
 ⟨some 25, none, .mov (.tmp 1), 0⟩,
 ⟨some 26, none, .mov (.tmp 7), 0⟩,
 ⟨some 27, none, .indexStr (.tmp 25) (.tmp 26), 6⟩,
 ⟨some 28, none, .conv (.toInt .i64) (.tmp 27), 14⟩,
 ⟨some 29, none, .bin .add .other (.tmp 24) (.tmp 28), 31⟩,
 ⟨some 8, none, .mov (.tmp 29), 63⟩]
def spec_l10Apply_r8 : List SOper := [
 ⟨some 30, none, .mov (.tmp 1), 0⟩,
 ⟨some 31, none, .mov (.tmp 7), 0⟩,
 ⟨some 32, none, .bin .add .other (.tmp 31) (.const (.int .i64 1)), 2⟩,
 ⟨some 33, none, .indexStr (.tmp 30) (.tmp 32), 7⟩,
 ⟨some 34, none, .conv (.toInt .i64) (.tmp 33), 15⟩,
 ⟨some 9, none, .mov (.tmp 34), 31⟩]
def spec_l10Apply_r9 : List SOper := [
 ⟨some 35, none, .mov (.tmp 7), 0⟩,
 ⟨some 36, none, .bin .add .other (.tmp 35) (.const (.int .i64 2)), 1⟩,
 ⟨some 7, none, .mov (.tmp 36), 3⟩]
def spec_l10Apply_r10 : List SOper := [
 ⟨some 37, none, .mov (.tmp 7), 0⟩,
 ⟨some 38, none, .mov (.tmp 9), 0⟩,
 ⟨some 39, none, .bin .mul .other (.const (.int .i64 4)) (.tmp 38), 2⟩,
 ⟨some 40, none, .bin .add .other (.tmp 37) (.tmp 39), 7⟩,
 ⟨some 41, none, .mov (.tmp 1), 0⟩,
 ⟨some 42, none, .len true (.tmp 41), 16⟩,
 ⟨some 43, none, .bin .gtr .other (.tmp 40) (.tmp 42), 63⟩,
 ⟨some 44, none, .mov (.tmp 43), 127⟩,
  ⟨(some 45), (some (44, false)), .mov (.tmp 8), 255⟩,
  ⟨(some 46), (some (44, false)), .mov (.tmp 9), 255⟩,
  ⟨(some 47), (some (44, false)), .bin .add .other (.tmp 45) (.tmp 46), 1023⟩,
  ⟨(some 48), (some (44, false)), .mov (.tmp 0), 255⟩,
  ⟨(some 49), (some (44, false)), .len false (.tmp 48), 2303⟩,
  ⟨(some 50), (some (44, false)), .bin .gtr .other (.tmp 47) (.tmp 49), 8191⟩,
 ⟨some 51, none, .pick (.tmp 44) (.const (.bool true)) (.tmp 50), 16383⟩]
def spec_l10Apply_r11 : List SOper := [
 ⟨some 52, none, .buildSlice 1 0 [] [], 0⟩,
 ⟨some 4, none, .mov (.tmp 52), 1⟩,
 ⟨some 5, none, .mov (.const (.bool false)), 3⟩]
def spec_l10Apply_r12 : List SOper := [
 ⟨some 10, none, .mov (.const (.int .i64 0)), 0⟩]
def spec_l10Apply_r13 : List SOper := [
 ⟨some 53, none, .mov (.tmp 10), 0⟩,
 ⟨some 54, none, .mov (.tmp 9), 0⟩,
 ⟨some 55, none, .bin .lss .other (.tmp 53) (.tmp 54), 3⟩]
def spec_l10Apply_r14 (i_spec_l01Bits i_spec_l10Number i_spec_l01From : FuncId) : List SOper := [
 ⟨some 58, none, .mov (.tmp 6), 0⟩,
 ⟨some 59, none, .mov (.tmp 8), 0⟩,
 ⟨some 60, none, .mov (.tmp 0), 0⟩,
 ⟨some 61, none, .mov (.tmp 8), 0⟩,
 ⟨some 62, none, .indexAddrS 1 (.tmp 60) (.tmp 61), 12⟩,
 ⟨some 63, none, .load1 (.tmp 62), 28⟩,
 ⟨some 64, none, .call (.func i_spec_l01Bits) [(.tmp 63)], 60⟩,
 ⟨some 65, none, .mov (.tmp 1), 0⟩,
 ⟨some 66, none, .mov (.tmp 7), 0⟩,
 ⟨some 67, none, .call (.func i_spec_l10Number) [(.tmp 65), (.tmp 66), (.const (.int .i64 4))], 508⟩,
 ⟨some 68, none, .bin .xor .other (.tmp 64) (.tmp 67), 1020⟩,
 ⟨some 69, none, .call (.func i_spec_l01From) [(.tmp 68)], 2044⟩,
 ⟨some 70, none, .indexAddrS 1 (.tmp 58) (.tmp 59), 4095⟩,
 ⟨none, none, .store 1 (.tmp 70) (.tmp 69), 8191⟩]
def spec_l10Apply_r15 : List SOper := [
 ⟨some 71, none, .mov (.tmp 8), 0⟩,
 ⟨some 72, none, .bin .add .other (.tmp 71) (.const (.int .i64 1)), 1⟩,
 ⟨some 8, none, .mov (.tmp 72), 3⟩]
def spec_l10Apply_r16 : List SOper := [
 ⟨some 73, none, .mov (.tmp 7), 0⟩,
 ⟨some 74, none, .bin .add .other (.tmp 73) (.const (.int .i64 4)), 1⟩,
 ⟨some 7, none, .mov (.tmp 74), 3⟩]
def spec_l10Apply_r17 : List SOper := [
 ⟨some 56, none, .mov (.tmp 10), 0⟩,
 ⟨some 57, none, .bin .add .other (.tmp 56) (.const (.int .i64 1)), 1⟩,
 ⟨some 10, none, .mov (.tmp 57), 3⟩]
def spec_l10Apply_l18 (i_spec_l01Bits i_spec_l10Number i_spec_l01From : FuncId) : SCode := (.kp [0,1,6,7,8,9,10] (.seq (.seq (.region spec_l10Apply_r13 false) (.kp [0,1,6,7,8,9,10,55] (.cond (.tmp 55) .skip (.exit 2)))) (.kp [0,1,6,7,8,9,10] (.seq (.block 3 (.seq (.region (spec_l10Apply_r14 i_spec_l01Bits i_spec_l10Number i_spec_l01From) false) (.kp [0,1,6,7,8,9,10] (.seq (.region spec_l10Apply_r15 false) (.kp [0,1,6,7,8,9,10] (.region spec_l10Apply_r16 false)))))) (.kp [0,1,6,7,8,9,10] (.region spec_l10Apply_r17 false))))))
def spec_l10Apply_l19 (i_spec_l01Bits i_spec_l10Number i_spec_l01From : FuncId) : SCode := (.kp [0,1,6,7,8] (.seq (.seq (.region spec_l10Apply_r4 false) (.kp [0,1,6,7,8,17] (.cond (.tmp 17) .skip (.exit 0)))) (.kp [0,1,6,7,8] (.block 1 (.seq (.seq (.region spec_l10Apply_r5 false) (.kp [0,1,6,7,8,22] (.cond (.tmp 22) (.seq (.region spec_l10Apply_r6 false) .ret) .skip))) (.kp [0,1,6,7,8] (.seq (.region spec_l10Apply_r7 false) (.kp [0,1,6,7,8] (.seq (.region spec_l10Apply_r8 false) (.kp [0,1,6,7,8,9] (.seq (.region spec_l10Apply_r9 false) (.kp [0,1,6,7,8,9] (.seq (.seq (.region spec_l10Apply_r10 false) (.kp [0,1,6,7,8,9,51] (.cond (.tmp 51) (.seq (.region spec_l10Apply_r11 false) .ret) .skip))) (.kp [0,1,6,7,8,9] (.seq (.region spec_l10Apply_r12 false) (.kp [0,1,6,7,8,9,10] (.block 2 (.loop (spec_l10Apply_l18 i_spec_l01Bits i_spec_l10Number i_spec_l01From)))))))))))))))))))
def spec_l10Apply_r20 (i_spec_l10Change : FuncId) : List SOper := [
 ⟨some 75, none, .mov (.tmp 6), 0⟩,
 ⟨some 76, none, .mov (.tmp 0), 0⟩,
 ⟨some 77, none, .mov (.tmp 6), 0⟩,
 ⟨some 78, none, .call (.func i_spec_l10Change) [(.tmp 76), (.tmp 77)], 6⟩,
 ⟨some 79, none, .mov (.tmp 1), 0⟩,
 ⟨some 80, none, .bin .eql .other (.tmp 78) (.tmp 79), 30⟩,
 ⟨some 4, none, .mov (.tmp 75), 15⟩,
 ⟨some 5, none, .mov (.tmp 80), 127⟩]
def spec_l10Apply (i_spec_l01Bits i_spec_l10Number i_spec_l01From i_spec_l10Change : FuncId) : SFunc := ⟨81, [.tmp 4, .tmp 5], (.kp [0,1] (.seq (.region spec_l10Apply_r0 false) (.kp [0,1] (.seq (.region spec_l10Apply_r1 false) (.kp [0,1,6] (.seq (.region spec_l10Apply_r2 false) (.kp [0,1,6,7] (.seq (.region spec_l10Apply_r3 false) (.kp [0,1,6,7,8] (.seq (.block 0 (.loop (spec_l10Apply_l19 i_spec_l01Bits i_spec_l10Number i_spec_l01From))) (.kp [0,1,6] (.seq (.region (spec_l10Apply_r20 i_spec_l10Change) false) .ret))))))))))))⟩


theorem set_mid {L a : List Nat} {i y : Nat} (hL : L.length = i) (hi : i < a.length) : (L ++ a.drop i).set i y = (L ++ [y]) ++ a.drop (i + 1) := by
  rw [List.set_append_right _ _ (by omega), hL, Nat.sub_self, List.drop_eq_getElem_cons hi, List.set_cons_zero, List.append_assoc]
  rfl
theorem lows_app {a b : List Nat} (h1 : lows a) (h2 : lows b) : lows (a ++ b) := by
  apply lows_of
  intro x hx
  rcases List.mem_append.1 hx with h | h
  · exact lows_mem h1 x h
  · exact lows_mem h2 x h
theorem lows_drop {a : List Nat} (h : lows a) (i : Nat) : lows (a.drop i) := lows_of fun x hx => lows_mem h x (List.mem_of_mem_drop hx)
/-- Numbers some of which are changed. -/
def full (a u : List Nat) : List Nat := u ++ a.drop u.length
theorem full_length {a u : List Nat} (h : u.length ≤ a.length) : (full a u).length = a.length := by
  unfold full; rw [List.length_append, List.length_drop]; omega

def apRes (a : List Nat) (s : List UInt8) (b : Nat) : Option (List Nat) → Value
  | none => .tuple #[slV b 0, .bool false]
  | some u => .tuple #[slV b a.length, .bool (decide (chg (xb a (full a u)) a.length (a.length + 1) 0 = s))]
def apRows (a : List Nat) : Option (List Nat) → Heap
  | none => [rowO []]
  | some u => [rowO (full a u)]
theorem apRes_n (a : List Nat) (s : List UInt8) (b : Nat) : apRes a s b none = .tuple #[slV b 0, .bool false] := rfl
theorem apRows_n (a : List Nat) : apRows a none = [rowO []] := rfl
theorem apRes_s (a : List Nat) (s : List UInt8) (b : Nat) (u : List Nat) : apRes a s b (some u) = .tuple #[slV b a.length, .bool (decide (chg (xb a (full a u)) a.length (a.length + 1) 0 = s))] := rfl
theorem apRows_s (a u : List Nat) : apRows a (some u) = [rowO (full a u)] := rfl
def spec_l10Apply_ok (c : Contract) : Prop := ∀ (σ : Heap) (va : Value) (a : List Nat) (s : List UInt8), Row σ 1 va a.length (f32s a) → lows a → a.length ≤ 768 → s.length ≤ 1048576 →
    Ret c [va, .string (str s)] σ fun v σ' => v = apRes a s σ.length (appl a s (s.length + 1) 0 []) ∧ σ' = σ ++ apRows a (appl a s (s.length + 1) 0 [])
theorem appl_le {a : List Nat} {s : List UInt8} : ∀ (f p : Nat) (u w : List Nat), u.length ≤ a.length → appl a s f p u = some w → w.length ≤ a.length
  | 0, p, u, w, h, h4 => by rw [appl] at h4; cases h4
  | f + 1, p, u, w, h, h4 => by
    by_cases hp : p < s.length
    · by_cases hn : s.length < p + 2
      · rw [appl_n1 hp hn] at h4; cases h4
      by_cases hn2 : a.length < u.length + zAt s p + zAt s (p + 1) ∨ s.length < p + 2 + 4 * zAt s (p + 1)
      · rw [appl_n2 hp hn hn2] at h4; cases h4
      rw [appl_go hp hn hn2] at h4
      refine appl_le f _ _ w ?_ h4
      simp only [List.length_append, List.length_take, List.length_drop, news_length]; omega
    · rw [appl_end hp] at h4; cases h4; exact h
theorem spec_l10Apply_law {C : Ctab} {i1 i2 i3 i4 : FuncId} {c1 c2 c3 c4 : Contract} (h1 : Has C i1 c1 spec_l01BitsN_ok) (h2 : Has C i2 c2 spec_l10Number_ok) (h3 : Has C i3 c3 spec_l01From_ok) (h4 : Has C i4 c4 spec_l10Change_ok) :
    spec_l10Apply_ok (gcC C (spec_l10Apply i1 i2 i3 i4) true) := by
  intro σ va a s r1 la m1 m2
  obtain ⟨R, eR⟩ : ∃ R, appl a s (s.length + 1) 0 [] = R := ⟨_, rfl⟩
  rw [eR]
  refine ret_gc rfl rfl ?_
  repeat' (first | refine ff ?_ | ((first | refine sR ?_ ?_ | refine sC ?_ ?_) <;> (intro hb; (try rw [hb]); (try simp only [bb] at hb); (try (exfalso; first | omega | exact hb trivial)))) | (apply endS trivial; rotate_left; (· exact eva); (· rfl); try refine ⟨?_, rfl⟩) | fail)
  refine Ev.whlH (S := Nat × Nat × List Nat × Heap) (fun st => s.length - st.2.1) (fun st => [(7, .int .i64 (st.2.1 : Nat)), (8, .int .i64 (st.2.2.1.length : Nat))]) (fun st => σ ++ (rowO (full a st.2.2.1) :: st.2.2.2))
    (fun st => appl a s (st.1 + 1) st.2.1 st.2.2.1 = R ∧ st.2.2.1.length ≤ a.length ∧ st.2.1 ≤ s.length ∧ s.length ≤ st.2.1 + st.1 ∧ lows st.2.2.1) (s.length, 0, [], []) (by exact tF) rfl ⟨eR, Nat.zero_le _, Nat.zero_le _, by dsimp only; omega, fun i hi => by simp at hi⟩ ?_
  rintro ⟨f, p, u, rub⟩ F hF ⟨hR, hu, hp, hf, lu⟩
  dsimp only at hF hR hu hp hf lu ⊢
  (simp only [List.cons_append, List.nil_append, ↓fget_cons, fkeep_cons, fkeep_nil, Nat.reduceEqDiff, reduceIte] at hF; subst hF)
  have hfl := full_length hu
  by_cases hlt : p < s.length
  · by_cases hn : s.length < p + 2
    · rw [appl_n1 hlt hn] at hR
      subst hR
      repeat' (first | refine ff ?_ | ((first | refine sR ?_ ?_ | refine sC ?_ ?_) <;> (intro hb; (try rw [hb]); (try simp only [bb] at hb); (try (exfalso; first | omega | exact hb trivial)))) | (apply endS trivial; rotate_left; (· exact eva); (· rfl); try refine ⟨?_, rfl⟩) | fail)
      all_goals
        rw [apRes_n, apRows_n]
        apply endR [rub.length + 1] trivial ⟨rfl, rfl⟩
        · exact eva
        · simp [gcTop, gcVal, gcLeaf, gcLeaves, gcVals, constOk, gc_lt, gc_lt0]
        · simp [get_end, get_end0, f32s]
        · simp
        · simp [allConst, f32s, constOk]
    have q0 := zAt_lt s p
    have q1 := zAt_lt s (p + 1)
    have e0 : (s.getD p 0).toNat = zAt s p := rfl
    have e1 : (s.getD ((p : Int) + 1).toNat 0).toNat = zAt s (p + 1) := by rw [show ((p : Int) + 1).toNat = p + 1 from by omega]; rfl
    by_cases hn2 : a.length < u.length + zAt s p + zAt s (p + 1) ∨ s.length < p + 2 + 4 * zAt s (p + 1)
    · rw [appl_n2 hlt hn hn2] at hR
      subst hR
      repeat' (first | refine ff ?_ | ((first | refine sR ?_ ?_ | refine sC ?_ ?_) <;> (intro hb; (try rw [hb]); (try simp only [bb] at hb); (try (exfalso; first | omega | exact hb trivial)))) | (apply endS trivial; rotate_left; (· exact eva); (· rfl); try refine ⟨?_, rfl⟩) | fail)
      all_goals
        rw [apRes_n, apRows_n]
        apply endR [rub.length + 1] trivial ⟨rfl, rfl⟩
        · exact eva
        · simp [gcTop, gcVal, gcLeaf, gcLeaves, gcVals, constOk, gc_lt, gc_lt0]
        · simp [get_end, get_end0, f32s]
        · simp
        · simp [allConst, f32s, constOk]
    rw [appl_go hlt hn hn2] at hR
    have lw := lows_step (s := s) la lu (zAt s p) (u.length + zAt s p) (p + 2) (zAt s (p + 1))
    generalize zAt s p = z at *
    generalize zAt s (p + 1) = o at *
    obtain ⟨u1, hu1⟩ : ∃ u1, u1 = u ++ (a.drop u.length).take z := ⟨_, rfl⟩
    have hl1 : u1.length = u.length + z := by rw [hu1, List.length_append, List.length_take, List.length_drop]; omega
    have hf1 : full a u = u1 ++ a.drop (u.length + z) := by
      rw [full, hu1, List.append_assoc, ← List.drop_drop, List.take_append_drop]
    rw [← hu1] at hR lw
    rw [hf1] at hfl ⊢
    repeat' (first | refine ff ?_ | ((first | refine sR ?_ ?_ | refine sC ?_ ?_) <;> (intro hb; (try rw [hb]); (try simp only [bb] at hb); (try (exfalso; first | omega | exact hb trivial)))) | (apply endS trivial; rotate_left; (· exact eva); (· rfl); try refine ⟨?_, rfl⟩) | fail)
    rw [e1, e0]
    refine Ev.whlH (S := Nat × Heap) (fun st => o - st.1) (fun st => [(7, .int .i64 ((p + 2 + 4 * st.1 : Nat) : Int)), (8, .int .i64 ((u.length + z + st.1 : Nat) : Int)), (10, .int .i64 st.1)])
      (fun st => σ ++ (rowO (u1 ++ news a s (u.length + z) (p + 2) st.1 ++ a.drop (u.length + z + st.1)) :: st.2)) (fun st => st.1 ≤ o) (0, rub) (by exact tF) (by dsimp only; rw [show news a s (u.length + z) (p + 2) 0 = [] from rfl, List.append_nil, Nat.add_zero]) (Nat.zero_le _) ?_
    rintro ⟨k, rub2⟩ F hF hk
    dsimp only at hk hF ⊢
    (simp only [List.cons_append, List.nil_append, ↓fget_cons, fkeep_cons, fkeep_nil, Nat.reduceEqDiff, reduceIte] at hF; subst hF)
    have hlk : (u1 ++ news a s (u.length + z) (p + 2) k).length = u.length + z + k := by rw [List.length_append, news_length, hl1]
    by_cases hlt3 : k < o
    · have hst : u1 ++ news a s (u.length + z) (p + 2) (k + 1) = (u1 ++ news a s (u.length + z) (p + 2) k) ++ [bitsC (a.getD (u.length + z + k) 0) ^^^ numB ((s.drop (p + 2 + 4 * k)).take 4)] := by rw [news_succ, List.append_assoc]
      have hP1 : p + 2 + 4 * k + 4 ≤ s.length := by omega
      have hP2 : p + 2 + 4 * (k + 1) = p + 2 + 4 * k + 4 := by omega
      have hi1 : u.length + z + k < a.length := by omega
      have hi2 : u.length + z + (k + 1) = u.length + z + k + 1 := by omega
      generalize p + 2 + 4 * k = P at *
      generalize hq : u.length + z + k = i at *
      have hl4b := numB4 s P
      have ha := lows_all la i
      have ha2 := bitsC_lt ha
      have hv := xor_val ha2 hl4b
      have hy : bitsC (a.getD i 0) ^^^ numB ((s.drop P).take 4) < 4294967296 := Nat.xor_lt_two_pow (n := 32) ha2 hl4b
      generalize bitsC (a.getD i 0) ^^^ numB ((s.drop P).take 4) = y at hv hy hst
      generalize u1 ++ news a s (u.length + z) (p + 2) k = outk at *
      have hset := set_mid (a := a) (y := y) hlk hi1
      have hlen : (outk ++ a.drop i).length = a.length := by rw [List.length_append, List.length_drop, hlk]; omega
      generalize outk ++ a.drop i = row at *
      repeat' (first | refine ff ?_ | (apply EvR.aCall h1.at_; (· exact eva); (· apply h1.ok <;> exact sid); (rintro _ _ ⟨rfl, rfl⟩; refine EvR.nrm ?_)) | (apply EvR.aCall h2.at_; (· exact eva); (· apply h2.ok <;> exact sid); (rintro _ _ ⟨rfl, rfl⟩; refine EvR.nrm ?_)) | ((first | refine sR ?_ ?_ | refine sC ?_ ?_) <;> (intro hb; (try rw [hb]); (try simp only [bb] at hb); (try (exfalso; first | omega | exact hb trivial)))) | (apply endS trivial; rotate_left; (· exact eva); (· rfl); try refine ⟨?_, rfl⟩) | fail)
      rw [hv]
      (apply EvR.aCall h3.at_; (· exact eva); (· exact  h3.ok _ y hy); (rintro _ _ ⟨rfl, rfl⟩; refine EvR.nrm ?_))
      repeat' (first | refine ff ?_ | ((first | refine sR ?_ ?_ | refine sC ?_ ?_) <;> (intro hb; (try rw [hb]); (try simp only [bb] at hb); (try (exfalso; first | omega | exact hb trivial)))) | (apply endS trivial; rotate_left; (· exact eva); (· rfl); try refine ⟨?_, rfl⟩) | fail)
      exact ⟨(k + 1, rub2), by dsimp only; omega, by dsimp only; rw [hP2, hi2]; exact tF, by dsimp only; rw [hst, hi2, ← hset], by dsimp only; omega⟩
    · obtain rfl : k = o := by omega
      obtain ⟨f', rfl⟩ : ∃ f', f = f' + 1 := ⟨f - 1, by omega⟩
      have hff : full a (u1 ++ news a s (u.length + z) (p + 2) k) = u1 ++ news a s (u.length + z) (p + 2) k ++ a.drop (u.length + z + k) := by rw [full, hlk]
      repeat' (first | refine ff ?_ | ((first | refine sR ?_ ?_ | refine sC ?_ ?_) <;> (intro hb; (try rw [hb]); (try simp only [bb] at hb); (try (exfalso; first | omega | exact hb trivial)))) | (apply endS trivial; rotate_left; (· exact eva); (· rfl); try refine ⟨?_, rfl⟩) | fail)
      exact ⟨(f', p + 2 + 4 * k, u1 ++ news a s (u.length + z) (p + 2) k, rub2), by dsimp only; omega, by dsimp only; rw [hlk]; exact tF, by dsimp only; rw [hff], hR, by dsimp only; omega, by dsimp only; omega, by dsimp only; omega, lw⟩
  · rw [appl_end hlt] at hR
    subst hR
    have eT : decide (chg (xb a (full a u)) a.length (a.length + 1) 0 = s) = ((str (chg (xb a (full a u)) a.length (a.length + 1) 0)).toList == (str s).toList) := by rw [str_toList, str_toList, beq_lst]
    rw [apRes_s, apRows_s, eT]
    repeat' (first | refine ff ?_ | ((first | refine sR ?_ ?_ | refine sC ?_ ?_) <;> (intro hb; (try rw [hb]); (try simp only [bb] at hb); (try (exfalso; first | omega | exact hb trivial)))) | (apply endS trivial; rotate_left; (· exact eva); (· rfl); try refine ⟨?_, rfl⟩) | fail)
    (apply EvR.aCall h4.at_; (· exact eva); (· exact  h4.ok _ va _ a (full a u) (r1.ext _) (Row.ownF rfl hfl) hfl m1 la (lows_app lu (lows_drop la _))); (rintro _ _ ⟨rfl, rfl⟩; refine EvR.nrm ?_))
    repeat' (first | refine ff ?_ | ((first | refine sR ?_ ?_ | refine sC ?_ ?_) <;> (intro hb; (try rw [hb]); (try simp only [bb] at hb); (try (exfalso; first | omega | exact hb trivial)))) | (apply endS trivial; rotate_left; (· exact eva); (· rfl); try refine ⟨?_, rfl⟩) | fail)
    (apply endR [0] trivial ⟨rfl, rfl⟩; (· exact eva); (· simp [gcTop, gcVal, gcLeaf, gcLeaves, gcVals, constOk, gc_lt, gc_lt0]); (· rfl); (· decide); (· simp [allConst, f32s, i64s, b8s, bools, constOk]))

theorem acOk_full {a u : List Nat} {s : List UInt8} (hR : appl a s (s.length + 1) 0 [] = some u) (hT : chg (xb a (full a u)) a.length (a.length + 1) 0 = s) : u.length = a.length := by
  refine appl_len (x := xb a (full a u)) (s.length + 1) 0 [] (a.length + 1) u ?_ (Nat.zero_le _) (by simp) hR
  rw [List.drop_zero, List.length_nil]
  exact hT.symm
theorem full_eq {a u : List Nat} (h : u.length = a.length) : full a u = u := by
  unfold full; rw [h, List.drop_length, List.append_nil]
end Go.Abs

