/- Laws of functions: the bytes of a change, by the reference; both functions that check their arguments. Conditions: the laws of what they call. -/
import Derived.Test.YtaacdckenhnocaaExactRecoverFilmL37
namespace Go.Abs

set_option linter.unusedSimpArgs false
set_option linter.unusedVariables false
set_option maxHeartbeats 8000000
set_option maxRecDepth 20000
/- loop.example/g01201/spec.l10Change -/
def spec_l10Change_r0 : List SOper := [
 ⟨some 4, none, .mov (.const (.string ⟨#[]⟩)), 0⟩]
def spec_l10Change_r1 : List SOper := [
 ⟨some 5, none, .mov (.const (.string ⟨#[]⟩)), 0⟩]
def spec_l10Change_r2 : List SOper := [
 ⟨some 6, none, .mov (.const (.int .i64 0)), 0⟩]
def spec_l10Change_r3 : List SOper := [
 ⟨some 10, none, .mov (.tmp 6), 0⟩,
 ⟨some 11, none, .mov (.tmp 0), 0⟩,
 ⟨some 12, none, .len false (.tmp 11), 2⟩,
 ⟨some 13, none, .bin .lss .other (.tmp 10) (.tmp 12), 7⟩]
def spec_l10Change_r4 : List SOper := [
 ⟨some 7, none, .mov (.const (.int .i64 0)), 0⟩]
def spec_l10Change_r5 (i_spec_l01Bits : FuncId) : List SOper := [
 ⟨some 14, none, .mov (.tmp 6), 0⟩,
 ⟨some 15, none, .mov (.tmp 0), 0⟩,
 ⟨some 16, none, .len false (.tmp 15), 2⟩,
 ⟨some 17, none, .bin .lss .other (.tmp 14) (.tmp 16), 7⟩,
 ⟨some 18, none, .mov (.tmp 17), 15⟩,
  ⟨(some 19), (some (18, true)), .mov (.tmp 7), 31⟩,
  ⟨(some 20), (some (18, true)), .bin .lss .other (.tmp 19) (.const (.int .i64 255)), 63⟩,
 ⟨some 21, none, .pick (.tmp 18) (.tmp 20) (.const (.bool false)), 127⟩,
 ⟨some 22, none, .mov (.tmp 21), 255⟩,
  ⟨(some 23), (some (22, true)), .mov (.tmp 0), 511⟩,
  ⟨(some 24), (some (22, true)), .mov (.tmp 6), 511⟩,
  ⟨(some 25), (some (22, true)), .indexAddrS 1 (.tmp 23) (.tmp 24), 2047⟩,
  ⟨(some 26), (some (22, true)), .load1 (.tmp 25), 4095⟩,
  ⟨(some 27), (some (22, true)), .call (.func i_spec_l01Bits) [(.tmp 26)], 8191⟩,
  ⟨(some 28), (some (22, true)), .mov (.tmp 1), 511⟩,
  ⟨(some 29), (some (22, true)), .mov (.tmp 6), 511⟩,
  ⟨(some 30), (some (22, true)), .indexAddrS 1 (.tmp 28) (.tmp 29), 49663⟩,
  ⟨(some 31), (some (22, true)), .load1 (.tmp 30), 115199⟩,
  ⟨(some 32), (some (22, true)), .call (.func i_spec_l01Bits) [(.tmp 31)], 262143⟩,
  ⟨(some 33), (some (22, true)), .bin .eql .other (.tmp 27) (.tmp 32), 524287⟩,
 ⟨some 34, none, .pick (.tmp 22) (.tmp 33) (.const (.bool false)), 1048575⟩]
def spec_l10Change_r6 : List SOper := [
 ⟨some 35, none, .mov (.tmp 7), 0⟩,
 ⟨some 36, none, .bin .add .other (.tmp 35) (.const (.int .i64 1)), 1⟩,
 ⟨some 7, none, .mov (.tmp 36), 3⟩]
def spec_l10Change_r7 : List SOper := [
 ⟨some 37, none, .mov (.tmp 6), 0⟩,
 ⟨some 38, none, .bin .add .other (.tmp 37) (.const (.int .i64 1)), 1⟩,
 ⟨some 6, none, .mov (.tmp 38), 3⟩]
def spec_l10Change_l8 (i_spec_l01Bits : FuncId) : SCode := (.kp [0,1,5,6,7] (.seq (.seq (.region (spec_l10Change_r5 i_spec_l01Bits) true) (.kp [0,1,5,6,7,34] (.cond (.tmp 34) .skip (.exit 2)))) (.kp [0,1,5,6,7] (.block 3 (.seq (.region spec_l10Change_r6 false) (.kp [0,1,5,6,7] (.region spec_l10Change_r7 false)))))))
def spec_l10Change_r9 : List SOper := [
 ⟨some 8, none, .mov (.const (.string ⟨#[]⟩)), 0⟩]
def spec_l10Change_r10 : List SOper := [
 ⟨some 9, none, .mov (.const (.int .i64 0)), 0⟩]
def spec_l10Change_r11 (i_spec_l01Bits : FuncId) : List SOper := [
 ⟨some 39, none, .mov (.tmp 6), 0⟩,
 ⟨some 40, none, .mov (.tmp 0), 0⟩,
 ⟨some 41, none, .len false (.tmp 40), 2⟩,
 ⟨some 42, none, .bin .lss .other (.tmp 39) (.tmp 41), 7⟩,
 ⟨some 43, none, .mov (.tmp 42), 15⟩,
  ⟨(some 44), (some (43, true)), .mov (.tmp 9), 31⟩,
  ⟨(some 45), (some (43, true)), .bin .lss .other (.tmp 44) (.const (.int .i64 255)), 63⟩,
 ⟨some 46, none, .pick (.tmp 43) (.tmp 45) (.const (.bool false)), 127⟩,
 ⟨some 47, none, .mov (.tmp 46), 255⟩,
  ⟨(some 48), (some (47, true)), .mov (.tmp 0), 511⟩,
  ⟨(some 49), (some (47, true)), .mov (.tmp 6), 511⟩,
  ⟨(some 50), (some (47, true)), .indexAddrS 1 (.tmp 48) (.tmp 49), 2047⟩,
  ⟨(some 51), (some (47, true)), .load1 (.tmp 50), 4095⟩,
  ⟨(some 52), (some (47, true)), .call (.func i_spec_l01Bits) [(.tmp 51)], 8191⟩,
  ⟨(some 53), (some (47, true)), .mov (.tmp 1), 511⟩,
  ⟨(some 54), (some (47, true)), .mov (.tmp 6), 511⟩,
  ⟨(some 55), (some (47, true)), .indexAddrS 1 (.tmp 53) (.tmp 54), 49663⟩,
  ⟨(some 56), (some (47, true)), .load1 (.tmp 55), 115199⟩,
  ⟨(some 57), (some (47, true)), .call (.func i_spec_l01Bits) [(.tmp 56)], 262143⟩,
  ⟨(some 58), (some (47, true)), .bin .neq .other (.tmp 52) (.tmp 57), 524287⟩,
 ⟨some 59, none, .pick (.tmp 47) (.tmp 58) (.const (.bool false)), 1048575⟩]
def spec_l10Change_r12 (i_spec_l01Bits i_spec_l10Word : FuncId) : List SOper := [
 ⟨some 60, none, .mov (.tmp 8), 0⟩,
 ⟨some 61, none, .mov (.tmp 0), 0⟩,
 ⟨some 62, none, .mov (.tmp 6), 0⟩,
 ⟨some 63, none, .indexAddrS 1 (.tmp 61) (.tmp 62), 6⟩,
 ⟨some 64, none, .load1 (.tmp 63), 14⟩,
 ⟨some 65, none, .call (.func i_spec_l01Bits) [(.tmp 64)], 30⟩,
 ⟨some 66, none, .mov (.tmp 1), 0⟩,
 ⟨some 67, none, .mov (.tmp 6), 0⟩,
 ⟨some 68, none, .indexAddrS 1 (.tmp 66) (.tmp 67), 192⟩,
 ⟨some 69, none, .load1 (.tmp 68), 448⟩,
 ⟨some 70, none, .call (.func i_spec_l01Bits) [(.tmp 69)], 1022⟩,
 ⟨some 71, none, .bin .xor .other (.tmp 65) (.tmp 70), 2046⟩,
 ⟨some 72, none, .call (.func i_spec_l10Word) [(.tmp 71), (.const (.int .i64 4))], 4094⟩,
 ⟨some 73, none, .bin .add .other (.tmp 60) (.tmp 72), 8191⟩,
 ⟨some 8, none, .mov (.tmp 73), 16383⟩]
def spec_l10Change_r13 : List SOper := [
 ⟨some 74, none, .mov (.tmp 9), 0⟩,
 ⟨some 75, none, .bin .add .other (.tmp 74) (.const (.int .i64 1)), 1⟩,
 ⟨some 9, none, .mov (.tmp 75), 3⟩]
def spec_l10Change_r14 : List SOper := [
 ⟨some 76, none, .mov (.tmp 6), 0⟩,
 ⟨some 77, none, .bin .add .other (.tmp 76) (.const (.int .i64 1)), 1⟩,
 ⟨some 6, none, .mov (.tmp 77), 3⟩]
def spec_l10Change_l15 (i_spec_l01Bits i_spec_l10Word : FuncId) : SCode := (.kp [0,1,5,6,7,8,9] (.seq (.seq (.region (spec_l10Change_r11 i_spec_l01Bits) true) (.kp [0,1,5,6,7,8,9,59] (.cond (.tmp 59) .skip (.exit 4)))) (.kp [0,1,5,6,7,8,9] (.block 5 (.seq (.region (spec_l10Change_r12 i_spec_l01Bits i_spec_l10Word) true) (.kp [0,1,5,6,7,8,9] (.seq (.region spec_l10Change_r13 false) (.kp [0,1,5,6,7,8,9] (.region spec_l10Change_r14 false)))))))))
def spec_l10Change_r16 (i_spec_l10Word : FuncId) : List SOper := [
 ⟨some 78, none, .mov (.tmp 5), 0⟩,
 ⟨some 79, none, .mov (.tmp 7), 0⟩,
 ⟨some 80, none, .call (.func i_spec_l10Word) [(.tmp 79), (.const (.int .i64 1))], 2⟩,
 ⟨some 81, none, .mov (.tmp 9), 0⟩,
 ⟨some 82, none, .call (.func i_spec_l10Word) [(.tmp 81), (.const (.int .i64 1))], 14⟩,
 ⟨some 83, none, .bin .add .other (.tmp 80) (.tmp 82), 30⟩,
 ⟨some 84, none, .mov (.tmp 8), 0⟩,
 ⟨some 85, none, .bin .add .other (.tmp 83) (.tmp 84), 126⟩,
 ⟨some 86, none, .bin .add .other (.tmp 78) (.tmp 85), 255⟩,
 ⟨some 5, none, .mov (.tmp 86), 511⟩]
def spec_l10Change_l17 (i_spec_l01Bits i_spec_l10Word : FuncId) : SCode := (.kp [0,1,5,6] (.seq (.seq (.region spec_l10Change_r3 false) (.kp [0,1,5,6,13] (.cond (.tmp 13) .skip (.exit 0)))) (.kp [0,1,5,6] (.block 1 (.seq (.region spec_l10Change_r4 false) (.kp [0,1,5,6,7] (.seq (.block 2 (.loop (spec_l10Change_l8 i_spec_l01Bits))) (.kp [0,1,5,6,7] (.seq (.region spec_l10Change_r9 false) (.kp [0,1,5,6,7,8] (.seq (.region spec_l10Change_r10 false) (.kp [0,1,5,6,7,8,9] (.seq (.block 4 (.loop (spec_l10Change_l15 i_spec_l01Bits i_spec_l10Word))) (.kp [0,1,5,6,7,8,9] (.region (spec_l10Change_r16 i_spec_l10Word) false)))))))))))))))
def spec_l10Change_r18 : List SOper := [
 ⟨some 87, none, .mov (.tmp 5), 0⟩,
 ⟨some 4, none, .mov (.tmp 87), 1⟩]
def spec_l10Change (i_spec_l01Bits i_spec_l10Word : FuncId) : SFunc := ⟨88, [.tmp 4], (.kp [0,1] (.seq (.region spec_l10Change_r0 false) (.kp [0,1] (.seq (.region spec_l10Change_r1 false) (.kp [0,1,5] (.seq (.region spec_l10Change_r2 false) (.kp [0,1,5,6] (.seq (.block 0 (.loop (spec_l10Change_l17 i_spec_l01Bits i_spec_l10Word))) (.kp [5] (.seq (.region spec_l10Change_r18 false) .ret))))))))))⟩
theorem spec_l10Change_r5_dr {i_spec_l01Bits : FuncId} : drawOkW wStat (spec_l10Change_r5 i_spec_l01Bits) = true := by kernel_rfl
attribute [push_cast] spec_l10Change_r5_dr
theorem spec_l10Change_r11_dr {i_spec_l01Bits : FuncId} : drawOkW wStat (spec_l10Change_r11 i_spec_l01Bits) = true := by kernel_rfl
attribute [push_cast] spec_l10Change_r11_dr
theorem spec_l10Change_r12_dr {i_spec_l01Bits i_spec_l10Word : FuncId} : drawOkW wStat (spec_l10Change_r12 i_spec_l01Bits i_spec_l10Word) = true := by kernel_rfl
attribute [push_cast] spec_l10Change_r12_dr
/- loop.example/g01201/impl.isChangeable -/
def impl_isChangeable_r0 : List SOper := [
 ⟨some 2, none, .mov (.const (.bool false)), 0⟩]
def impl_isChangeable_r1 : List SOper := [
 ⟨some 3, none, .mov (.tmp 0), 0⟩,
 ⟨some 4, none, .len false (.tmp 3), 1⟩,
 ⟨some 5, none, .bin .leq .other (.tmp 4) (.const (.int .i64 768)), 3⟩,
 ⟨some 2, none, .mov (.tmp 5), 7⟩]
def impl_isChangeable : SFunc := ⟨6, [.tmp 2], (.kp [0] (.seq (.region impl_isChangeable_r0 false) (.kp [0] (.seq (.region impl_isChangeable_r1 false) .ret))))⟩


theorem xor_zero {x y : Nat} : x ^^^ y = 0 ↔ x = y := by
  constructor
  · intro h
    apply Nat.eq_of_testBit_eq
    intro i
    have h2 : (x ^^^ y).testBit i = false := by rw [h]; simp
    rw [Nat.testBit_xor] at h2
    simpa using h2
  · rintro rfl; simp
theorem spec_l10Change_law {C : Ctab} {i1 i2 : FuncId} {c1 c2 : Contract} (h1 : Has C i1 c1 spec_l01BitsN_ok) (h2 : Has C i2 c2 spec_l10Word_ok) : spec_l10Change_ok (gcC C (spec_l10Change i1 i2) true) := by
  intro σ va vb a b r1 r2 hab hn la lb
  obtain ⟨x, ex⟩ : ∃ x, x = xb a b := ⟨_, rfl⟩
  obtain ⟨n, en⟩ : ∃ n, n = a.length := ⟨_, rfl⟩
  rw [← en, ← ex]
  have hx : ∀ k, k < n → x k < 4294967296 := fun k hk => by rw [ex]; exact xb_lt (la k (by omega)) (lb k (by omega))
  have hz : ∀ k, x k = 0 ↔ bitsC (a.getD k 0) = bitsC (b.getD k 0) := fun k => by rw [ex]; exact xor_zero
  have hxk : ∀ k, x k = bitsC (a.getD k 0) ^^^ bitsC (b.getD k 0) := fun k => by rw [ex]; rfl
  obtain ⟨T, eT⟩ : ∃ T, chg x n (n + 1) 0 = T := ⟨_, rfl⟩
  rw [eT]
  refine ret_gc rfl rfl ?_
  repeat' (first | refine ff ?_ | ((first | refine sR ?_ ?_ | refine sC ?_ ?_) <;> (intro hb; (try rw [hb]); (try simp only [bb] at hb); (try (exfalso; first | omega | exact hb trivial)))) | (apply endS trivial; rotate_left; (· exact eva); (· rfl); try refine ⟨?_, rfl⟩) | fail)
  refine Ev.whlC (S := Nat × Nat × List UInt8) (fun st => n - st.1) (fun st => [(5, .string (str st.2.2)), (6, .int .i64 st.1)]) (fun st => st.1 ≤ n ∧ n < st.1 + st.2.1 ∧ st.2.2 ++ chg x n st.2.1 st.1 = T ∧ st.2.2.length ≤ 6 * st.1) (0, n + 1, []) (by exact tF) ⟨Nat.zero_le _, by dsimp only; omega, eT, Nat.le_refl _⟩ ?_
  rintro ⟨p, f, out⟩ F hF ⟨hp, hf, hT, ho⟩
  dsimp only at hp hF hf hT ho ⊢
  (simp only [List.cons_append, List.nil_append, ↓fget_cons, fkeep_cons, fkeep_nil, Nat.reduceEqDiff, reduceIte] at hF; subst hF)
  by_cases hlt2 : p < n
  · obtain ⟨Z, hZ⟩ : ∃ Z, runZ (isZ x) n 255 p = Z := ⟨_, rfl⟩
    obtain ⟨O, hO⟩ : ∃ O, runZ (notZ x) n 255 (p + Z) = O := ⟨_, rfl⟩
    have hpr := run_progress x hlt2
    have b1 := runZ_le (isZ x) n 255 p
    have b2 := runZ_le (notZ x) n 255 (p + Z)
    rw [hZ, hO] at hpr
    rw [hZ] at b1
    rw [hO] at b2
    repeat' (first | refine ff ?_ | ((first | refine sR ?_ ?_ | refine sC ?_ ?_) <;> (intro hb; (try rw [hb]); (try simp only [bb] at hb); (try (exfalso; first | omega | exact hb trivial)))) | (apply endS trivial; rotate_left; (· exact eva); (· rfl); try refine ⟨?_, rfl⟩) | fail)
    refine Ev.mono (Q := fun o F' σ' => o = .exit 2 ∧ fkeep [0, 1, 5, 6, 7] F' = [(0, va), (1, vb), (5, .string (str out)), (6, .int .i64 ((p + Z : Nat) : Int)), (7, .int .i64 (Z : Nat))] ∧ σ' = σ ++ []) ?_ ?_
    · refine Ev.whlC (S := Nat) (fun z => 256 - z) (fun z => [(6, .int .i64 ((p + z : Nat) : Int)), (7, .int .i64 z)]) (fun z => z ≤ 255 ∧ p + z ≤ n ∧ z + runZ (isZ x) n (255 - z) (p + z) = Z) 0 (by exact tF) ⟨by omega, by omega, by rw [Nat.zero_add]; exact hZ⟩ ?_
      rintro z F hF ⟨z1, z2, z3⟩
      (simp only [List.cons_append, List.nil_append, ↓fget_cons, fkeep_cons, fkeep_nil, Nat.reduceEqDiff, reduceIte] at hF; subst hF)
      by_cases c1 : z < 255
      · by_cases c2 : p + z < n
        · have ha := la (p + z) (by omega)
          have hb := lb (p + z) (by omega)
          by_cases c3 : x (p + z) = 0
          · have hgo := runZ_go (q := isZ x) c1 c2 (by simp [isZ, c3])
            have c4 := (hz (p + z)).1 c3
            generalize hq : p + z = q at *
            repeat' (first | refine ff ?_ | (apply EvR.aCall h1.at_; (· exact eva); (· apply h1.ok <;> exact sid); (rintro _ _ ⟨rfl, rfl⟩; refine EvR.nrm ?_)) | ((first | refine sR ?_ ?_ | refine sC ?_ ?_) <;> (intro hb; (try rw [hb]); (try simp only [bb] at hb); (try (exfalso; first | omega | exact hb trivial)))) | (apply endS trivial; rotate_left; (· exact eva); (· rfl); try refine ⟨?_, rfl⟩) | fail)
            exact ⟨z + 1, by omega, by rw [show ((p + (z + 1) : Nat) : Int) = (q : Int) + 1 from by omega]; exact tF, rfl, by omega, by omega, by omega⟩
          · have hst := runZ_stop (q := isZ x) (n := n) (a := p) (z := z) (by simp [isZ, c3])
            have hzV : z = Z := by omega
            have c4 : ¬ bitsC (a.getD (p + z) 0) = bitsC (b.getD (p + z) 0) := fun h => c3 ((hz (p + z)).2 h)
            generalize hq : p + z = q at *
            repeat' (first | refine ff ?_ | (apply EvR.aCall h1.at_; (· exact eva); (· apply h1.ok <;> exact sid); (rintro _ _ ⟨rfl, rfl⟩; refine EvR.nrm ?_)) | ((first | refine sR ?_ ?_ | refine sC ?_ ?_) <;> (intro hb; (try rw [hb]); (try simp only [bb] at hb); (try (exfalso; first | omega | exact hb trivial)))) | (apply endS trivial; rotate_left; (· exact eva); (· rfl); try refine ⟨?_, rfl⟩) | fail)
            exact ⟨rfl, by rw [← hzV, hq]; rfl, rfl⟩
        · have hst := runZ_stop (q := isZ x) (n := n) (a := p) (z := z) (by omega)
          have hzV : z = Z := by omega
          generalize hq : p + z = q at *
          repeat' (first | refine ff ?_ | ((first | refine sR ?_ ?_ | refine sC ?_ ?_) <;> (intro hb; (try rw [hb]); (try simp only [bb] at hb); (try (exfalso; first | omega | exact hb trivial)))) | (apply endS trivial; rotate_left; (· exact eva); (· rfl); try refine ⟨?_, rfl⟩) | fail)
          exact ⟨rfl, by rw [← hzV, hq]; rfl, rfl⟩
      · have hst := runZ_stop (q := isZ x) (n := n) (a := p) (z := z) (by omega)
        have hzV : z = Z := by omega
        generalize hq : p + z = q at *
        repeat' (first | refine ff ?_ | ((first | refine sR ?_ ?_ | refine sC ?_ ?_) <;> (intro hb; (try rw [hb]); (try simp only [bb] at hb); (try (exfalso; first | omega | exact hb trivial)))) | (apply endS trivial; rotate_left; (· exact eva); (· rfl); try refine ⟨?_, rfl⟩) | fail)
        all_goals exact ⟨rfl, by rw [← hzV, hq]; rfl, rfl⟩
    rintro _ _ _ ⟨rfl, hF2, rfl⟩
    apply blkQ.e
    apply thenQ.n
    refine Ev.kp hF2 ?_
    obtain ⟨P, hP⟩ : ∃ P, P = p + Z := ⟨_, rfl⟩
    rw [← hP] at hO b2 ⊢
    repeat' (first | refine ff ?_ | ((first | refine sR ?_ ?_ | refine sC ?_ ?_) <;> (intro hb; (try rw [hb]); (try simp only [bb] at hb); (try (exfalso; first | omega | exact hb trivial)))) | (apply endS trivial; rotate_left; (· exact eva); (· rfl); try refine ⟨?_, rfl⟩) | fail)
    refine Ev.mono (Q := fun o F' σ' => o = .exit 4 ∧ fkeep [0, 1, 5, 6, 7, 8, 9] F' = [(0, va), (1, vb), (5, .string (str out)), (6, .int .i64 ((P + O : Nat) : Int)), (7, .int .i64 (Z : Nat)), (8, .string (str (words x P O))), (9, .int .i64 (O : Nat))] ∧ σ' = σ ++ []) ?_ ?_
    · refine Ev.whlC (S := Nat) (fun z => 256 - z) (fun z => [(6, .int .i64 ((P + z : Nat) : Int)), (8, .string (str (words x P z))), (9, .int .i64 z)]) (fun z => z ≤ 255 ∧ P + z ≤ n ∧ z + runZ (notZ x) n (255 - z) (P + z) = O) 0 (by exact tF) ⟨by omega, by omega, by rw [Nat.zero_add]; exact hO⟩ ?_
      rintro z F hF ⟨z1, z2, z3⟩
      (simp only [List.cons_append, List.nil_append, ↓fget_cons, fkeep_cons, fkeep_nil, Nat.reduceEqDiff, reduceIte] at hF; subst hF)
      by_cases c1 : z < 255
      · by_cases c2 : P + z < n
        · have ha := la (P + z) (by omega)
          have hb := lb (P + z) (by omega)
          by_cases c3 : x (P + z) = 0
          · have hst := runZ_stop (q := notZ x) (n := n) (a := P) (z := z) (by simp [notZ, c3])
            have hzV : z = O := by omega
            have c4 := (hz (P + z)).1 c3
            generalize hq : P + z = q at *
            repeat' (first | refine ff ?_ | (apply EvR.aCall h1.at_; (· exact eva); (· apply h1.ok <;> exact sid); (rintro _ _ ⟨rfl, rfl⟩; refine EvR.nrm ?_)) | ((first | refine sR ?_ ?_ | refine sC ?_ ?_) <;> (intro hb; (try rw [hb]); (try simp only [bb] at hb); (try (exfalso; first | omega | exact hb trivial)))) | (apply endS trivial; rotate_left; (· exact eva); (· rfl); try refine ⟨?_, rfl⟩) | fail)
            exact ⟨rfl, by rw [← hzV, hq]; rfl, rfl⟩
          · have hgo := runZ_go (q := notZ x) c1 c2 (by simp [notZ, c3])
            have c4 : ¬ bitsC (a.getD (P + z) 0) = bitsC (b.getD (P + z) 0) := fun h => c3 ((hz (P + z)).2 h)
            have hw := words_succ x P z
            have hwl := words_length x P z
            have hyl := hx (P + z) c2
            have hy := hxk (P + z)
            have hv := xor_val (bitsC_lt ha) (bitsC_lt hb)
            rw [← hy] at hv
            generalize x (P + z) = y at hv hyl hw hy c3
            generalize hq : P + z = q at *
            have hl4 := lowB_length y 4
            repeat' (first | refine ff ?_ | (apply EvR.aCall h1.at_; (· exact eva); (· apply h1.ok <;> exact sid); (rintro _ _ ⟨rfl, rfl⟩; refine EvR.nrm ?_)) | ((first | refine sR ?_ ?_ | refine sC ?_ ?_) <;> (intro hb; (try rw [hb]); (try simp only [bb] at hb); (try (exfalso; first | omega | exact hb trivial)))) | (apply endS trivial; rotate_left; (· exact eva); (· rfl); try refine ⟨?_, rfl⟩) | fail)
            rw [hv]
            (apply EvR.aCall h2.at_; (· exact eva); (· exact  h2.ok _ y 4 hyl (by omega)); (rintro _ _ ⟨rfl, rfl⟩; refine EvR.nrm ?_))
            repeat' (first | refine ff ?_ | ((first | refine sR ?_ ?_ | refine sC ?_ ?_) <;> (intro hb; (try rw [hb]); (try simp only [bb] at hb); (try (exfalso; first | omega | exact hb trivial)))) | (apply endS trivial; rotate_left; (· exact eva); (· rfl); try refine ⟨?_, rfl⟩) | fail)
            exact ⟨z + 1, by omega, by rw [show ((P + (z + 1) : Nat) : Int) = (q : Int) + 1 from by omega, hw]; exact tF, rfl, by omega, by omega, by omega⟩
        · have hst := runZ_stop (q := notZ x) (n := n) (a := P) (z := z) (by omega)
          have hzV : z = O := by omega
          generalize hq : P + z = q at *
          repeat' (first | refine ff ?_ | ((first | refine sR ?_ ?_ | refine sC ?_ ?_) <;> (intro hb; (try rw [hb]); (try simp only [bb] at hb); (try (exfalso; first | omega | exact hb trivial)))) | (apply endS trivial; rotate_left; (· exact eva); (· rfl); try refine ⟨?_, rfl⟩) | fail)
          exact ⟨rfl, by rw [← hzV, hq]; rfl, rfl⟩
      · have hst := runZ_stop (q := notZ x) (n := n) (a := P) (z := z) (by omega)
        have hzV : z = O := by omega
        generalize hq : P + z = q at *
        repeat' (first | refine ff ?_ | ((first | refine sR ?_ ?_ | refine sC ?_ ?_) <;> (intro hb; (try rw [hb]); (try simp only [bb] at hb); (try (exfalso; first | omega | exact hb trivial)))) | (apply endS trivial; rotate_left; (· exact eva); (· rfl); try refine ⟨?_, rfl⟩) | fail)
        all_goals exact ⟨rfl, by rw [← hzV, hq]; rfl, rfl⟩
    rintro _ _ _ ⟨rfl, hF3, rfl⟩
    apply blkQ.e
    apply thenQ.n
    refine Ev.kp hF3 ?_
    obtain ⟨f', rfl⟩ : ∃ f', f = f' + 1 := ⟨f - 1, by omega⟩
    rw [chg_step (O := O) hlt2 hZ (by rw [← hP]; exact hO), ← hP] at hT
    have hwl := words_length x P O
    have hl1 := lowB_length Z 1
    have hl2 := lowB_length O 1
    repeat' (first | refine ff ?_ | ((first | refine sR ?_ ?_ | refine sC ?_ ?_) <;> (intro hb; (try rw [hb]); (try simp only [bb] at hb); (try (exfalso; first | omega | exact hb trivial)))) | (apply endS trivial; rotate_left; (· exact eva); (· rfl); try refine ⟨?_, rfl⟩) | fail)
    (apply EvR.aCall h2.at_; (· exact eva); (· exact  h2.ok _ Z 1 (by omega) (by omega)); (rintro _ _ ⟨rfl, rfl⟩; refine EvR.nrm ?_))
    repeat' (first | refine ff ?_ | ((first | refine sR ?_ ?_ | refine sC ?_ ?_) <;> (intro hb; (try rw [hb]); (try simp only [bb] at hb); (try (exfalso; first | omega | exact hb trivial)))) | (apply endS trivial; rotate_left; (· exact eva); (· rfl); try refine ⟨?_, rfl⟩) | fail)
    (apply EvR.aCall h2.at_; (· exact eva); (· exact  h2.ok _ O 1 (by omega) (by omega)); (rintro _ _ ⟨rfl, rfl⟩; refine EvR.nrm ?_))
    repeat' (first | refine ff ?_ | ((first | refine sR ?_ ?_ | refine sC ?_ ?_) <;> (intro hb; (try rw [hb]); (try simp only [bb] at hb); (try (exfalso; first | omega | exact hb trivial)))) | (apply endS trivial; rotate_left; (· exact eva); (· rfl); try refine ⟨?_, rfl⟩) | fail)
    have e1 : lowB Z 1 = [byteOf (Z : Nat)] := by simp [lowB]
    have e2 : lowB O 1 = [byteOf (O : Nat)] := by simp [lowB]
    have hT' : (out ++ (lowB Z 1 ++ lowB O 1 ++ words x P O)) ++ chg x n f' (P + O) = T := by rw [← hT, e1, e2]; simp
    exact ⟨(P + O, f', out ++ (lowB Z 1 ++ lowB O 1 ++ words x P O)), by dsimp only; omega, by exact tF, rfl, by dsimp only; omega, by dsimp only; omega, hT', by dsimp only; simp only [List.length_append, hl1, hl2, hwl]; omega⟩
  · obtain rfl : p = n := by omega
    rw [chg_end (by omega), List.append_nil] at hT
    repeat' (first | refine ff ?_ | ((first | refine sR ?_ ?_ | refine sC ?_ ?_) <;> (intro hb; (try rw [hb]); (try simp only [bb] at hb); (try (exfalso; first | omega | exact hb trivial)))) | (apply endS trivial; rotate_left; (· exact eva); (· rfl); try refine ⟨?_, rfl⟩) | fail)
    rw [hT]

def isChangeable_ok (c : Contract) : Prop := ∀ (σ : Heap) (v : Value) (xs : List Nat), Row σ 1 v xs.length (f32s xs) → Ret c [v] σ fun r σ' => r = .bool (decide ((xs.length : Int) ≤ 768)) ∧ σ' = σ
abbrev impl_isChangeable_ok := isChangeable_ok
theorem impl_isChangeable_law {C : Ctab} : impl_isChangeable_ok (gcC C impl_isChangeable true) := by
  intro σ v xs hr
  refine ret_gc rfl rfl ?_
  repeat' (first | refine ff ?_ | ((first | refine sR ?_ ?_ | refine sC ?_ ?_) <;> (intro hb; (try rw [hb]); (try simp only [bb] at hb); (try (exfalso; first | omega | exact hb trivial)))) | (apply endS trivial; rotate_left; (· exact eva); (· rfl); try refine ⟨?_, rfl⟩) | fail)
  all_goals rfl
end Go.Abs

