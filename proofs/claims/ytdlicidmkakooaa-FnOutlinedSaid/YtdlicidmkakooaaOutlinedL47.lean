/- Laws of single functions: numbers are drawn. Conditions: the laws of what they call. -/
import Derived.Test.YtdlicidmkakooaaOutlinedL46
namespace Go.Abs

set_option linter.unusedSimpArgs false
set_option linter.unusedVariables false
set_option maxHeartbeats 8000000
set_option maxRecDepth 20000
/- loop.example/g01201/spec.l01DrawFloat -/
def spec_l01DrawFloat_r0 : List SOper := [
 ⟨some 2, none, .mov (.const (.float .f32 0)), 0⟩]
def spec_l01DrawFloat_r1 (i_spec_l00Src_one : FuncId) : List SOper := [
 ⟨some 4, none, .mov (.tmp 0), 0⟩,
 ⟨some 5, none, .call (.func i_spec_l00Src_one) [(.tmp 4), (.const (.int .i64 12))], 1⟩,
 ⟨some 6, none, .un .not (.tmp 5), 3⟩]
def spec_l01DrawFloat_r2 (i_spec_l01DrawPlain : FuncId) : List SOper := [
 ⟨some 7, none, .mov (.tmp 0), 0⟩,
 ⟨some 8, none, .call (.func i_spec_l01DrawPlain) [(.tmp 7)], 1⟩,
 ⟨some 2, none, .mov (.tmp 8), 3⟩]
def spec_l01DrawFloat_r3 (i_spec_l00Src_pick : FuncId) : List SOper := [
 ⟨some 9, none, .mov (.tmp 0), 0⟩,
 ⟨some 10, none, .call (.func i_spec_l00Src_pick) [(.tmp 9), (.const (.int .i64 4))], 1⟩]
def spec_l01DrawFloat_r4 : List SOper := [
 ⟨some 12, none, .bin .eql .other (.tmp 10) (.const (.int .i64 0)), 0⟩,
 ⟨some 11, none, .mov (.tmp 12), 1⟩]
def spec_l01DrawFloat_r5 (i_spec_l00Src_among i_spec_l01From : FuncId) : List SOper := [
 ⟨some 13, none, .mov (.tmp 0), 0⟩,
 ⟨some 14, none, .buildSlice 1 10 [(.int .i64 0), (.int .i64 0), (.int .i64 0), (.int .i64 0), (.int .i64 0), (.int .i64 0), (.int .i64 0), (.int .i64 0), (.int .i64 0), (.int .i64 0)] [(0, 1, (.const (.int .i64 0))), (1, 1, (.const (.int .i64 2147483648))), (2, 1, (.const (.int .i64 2139095040))), (3, 1, (.const (.int .i64 4286578688))), (4, 1, (.const (.int .i64 2143289344))), (5, 1, (.const (.int .i64 1))), (6, 1, (.const (.int .i64 2139095039))), (7, 1, (.const (.int .i64 8388608))), (8, 1, (.const (.int .i64 8388607))), (9, 1, (.const (.int .i64 2147483649)))], 0⟩,
 ⟨some 15, none, .call (.func i_spec_l00Src_among) [(.tmp 13), (.tmp 14)], 3⟩,
 ⟨some 16, none, .call (.func i_spec_l01From) [(.tmp 15)], 7⟩,
 ⟨some 2, none, .mov (.tmp 16), 15⟩]
def spec_l01DrawFloat_r6 : List SOper := [
 ⟨some 18, none, .bin .eql .other (.tmp 10) (.const (.int .i64 1)), 0⟩,
 ⟨some 17, none, .mov (.tmp 18), 1⟩]
def spec_l01DrawFloat_r7 (i_spec_l00Src_pick : FuncId) : List SOper := [
 ⟨some 19, none, .mov (.tmp 0), 0⟩,
 ⟨some 20, none, .call (.func i_spec_l00Src_pick) [(.tmp 19), (.const (.int .i64 65536))], 1⟩,
 ⟨some 21, none, .bin .mul .other (.tmp 20) (.const (.int .i64 65536)), 3⟩,
 ⟨some 3, none, .mov (.tmp 21), 7⟩]
def spec_l01DrawFloat_r8 (i_spec_l00Src_pick i_spec_l01From : FuncId) : List SOper := [
 ⟨some 22, none, .mov (.tmp 3), 0⟩,
 ⟨some 23, none, .mov (.tmp 0), 0⟩,
 ⟨some 24, none, .call (.func i_spec_l00Src_pick) [(.tmp 23), (.const (.int .i64 65536))], 2⟩,
 ⟨some 25, none, .bin .add .other (.tmp 22) (.tmp 24), 7⟩,
 ⟨some 26, none, .call (.func i_spec_l01From) [(.tmp 25)], 15⟩,
 ⟨some 2, none, .mov (.tmp 26), 31⟩]
def spec_l01DrawFloat_r9 : List SOper := [
 ⟨some 28, none, .bin .eql .other (.tmp 10) (.const (.int .i64 2)), 0⟩,
 ⟨some 27, none, .mov (.tmp 28), 1⟩]
def spec_l01DrawFloat_r10 (i_spec_l00Src_pick i_spec_l01From : FuncId) : List SOper := [
 ⟨some 29, none, .mov (.tmp 0), 0⟩,
 ⟨some 30, none, .call (.func i_spec_l00Src_pick) [(.tmp 29), (.const (.int .i64 65536))], 1⟩,
 ⟨some 31, none, .bin .mul .other (.tmp 30) (.const (.int .i64 65536)), 3⟩,
 ⟨some 32, none, .call (.func i_spec_l01From) [(.tmp 31)], 7⟩,
 ⟨some 2, none, .mov (.tmp 32), 15⟩]
def spec_l01DrawFloat_r11 (i_spec_l01DrawPlain i_spec_l00Src_among i_spec_l01From : FuncId) : List SOper := [
 ⟨some 33, none, .mov (.tmp 0), 0⟩,
 ⟨some 34, none, .call (.func i_spec_l01DrawPlain) [(.tmp 33)], 1⟩,
 ⟨some 35, none, .mov (.tmp 0), 0⟩,
 ⟨some 36, none, .buildSlice 1 4 [(.int .i64 0), (.int .i64 0), (.int .i64 0), (.int .i64 0)] [(0, 1, (.const (.int .i64 8388608))), (1, 1, (.const (.int .i64 2130706432))), (2, 1, (.const (.int .i64 1610612736))), (3, 1, (.const (.int .i64 536870912)))], 0⟩,
 ⟨some 37, none, .call (.func i_spec_l00Src_among) [(.tmp 35), (.tmp 36)], 15⟩,
 ⟨some 38, none, .call (.func i_spec_l01From) [(.tmp 37)], 31⟩,
 ⟨some 39, none, .bin .mul .other (.tmp 34) (.tmp 38), 63⟩,
 ⟨some 2, none, .mov (.tmp 39), 127⟩]
def spec_l01DrawFloat (i_spec_l00Src_one i_spec_l01DrawPlain i_spec_l00Src_pick i_spec_l00Src_among i_spec_l01From : FuncId) : SFunc := ⟨40, [.tmp 2], (.kp [0] (.seq (.region spec_l01DrawFloat_r0 false) (.kp [0] (.seq (.seq (.region (spec_l01DrawFloat_r1 i_spec_l00Src_one) false) (.kp [0,6] (.cond (.tmp 6) (.seq (.region (spec_l01DrawFloat_r2 i_spec_l01DrawPlain) false) .ret) .skip))) (.kp [0] (.seq (.seq (.region (spec_l01DrawFloat_r3 i_spec_l00Src_pick) false) (.kp [0,10] (.block 0 (.seq (.region spec_l01DrawFloat_r4 false) (.kp [0,10,11] (.cond (.tmp 11) (.seq (.region (spec_l01DrawFloat_r5 i_spec_l00Src_among i_spec_l01From) false) .ret) (.seq (.region spec_l01DrawFloat_r6 false) (.kp [0,10,17] (.cond (.tmp 17) (.seq (.region (spec_l01DrawFloat_r7 i_spec_l00Src_pick) false) (.kp [0,3] (.seq (.region (spec_l01DrawFloat_r8 i_spec_l00Src_pick i_spec_l01From) false) .ret))) (.seq (.region spec_l01DrawFloat_r9 false) (.kp [0,27] (.cond (.tmp 27) (.seq (.region (spec_l01DrawFloat_r10 i_spec_l00Src_pick i_spec_l01From) false) .ret) .skip)))))))))))) (.kp [0] (.seq (.region (spec_l01DrawFloat_r11 i_spec_l01DrawPlain i_spec_l00Src_among i_spec_l01From) false) .ret))))))))⟩


abbrev spec_l01DrawFloat_ok := draw_ok 12 700000
theorem spec_l01DrawFloat_law {C : Ctab} {i1 i2 i3 i4 i5 : FuncId} {c1 c2 c3 c4 c5 : Contract} (h1 : HasW C i1 c1 spec_l00Src_one_ok) (h2 : HasW C i2 c2 spec_l01DrawPlain_ok) (h3 : HasW C i3 c3 spec_l00Src_pick_ok) (h4 : HasW C i4 c4 spec_l00Src_among_ok) (h5 : Has C i5 c5 spec_l01From_ok) :
    spec_l01DrawFloat_ok (bodyC C (spec_l01DrawFloat i1 i2 i3 i4 i5) false) := by
  intro σ b cv code p d hs p0 p1 hc
  refine ret_bw rfl rfl ?_
  repeat' (first | refine ff ?_ | ((first | refine sR ?_ ?_ | refine sC ?_ ?_) <;> (intro hb; (try rw [hb]); (try simp only [bb] at hb); (try (exfalso; first | omega | exact hb trivial)))) | (apply endS trivial; rotate_left; (· exact eva); (· rfl); try refine ⟨?_, rfl⟩) | fail)
  apply EvR.aCall h1.at_; (· exact eva); (· exact h1.ok _ b cv code p d 12 (hs.ext _) p0 (by omega) hc (by omega) (by omega)); rintro _ _ ⟨t, p', d1, q0, q1, rfl, rfl⟩
  rw [List.set_append_left _ _ hs.lt]
  refine EvR.nrm ?_
  have hs1 := hs.step p' d1
  cases t
  · repeat' (first | refine ff ?_ | ((first | refine sR ?_ ?_ | refine sC ?_ ?_) <;> (intro hb; (try rw [hb]); (try simp only [bb] at hb); (try (exfalso; first | omega | exact hb trivial)))) | (apply endS trivial; rotate_left; (· exact eva); (· rfl); try refine ⟨?_, rfl⟩) | fail)
    apply EvR.aCall h2.at_; (· exact eva); (· exact h2.ok _ b cv code p' d1 (hs1.ext _) (by omega) (by omega) hc); rintro _ _ ⟨y, p2, d2, rub, hy, q2, q3, rfl, rfl⟩
    rw [List.set_append_left _ _ hs1.lt, List.set_set]
    refine EvR.nrm ?_
    repeat' (first | refine ff ?_ | ((first | refine sR ?_ ?_ | refine sC ?_ ?_) <;> (intro hb; (try rw [hb]); (try simp only [bb] at hb); (try (exfalso; first | omega | exact hb trivial)))) | (apply endS trivial; rotate_left; (· exact eva); (· rfl); try refine ⟨?_, rfl⟩) | fail)
    apply atEnd_ret
    · exact eva
    · exact ⟨y, p2, d2, _, hy, by omega, by omega, rfl, rfl⟩
  repeat' (first | refine ff ?_ | ((first | refine sR ?_ ?_ | refine sC ?_ ?_) <;> (intro hb; (try rw [hb]); (try simp only [bb] at hb); (try (exfalso; first | omega | exact hb trivial)))) | (apply endS trivial; rotate_left; (· exact eva); (· rfl); try refine ⟨?_, rfl⟩) | fail)
  apply EvR.aCall h3.at_; (· exact eva); (· exact h3.ok _ b cv code p' d1 4 (hs1.ext _) (by omega) (by omega) hc (by omega) (by omega)); rintro _ _ ⟨r, p2, d2, r0, r1, q2, q3, rfl, rfl⟩
  rw [List.set_append_left _ _ hs1.lt, List.set_set]
  refine EvR.nrm ?_
  have hs2 := hs.step p2 d2
  repeat' (first | refine ff ?_ | ((first | refine sR ?_ ?_ | refine sC ?_ ?_) <;> (intro hb; (try rw [hb]); (try simp only [bb] at hb); (try (exfalso; first | omega | exact hb trivial)))) | (apply endS trivial; rotate_left; (· exact eva); (· rfl); try refine ⟨?_, rfl⟩) | fail)
  · refine EvR.opS (v := .slice (some ⟨(σ.set b (srcO cv p2 d2) ++ []).length, 0, none⟩) 10 10) (σ' := (σ.set b (srcO cv p2 d2) ++ []) ++ [⟨i64s [0, 2147483648, 2139095040, 4286578688, 2143289344, 1, 2139095039, 8388608, 8388607, 2147483649], 1, true⟩]) (by kernel_rfl) ?_
    rw [List.append_nil]
    apply EvR.aCall h4.at_; (· exact eva); (· exact h4.ok _ b cv code p2 d2 _ [0, 2147483648, 2139095040, 4286578688, 2143289344, 1, 2139095039, 8388608, 8388607, 2147483649] (hs2.ext _) (by omega) (by omega) hc (by have h := Row.own (σ := σ.set b (srcO cv p2 d2)) (l := [⟨i64s [0, 2147483648, 2139095040, 4286578688, 2143289344, 1, 2139095039, 8388608, 8388607, 2147483649], 1, true⟩]) (i := 0) (e := 1) (n := 10) rfl (by omega) rfl; rw [List.length_set] at h; exact h) (by decide) (by decide)); rintro _ _ ⟨y, p3, d3, hy, q4, q5, rfl, rfl⟩
    rw [List.set_append_left _ _ hs2.lt, List.set_set]
    refine EvR.nrm ?_
    have hall : ∀ y ∈ [(0 : Int), 2147483648, 2139095040, 4286578688, 2143289344, 1, 2139095039, 8388608, 8388607, 2147483649], 0 ≤ y ∧ y < 4294967296 := by decide +kernel
    have hy2 := hall y hy
    clear hy hall
    obtain ⟨Y, rfl⟩ := Int.eq_ofNat_of_zero_le hy2.1
    repeat' (first | refine ff ?_ | ((first | refine sR ?_ ?_ | refine sC ?_ ?_) <;> (intro hb; (try rw [hb]); (try simp only [bb] at hb); (try (exfalso; first | omega | exact hb trivial)))) | (apply endS trivial; rotate_left; (· exact eva); (· rfl); try refine ⟨?_, rfl⟩) | fail)
    (apply EvR.aCall h5.at_; (· exact eva); (· exact  h5.ok _ Y (by omega)); (rintro _ _ ⟨rfl, rfl⟩; refine EvR.nrm ?_))
    repeat' (first | refine ff ?_ | ((first | refine sR ?_ ?_ | refine sC ?_ ?_) <;> (intro hb; (try rw [hb]); (try simp only [bb] at hb); (try (exfalso; first | omega | exact hb trivial)))) | (apply endS trivial; rotate_left; (· exact eva); (· rfl); try refine ⟨?_, rfl⟩) | fail)
    apply atEnd_ret
    · exact eva
    · exact ⟨Y, p3, d3, _, by omega, by omega, by omega, rfl, rfl⟩
  · apply EvR.aCall h3.at_; (· exact eva); (· exact h3.ok _ b cv code p2 d2 65536 (hs2.ext _) (by omega) (by omega) hc (by omega) (by omega)); rintro _ _ ⟨s, p3, d3, s0, s1, u0, u1, rfl, rfl⟩
    rw [List.set_append_left _ _ hs2.lt, List.set_set]
    refine EvR.nrm ?_
    have hs3 := hs.step p3 d3
    obtain ⟨S1, rfl⟩ := Int.eq_ofNat_of_zero_le s0
    obtain ⟨M, hM⟩ : ∃ M : Nat, M = S1 * 65536 := ⟨_, rfl⟩
    repeat' (first | refine ff ?_ | ((first | refine sR ?_ ?_ | refine sC ?_ ?_) <;> (intro hb; (try rw [hb]); (try simp only [bb] at hb); (try (exfalso; first | omega | exact hb trivial)))) | (apply endS trivial; rotate_left; (· exact eva); (· rfl); try refine ⟨?_, rfl⟩) | fail)
    rw [show (S1 : Int) * 65536 = (M : Int) from by omega]
    apply EvR.aCall h3.at_; (· exact eva); (· exact h3.ok _ b cv code p3 d3 65536 (hs3.ext _) (by omega) (by omega) hc (by omega) (by omega)); rintro _ _ ⟨t, p4, d4, t0, t1, w0, w1, rfl, rfl⟩
    rw [List.set_append_left _ _ hs3.lt, List.set_set]
    refine EvR.nrm ?_
    have hs4 := hs.step p4 d4
    obtain ⟨T1, rfl⟩ := Int.eq_ofNat_of_zero_le t0
    obtain ⟨N, hN⟩ : ∃ N : Nat, N = M + T1 := ⟨_, rfl⟩
    repeat' (first | refine ff ?_ | ((first | refine sR ?_ ?_ | refine sC ?_ ?_) <;> (intro hb; (try rw [hb]); (try simp only [bb] at hb); (try (exfalso; first | omega | exact hb trivial)))) | (apply endS trivial; rotate_left; (· exact eva); (· rfl); try refine ⟨?_, rfl⟩) | fail)
    rw [show (M : Int) + (T1 : Int) = (N : Int) from by omega]
    (apply EvR.aCall h5.at_; (· exact eva); (· exact  h5.ok _ N (by omega)); (rintro _ _ ⟨rfl, rfl⟩; refine EvR.nrm ?_))
    repeat' (first | refine ff ?_ | ((first | refine sR ?_ ?_ | refine sC ?_ ?_) <;> (intro hb; (try rw [hb]); (try simp only [bb] at hb); (try (exfalso; first | omega | exact hb trivial)))) | (apply endS trivial; rotate_left; (· exact eva); (· rfl); try refine ⟨?_, rfl⟩) | fail)
    apply atEnd_ret
    · exact eva
    · exact ⟨_, p4, d4, _, by omega, by omega, by omega, rfl, rfl⟩
  · apply EvR.aCall h3.at_; (· exact eva); (· exact h3.ok _ b cv code p2 d2 65536 (hs2.ext _) (by omega) (by omega) hc (by omega) (by omega)); rintro _ _ ⟨s, p3, d3, s0, s1, u0, u1, rfl, rfl⟩
    rw [List.set_append_left _ _ hs2.lt, List.set_set]
    refine EvR.nrm ?_
    have hs3 := hs.step p3 d3
    obtain ⟨S1, rfl⟩ := Int.eq_ofNat_of_zero_le s0
    obtain ⟨M, hM⟩ : ∃ M : Nat, M = S1 * 65536 := ⟨_, rfl⟩
    repeat' (first | refine ff ?_ | ((first | refine sR ?_ ?_ | refine sC ?_ ?_) <;> (intro hb; (try rw [hb]); (try simp only [bb] at hb); (try (exfalso; first | omega | exact hb trivial)))) | (apply endS trivial; rotate_left; (· exact eva); (· rfl); try refine ⟨?_, rfl⟩) | fail)
    rw [show (S1 : Int) * 65536 = (M : Int) from by omega]
    (apply EvR.aCall h5.at_; (· exact eva); (· exact  h5.ok _ M (by omega)); (rintro _ _ ⟨rfl, rfl⟩; refine EvR.nrm ?_))
    repeat' (first | refine ff ?_ | ((first | refine sR ?_ ?_ | refine sC ?_ ?_) <;> (intro hb; (try rw [hb]); (try simp only [bb] at hb); (try (exfalso; first | omega | exact hb trivial)))) | (apply endS trivial; rotate_left; (· exact eva); (· rfl); try refine ⟨?_, rfl⟩) | fail)
    apply atEnd_ret
    · exact eva
    · exact ⟨_, p3, d3, _, by omega, by omega, by omega, rfl, rfl⟩
  · apply EvR.aCall h2.at_; (· exact eva); (· exact h2.ok _ b cv code p2 d2 (hs2.ext _) (by omega) (by omega) hc); rintro _ _ ⟨y, p3, d3, rub, hy, q4, q5, rfl, rfl⟩
    rw [List.set_append_left _ _ hs2.lt, List.set_set]
    refine EvR.nrm ?_
    have hs3 := hs.step p3 d3
    repeat' (first | refine ff ?_ | ((first | refine sR ?_ ?_ | refine sC ?_ ?_) <;> (intro hb; (try rw [hb]); (try simp only [bb] at hb); (try (exfalso; first | omega | exact hb trivial)))) | (apply endS trivial; rotate_left; (· exact eva); (· rfl); try refine ⟨?_, rfl⟩) | fail)
    apply EvR.aCall h4.at_; (· exact eva); (· exact h4.ok _ b cv code p3 d3 _ [8388608, 2130706432, 1610612736, 536870912] (hs3.ext _) (by omega) (by omega) hc (by have h := Row.own (σ := σ.set b (srcO cv p3 d3)) (l := rub ++ [⟨i64s [8388608, 2130706432, 1610612736, 536870912], 1, true⟩]) (i := rub.length) (e := 1) (n := 4) (get_end0 _ _ _) (by omega) rfl; rw [List.length_set] at h; exact h) (by decide) (by decide)); rintro _ _ ⟨z, p4, d4, hz, q6, q7, rfl, rfl⟩
    rw [List.set_append_left _ _ hs3.lt, List.set_set]
    refine EvR.nrm ?_
    have hall : ∀ y ∈ [(8388608 : Int), 2130706432, 1610612736, 536870912], 0 ≤ y ∧ y < 4294967296 := by decide +kernel
    have hz2 := hall z hz
    clear hz hall
    obtain ⟨Y, rfl⟩ := Int.eq_ofNat_of_zero_le hz2.1
    repeat' (first | refine ff ?_ | ((first | refine sR ?_ ?_ | refine sC ?_ ?_) <;> (intro hb; (try rw [hb]); (try simp only [bb] at hb); (try (exfalso; first | omega | exact hb trivial)))) | (apply endS trivial; rotate_left; (· exact eva); (· rfl); try refine ⟨?_, rfl⟩) | fail)
    (apply EvR.aCall h5.at_; (· exact eva); (· exact  h5.ok _ Y (by omega)); (rintro _ _ ⟨rfl, rfl⟩; refine EvR.nrm ?_))
    repeat' (first | refine ff ?_ | ((first | refine sR ?_ ?_ | refine sC ?_ ?_) <;> (intro hb; (try rw [hb]); (try simp only [bb] at hb); (try (exfalso; first | omega | exact hb trivial)))) | (apply endS trivial; rotate_left; (· exact eva); (· rfl); try refine ⟨?_, rfl⟩) | fail)
    apply atEnd_ret
    · exact eva
    · exact ⟨_, p4, d4, _, fbin_lt _ _ _, by omega, by omega, rfl, rfl⟩
end Go.Abs

