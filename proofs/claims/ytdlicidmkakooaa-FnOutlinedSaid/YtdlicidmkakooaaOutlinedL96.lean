/- Laws of functions: sheets are drawn. Conditions: the laws of what they call. -/
import Derived.Test.YtdlicidmkakooaaOutlinedL47
import Derived.Test.YtdlicidmkakooaaOutlinedL78
import Derived.Test.YtdlicidmkakooaaOutlinedL02
namespace Go.Abs

set_option linter.unusedSimpArgs false
set_option linter.unusedVariables false
set_option maxHeartbeats 8000000
set_option maxRecDepth 20000
/- loop.example/g01201/spec.l02DrawOk -/
def spec_l02DrawOk_r0 : List SOper := [
 ⟨some 2, none, .alloc [(.int .i64 0), (.int .i64 0), (.bool false), (.slice none 0 0), (.slice none 0 0)], 0⟩]
def spec_l02DrawOk_r1 (i_spec_l00Src_pick i_spec_l00Src_one : FuncId) : List SOper := [
 ⟨some 8, none, .mov (.tmp 0), 0⟩,
 ⟨some 9, none, .call (.func i_spec_l00Src_pick) [(.tmp 8), (.const (.int .i64 4))], 1⟩,
 ⟨some 10, none, .bin .add .other (.const (.int .i64 3)) (.tmp 9), 3⟩,
 ⟨some 11, none, .mov (.tmp 0), 0⟩,
 ⟨some 12, none, .call (.func i_spec_l00Src_one) [(.tmp 11), (.const (.int .i64 2))], 11⟩,
 ⟨some 13, none, .build [(.int .i64 0), (.int .i64 0), (.bool false), (.slice none 0 0), (.slice none 0 0)] [(0, 1, (.tmp 10)), (2, 1, (.tmp 12))], 31⟩,
 ⟨some 3, none, .alloc [(.int .i64 0), (.int .i64 0), (.bool false), (.slice none 0 0), (.slice none 0 0)], 0⟩,
 ⟨none, none, .store 5 (.tmp 3) (.tmp 13), 127⟩]
def spec_l02DrawOk_r2 (i_spec_l00Src_pick : FuncId) : List SOper := [
 ⟨some 14, none, .mov (.tmp 0), 0⟩,
 ⟨some 15, none, .call (.func i_spec_l00Src_pick) [(.tmp 14), (.const (.int .i64 4))], 1⟩,
 ⟨some 16, none, .bin .add .other (.const (.int .i64 3)) (.tmp 15), 3⟩,
 ⟨some 17, none, .fieldAddr 1 (.tmp 3), 7⟩,
 ⟨none, none, .store 1 (.tmp 17) (.tmp 16), 15⟩]
def spec_l02DrawOk_r3 (i_spec_l00Src_one : FuncId) : List SOper := [
 ⟨some 18, none, .mov (.tmp 0), 0⟩,
 ⟨some 19, none, .call (.func i_spec_l00Src_one) [(.tmp 18), (.const (.int .i64 2))], 1⟩,
 ⟨some 4, none, .mov (.tmp 19), 3⟩]
def spec_l02DrawOk_r4 : List SOper := [
 ⟨some 5, none, .mov (.const (.int .i64 0)), 0⟩]
def spec_l02DrawOk_r5 : List SOper := [
 ⟨some 20, none, .mov (.tmp 5), 0⟩,
 ⟨some 21, none, .fieldAddr 0 (.tmp 3), 0⟩,
 ⟨some 22, none, .load1 (.tmp 21), 2⟩,
 ⟨some 23, none, .fieldAddr 1 (.tmp 3), 0⟩,
 ⟨some 24, none, .load1 (.tmp 23), 8⟩,
 ⟨some 25, none, .bin .mul .other (.tmp 22) (.tmp 24), 30⟩,
 ⟨some 26, none, .bin .lss .other (.tmp 20) (.tmp 25), 63⟩]
def spec_l02DrawOk_r6 : List SOper := [
 ⟨some 6, none, .mov (.const (.float .f32 1056964608)), 0⟩]
def spec_l02DrawOk_r7 : List SOper := [
 ⟨some 7, none, .mov (.const (.float .f32 0)), 0⟩]
def spec_l02DrawOk_r8 : List SOper := [
 ⟨some 29, none, .mov (.tmp 4), 0⟩,
 ⟨some 30, none, .un .not (.tmp 29), 1⟩]
def spec_l02DrawOk_r9 (i_spec_l00Src_pick : FuncId) : List SOper := [
 ⟨some 31, none, .mov (.tmp 0), 0⟩,
 ⟨some 32, none, .call (.func i_spec_l00Src_pick) [(.tmp 31), (.const (.int .i64 9))], 1⟩,
 ⟨some 33, none, .conv (.toFloat .f32) (.tmp 32), 3⟩,
 ⟨some 34, none, .bin .quo .other (.tmp 33) (.const (.float .f32 1098907648)), 7⟩,
 ⟨some 6, none, .mov (.tmp 34), 15⟩]
def spec_l02DrawOk_r10 (i_spec_l00Src_one : FuncId) : List SOper := [
 ⟨some 35, none, .mov (.tmp 0), 0⟩,
 ⟨some 36, none, .call (.func i_spec_l00Src_one) [(.tmp 35), (.const (.int .i64 3))], 1⟩]
def spec_l02DrawOk_r11 (i_spec_l00Src_pick : FuncId) : List SOper := [
 ⟨some 37, none, .mov (.tmp 0), 0⟩,
 ⟨some 38, none, .call (.func i_spec_l00Src_pick) [(.tmp 37), (.const (.int .i64 9))], 1⟩,
 ⟨some 39, none, .conv (.toFloat .f32) (.tmp 38), 3⟩,
 ⟨some 40, none, .bin .quo .other (.tmp 39) (.const (.float .f32 1090519040)), 7⟩,
 ⟨some 7, none, .mov (.tmp 40), 15⟩]
def spec_l02DrawOk_r12 : List SOper := [
 ⟨some 41, none, .fieldAddr 3 (.tmp 3), 0⟩,
 ⟨some 42, none, .load1 (.tmp 41), 1⟩,
 ⟨some 43, none, .mov (.tmp 6), 0⟩,
 ⟨some 44, none, .buildSlice 1 1 [(.float .f32 0)] [(0, 1, (.tmp 43))], 4⟩,
 ⟨some 45, none, .append 1 4 (.tmp 42) (.tmp 44), 15⟩,
 ⟨some 46, none, .fieldAddr 3 (.tmp 3), 31⟩,
 ⟨none, none, .store 1 (.tmp 46) (.tmp 45), 63⟩]
def spec_l02DrawOk_r13 : List SOper := [
 ⟨some 47, none, .fieldAddr 4 (.tmp 3), 0⟩,
 ⟨some 48, none, .load1 (.tmp 47), 1⟩,
 ⟨some 49, none, .mov (.tmp 7), 0⟩,
 ⟨some 50, none, .buildSlice 1 1 [(.float .f32 0)] [(0, 1, (.tmp 49))], 4⟩,
 ⟨some 51, none, .append 1 4 (.tmp 48) (.tmp 50), 15⟩,
 ⟨some 52, none, .fieldAddr 4 (.tmp 3), 31⟩,
 ⟨none, none, .store 1 (.tmp 52) (.tmp 51), 63⟩]
def spec_l02DrawOk_r14 : List SOper := [
 ⟨some 27, none, .mov (.tmp 5), 0⟩,
 ⟨some 28, none, .bin .add .other (.tmp 27) (.const (.int .i64 1)), 1⟩,
 ⟨some 5, none, .mov (.tmp 28), 3⟩]
def spec_l02DrawOk_l15 (i_spec_l00Src_pick i_spec_l00Src_one : FuncId) : SCode := (.kp [0,2,3,4,5] (.seq (.seq (.region spec_l02DrawOk_r5 false) (.kp [0,2,3,4,5,26] (.cond (.tmp 26) .skip (.exit 0)))) (.kp [0,2,3,4,5] (.seq (.block 1 (.seq (.region spec_l02DrawOk_r6 false) (.kp [0,2,3,4,5,6] (.seq (.region spec_l02DrawOk_r7 false) (.kp [0,2,3,4,5,6,7] (.seq (.seq (.region spec_l02DrawOk_r8 false) (.kp [0,2,3,4,5,6,7,30] (.cond (.tmp 30) (.seq (.region (spec_l02DrawOk_r9 i_spec_l00Src_pick) false) (.kp [0,2,3,4,5,6,7] (.seq (.region (spec_l02DrawOk_r10 i_spec_l00Src_one) false) (.kp [0,2,3,4,5,6,7,36] (.cond (.tmp 36) (.region (spec_l02DrawOk_r11 i_spec_l00Src_pick) false) .skip))))) .skip))) (.kp [0,2,3,4,5,6,7] (.seq (.region spec_l02DrawOk_r12 false) (.kp [0,2,3,4,5,7] (.region spec_l02DrawOk_r13 false)))))))))) (.kp [0,2,3,4,5] (.region spec_l02DrawOk_r14 false))))))
def spec_l02DrawOk_r16 : List SOper := [
 ⟨some 53, none, .loadN 5 (.tmp 3), 0⟩,
 ⟨none, none, .store 5 (.tmp 2) (.tmp 53), 1⟩]
def spec_l02DrawOk (i_spec_l00Src_pick i_spec_l00Src_one : FuncId) : SFunc := ⟨54, [.cellN 2 5], (.kp [0] (.seq (.region spec_l02DrawOk_r0 false) (.kp [0,2] (.seq (.region (spec_l02DrawOk_r1 i_spec_l00Src_pick i_spec_l00Src_one) false) (.kp [0,2,3] (.seq (.region (spec_l02DrawOk_r2 i_spec_l00Src_pick) false) (.kp [0,2,3] (.seq (.region (spec_l02DrawOk_r3 i_spec_l00Src_one) false) (.kp [0,2,3,4] (.seq (.seq (.region spec_l02DrawOk_r4 false) (.kp [0,2,3,4,5] (.block 0 (.loop (spec_l02DrawOk_l15 i_spec_l00Src_pick i_spec_l00Src_one))))) (.kp [2,3] (.seq (.region spec_l02DrawOk_r16 false) .ret))))))))))))⟩

/- loop.example/g01201/spec.l02Zero -/
def spec_l02Zero_r0 : List SOper := [
 ⟨some 2, none, .alloc [(.slice none 0 0), (.slice none 0 0), (.slice none 0 0)], 0⟩]
def spec_l02Zero_r1 : List SOper := [
 ⟨some 3, none, .mov (.tmp 0), 0⟩,
 ⟨some 4, none, .makeSlice 1 4 [(.float .f32 0)] (.tmp 3) (.tmp 3), 1⟩,
 ⟨some 5, none, .mov (.tmp 0), 0⟩,
 ⟨some 6, none, .makeSlice 1 4 [(.float .f32 0)] (.tmp 5) (.tmp 5), 4⟩,
 ⟨some 7, none, .mov (.tmp 0), 0⟩,
 ⟨some 8, none, .makeSlice 1 4 [(.float .f32 0)] (.tmp 7) (.tmp 7), 16⟩,
 ⟨some 9, none, .build [(.slice none 0 0), (.slice none 0 0), (.slice none 0 0)] [(0, 1, (.tmp 4)), (1, 1, (.tmp 6)), (2, 1, (.tmp 8))], 63⟩,
 ⟨none, none, .store 3 (.tmp 2) (.tmp 9), 127⟩]
def spec_l02Zero : SFunc := ⟨10, [.cellN 2 3], (.kp [0] (.seq (.region spec_l02Zero_r0 false) (.kp [0,2] (.seq (.region spec_l02Zero_r1 true) .ret))))⟩
theorem spec_l02Zero_r1_dr : (drawOkS spec_l02Zero_r1 && storesOnly spec_l02Zero_r1) = true := by kernel_rfl
attribute [push_cast] spec_l02Zero_r1_dr
/-- A speed, a loss that is drawn. -/
def spC (r : Int) : Nat := fbin .quo .f32 (FloatKind.f32.nearest r) 1098907648
def loC (r : Int) : Nat := fbin .quo .f32 (FloatKind.f32.nearest r) 1090519040
theorem spC_n : ∀ r : Nat, r < 9 → share (spC (r : Int)) 0x3f000000 = true ∧ spC (r : Int) < 4294967296 := by decide +kernel
theorem loC_n : ∀ r : Nat, r < 9 → share (loC (r : Int)) 0x3f800000 = true ∧ loC (r : Int) < 4294967296 := by decide +kernel
theorem spC_ok {r : Int} (h0 : 0 ≤ r) (h1 : r < 9) : share (spC r) 0x3f000000 = true ∧ spC r < 4294967296 := by
  obtain ⟨n, rfl⟩ := Int.eq_ofNat_of_zero_le h0
  exact spC_n n (by omega)
theorem loC_ok {r : Int} (h0 : 0 ≤ r) (h1 : r < 9) : share (loC r) 0x3f800000 = true ∧ loC r < 4294967296 := by
  obtain ⟨n, rfl⟩ := Int.eq_ofNat_of_zero_le h0
  exact loC_n n (by omega)
theorem half_ok : share 1056964608 0x3f000000 = true := by decide +kernel
theorem zero_ok : share 0 0x3f800000 = true := by decide +kernel
def okSp (xs : List Nat) : Prop := ∀ x ∈ xs, share x 0x3f000000 = true ∧ x < 4294967296
def okLo (xs : List Nat) : Prop := ∀ x ∈ xs, share x 0x3f800000 = true ∧ x < 4294967296
theorem okSp.snoc {xs : List Nat} {x : Nat} (h : okSp xs) (h1 : share x 0x3f000000 = true) (h2 : x < 4294967296) : okSp (xs ++ [x]) := fun y hy => by
  rcases List.mem_append.1 hy with hy | hy
  · exact h y hy
  · rw [List.mem_singleton] at hy; subst hy; exact ⟨h1, h2⟩
theorem okLo.snoc {xs : List Nat} {x : Nat} (h : okLo xs) (h1 : share x 0x3f800000 = true) (h2 : x < 4294967296) : okLo (xs ++ [x]) := fun y hy => by
  rcases List.mem_append.1 hy with hy | hy
  · exact h y hy
  · rw [List.mem_singleton] at hy; subst hy; exact ⟨h1, h2⟩
/-- The value of a row that grows out of nothing. -/
def fvN (b : Nat) : Nat → Value
  | 0 => .slice none 0 0
  | i + 1 => slV b (i + 1)
/-- A row of one's own gets one number. -/
theorem EvR.ap1 {C : Ctab} {F : Frame} {τ l : Heap} {Q} {d n i j m : Nat} {rest : List SOper} {x y : Operand} {a : Nat} {xs : List Nat} {r : Bool} (h1 : eval F x = .slice (some ⟨τ.length + i, 0, none⟩) m m) (h2 : l[i]? = some (rowO xs)) (h3 : xs.length = m) (h4 : eval F y = .slice (some ⟨τ.length + j, 0, none⟩) 1 1)
    (h5 : l[j]? = some ⟨[.float .f32 a], 1, r⟩) (hm : m ≤ 1048576) (h : EvR C rest ((d, .slice (some ⟨τ.length + i, 0, none⟩) (m + 1) (m + 1)) :: F) (τ ++ l.set i (rowO (xs ++ [a]))) Q) :
    EvR C (⟨some d, none, .append 1 4 x y, n⟩ :: rest) F (τ ++ l) Q := by
  refine EvR.opS (σ' := τ ++ l.set i (rowO (xs ++ [a]))) ?_ h
  have hx : appCells (τ ++ l) 1 (.slice (some ⟨τ.length + j, 0, none⟩) 1 1) = some ([.float .f32 a], 1) := (Row.own h5 (by omega) rfl).app
  have h44 : (2 : Nat) ^ 44 = 17592186044416 := by decide
  have := append_app τ l 1 4 i m 1 h2 (by rw [f32s_length]; omega) (by omega) hx (by omega) (by omega) rfl
  simp only [evOp, h1, h4, this]
  rw [show f32s xs ++ [Value.float .f32 a] = f32s (xs ++ [a]) from by simp [f32s]]
def spec_l02Zero_ok (c : Contract) : Prop := ∀ (σ : Heap) (N : Nat), N ≤ 1000 →
    Ret c [.int .i64 N] σ fun v σ' => v = fV (slV σ.length N) (slV (σ.length + 1) N) (slV (σ.length + 2) N) ∧ σ' = σ ++ [rowO (List.replicate N 0), rowO (List.replicate N 0), rowO (List.replicate N 0)]
theorem spec_l02Zero_law {C : Ctab} : spec_l02Zero_ok (gcC C spec_l02Zero true) := by
  intro σ N hN
  refine ret_gc rfl rfl ?_
  repeat' (first | refine ff ?_ | ((first | refine sR ?_ ?_ | refine sC ?_ ?_) <;> (intro hb; (try rw [hb]); (try simp only [bb] at hb); (try (exfalso; first | omega | exact hb trivial)))) | (apply endS trivial; rotate_left; (· exact eva); (· rfl); try refine ⟨?_, rfl⟩) | fail)
  rw [show List.replicate N (Value.float .f32 0) = f32s (List.replicate N 0) from by simp [f32s]]
  (apply endR [1, 2, 3] trivial ⟨rfl, rfl⟩; (· exact eva); (· simp [gcTop, gcVal, gcLeaf, gcLeaves, gcVals, constOk, gc_lt, gc_lt0]); (· rfl); (· decide); (· simp [allConst, f32s, i64s, b8s, bools, constOk]))
/-- A sheet whose rows lie in what is new. -/
structure ShO (H : Heap) (lo s l : Nat) (sp ls : List Nat) : Prop where
  s_ : H[s]? = some (rowO sp)
  l_ : H[l]? = some (rowO ls)
  slo : lo ≤ s
  llo : lo ≤ l
  ne : s ≠ l
def spec_l02DrawOk_ok (c : Contract) : Prop := ∀ (σ : Heap) (b : Nat) (cv : Value) (code : List UInt8) (p d : Int), Src σ b cv code p d → 0 ≤ p → p ≤ 500000 → code.length ≤ 1048576 →
    Ret c [.pointer (some ⟨b, 0, none⟩)] σ fun v σ' => ∃ (W H : Nat) (wr : Bool) (sp lo : List Nat) (s l : Nat) (p' d' : Int) (rub : Heap), isSheet W H sp lo = true ∧ (∀ x ∈ sp, x < 4294967296) ∧ (∀ x ∈ lo, x < 4294967296) ∧ p ≤ p' ∧ p' ≤ p + 1000 ∧
      v = shV W H wr (slV s sp.length) (slV l lo.length) ∧ σ' = σ.set b (srcO cv p' d') ++ rub ∧ ShO σ' σ.length s l sp lo
theorem spec_l02DrawOk_law {C : Ctab} {i1 i2 : FuncId} {c1 c2 : Contract} (h1 : HasW C i1 c1 spec_l00Src_pick_ok) (h2 : HasW C i2 c2 spec_l00Src_one_ok) : spec_l02DrawOk_ok (bodyC C (spec_l02DrawOk i1 i2) false) := by
  intro σ b cv code p d hs p0 p1 hc
  refine ret_bw rfl rfl ?_
  repeat' (first | refine ff ?_ | ((first | refine sR ?_ ?_ | refine sC ?_ ?_) <;> (intro hb; (try rw [hb]); (try simp only [bb] at hb); (try (exfalso; first | omega | exact hb trivial)))) | (apply endS trivial; rotate_left; (· exact eva); (· rfl); try refine ⟨?_, rfl⟩) | fail)
  apply EvR.aCall h1.at_; (· exact eva); (· exact h1.ok _ b cv code p d 4 (hs.ext _) (by omega) (by omega) hc (by omega) (by omega)); rintro _ _ ⟨r1, q1, e1, ur10, ur11, vq10, vq11, rfl, rfl⟩
  obtain ⟨A1, hA1⟩ : ∃ s, s = σ.set b (srcO cv q1 e1) := ⟨_, rfl⟩
  have lA1 : σ.length = A1.length := by rw [hA1, List.length_set]
  have hs1 : Src A1 b cv code q1 e1 := by rw [hA1]; exact hs.step _ _
  rw [List.set_append_left _ _ hs.lt, ← hA1, lA1]
  refine EvR.nrm ?_
  repeat' (first | refine ff ?_ | ((first | refine sR ?_ ?_ | refine sC ?_ ?_) <;> (intro hb; (try rw [hb]); (try simp only [bb] at hb); (try (exfalso; first | omega | exact hb trivial)))) | (apply endS trivial; rotate_left; (· exact eva); (· rfl); try refine ⟨?_, rfl⟩) | fail)
  apply EvR.aCall h2.at_; (· exact eva); (· exact h2.ok _ b cv code q1 e1 2 (hs1.ext _) (by omega) (by omega) hc (by omega) (by omega)); rintro _ _ ⟨wr, q2, e2, vq20, vq21, rfl, rfl⟩
  obtain ⟨A2, hA2⟩ : ∃ s, s = A1.set b (srcO cv q2 e2) := ⟨_, rfl⟩
  have lA2 : A1.length = A2.length := by rw [hA2, List.length_set]
  have hs2 : Src A2 b cv code q2 e2 := by rw [hA2]; exact hs1.step _ _
  rw [List.set_append_left _ _ hs1.lt, ← hA2, lA2]
  refine EvR.nrm ?_
  repeat' (first | refine ff ?_ | ((first | refine sR ?_ ?_ | refine sC ?_ ?_) <;> (intro hb; (try rw [hb]); (try simp only [bb] at hb); (try (exfalso; first | omega | exact hb trivial)))) | (apply endS trivial; rotate_left; (· exact eva); (· rfl); try refine ⟨?_, rfl⟩) | fail)
  apply EvR.aCall h1.at_; (· exact eva); (· exact h1.ok _ b cv code q2 e2 4 (hs2.ext _) (by omega) (by omega) hc (by omega) (by omega)); rintro _ _ ⟨r2, q3, e3, ur20, ur21, vq30, vq31, rfl, rfl⟩
  obtain ⟨A3, hA3⟩ : ∃ s, s = A2.set b (srcO cv q3 e3) := ⟨_, rfl⟩
  have lA3 : A2.length = A3.length := by rw [hA3, List.length_set]
  have hs3 : Src A3 b cv code q3 e3 := by rw [hA3]; exact hs2.step _ _
  rw [List.set_append_left _ _ hs2.lt, ← hA3, lA3]
  refine EvR.nrm ?_
  repeat' (first | refine ff ?_ | ((first | refine sR ?_ ?_ | refine sC ?_ ?_) <;> (intro hb; (try rw [hb]); (try simp only [bb] at hb); (try (exfalso; first | omega | exact hb trivial)))) | (apply endS trivial; rotate_left; (· exact eva); (· rfl); try refine ⟨?_, rfl⟩) | fail)
  apply EvR.aCall h2.at_; (· exact eva); (· exact h2.ok _ b cv code q3 e3 2 (hs3.ext _) (by omega) (by omega) hc (by omega) (by omega)); rintro _ _ ⟨pl, q4, e4, vq40, vq41, rfl, rfl⟩
  obtain ⟨A4, hA4⟩ : ∃ s, s = A3.set b (srcO cv q4 e4) := ⟨_, rfl⟩
  have lA4 : A3.length = A4.length := by rw [hA4, List.length_set]
  have hs4 : Src A4 b cv code q4 e4 := by rw [hA4]; exact hs3.step _ _
  rw [List.set_append_left _ _ hs3.lt, ← hA4, lA4]
  refine EvR.nrm ?_
  obtain ⟨W, hW⟩ := Int.eq_ofNat_of_zero_le (show 0 ≤ 3 + r1 by omega)
  obtain ⟨H, hH⟩ := Int.eq_ofNat_of_zero_le (show 0 ≤ 3 + r2 by omega)
  rw [hW, hH]
  have c4 : A4 = σ.set b (srcO cv q4 e4) := by rw [hA4, hA3, hA2, hA1, List.set_set, List.set_set, List.set_set]
  rw [c4, List.length_set]
  have hN2 : W * H ≤ 36 := Nat.mul_le_mul (show W ≤ 6 by omega) (show H ≤ 6 by omega)
  have hWH : (W : Int) * (H : Int) = ((W * H : Nat) : Int) := (Int.natCast_mul _ _).symm
  have hN3 : 9 ≤ W * H := Nat.mul_le_mul (show 3 ≤ W by omega) (show 3 ≤ H by omega)
  obtain ⟨N, hN⟩ : ∃ N, W * H = N := ⟨_, rfl⟩
  rw [hN] at hN2 hWH hN3
  repeat' (first | refine ff ?_ | ((first | refine sR ?_ ?_ | refine sC ?_ ?_) <;> (intro hb; (try rw [hb]); (try simp only [bb] at hb); (try (exfalso; first | omega | exact hb trivial)))) | (apply endS trivial; rotate_left; (· exact eva); (· rfl); try refine ⟨?_, rfl⟩) | fail)
  refine Ev.whlH (S := Nat × (List Nat × List Nat) × (Nat × Nat) × (Int × Int) × Heap) (fun st => N - st.1) (fun st => [(5, .int .i64 st.1)])
    (fun st => σ.set b (srcO cv st.2.2.2.1.1 st.2.2.2.1.2) ++ (⟨[.int .i64 0, .int .i64 0, .bool false, .slice none 0 0, .slice none 0 0], 0, true⟩ :: ⟨[.int .i64 W, .int .i64 H, .bool wr, fvN (σ.length + (st.2.2.1.1 + 2)) st.1, fvN (σ.length + (st.2.2.1.2 + 2)) st.1], 0, true⟩ :: st.2.2.2.2))
    (fun st => st.1 ≤ N ∧ st.2.1.1.length = st.1 ∧ st.2.1.2.length = st.1 ∧ okSp st.2.1.1 ∧ okLo st.2.1.2 ∧ q4 ≤ st.2.2.2.1.1 ∧ st.2.2.2.1.1 ≤ q4 + 6 * st.1 ∧ (st.1 = 0 → st.2.1 = ([], []) ∧ st.2.2.1 = (1, 3) ∧ st.2.2.2.2 = []) ∧ (0 < st.1 → st.2.2.2.2[st.2.2.1.1]? = some (rowO st.2.1.1) ∧ st.2.2.2.2[st.2.2.1.2]? = some (rowO st.2.1.2) ∧ st.2.2.1.1 ≠ st.2.2.1.2))
    (0, ([], []), (1, 3), (q4, e4), []) (by exact tF) rfl ⟨Nat.zero_le _, rfl, rfl, fun x hx => by simp at hx, fun x hx => by simp at hx, by dsimp only; omega, by dsimp only; omega, fun _ => ⟨rfl, rfl, rfl⟩, fun h => absurd h (by simp)⟩ ?_
  rintro ⟨i, ⟨sp, lo⟩, ⟨js, jl⟩, ⟨p5, d5⟩, rub⟩ F hF ⟨hi, hsl, hll, osp, olo, w0, w1, hz, hp⟩
  dsimp only at hi hF hsl hll osp olo w0 w1 hz hp ⊢
  (simp only [List.cons_append, List.nil_append, ↓fget_cons, fkeep_cons, fkeep_nil, Nat.reduceEqDiff, reduceIte] at hF; subst hF)
  obtain ⟨A5, hA5⟩ : ∃ s, s = σ.set b (srcO cv p5 d5) := ⟨_, rfl⟩
  have hs5 : Src A5 b cv code p5 d5 := by rw [hA5]; exact hs.step _ _
  have lA5 : σ.length = A5.length := by rw [hA5, List.length_set]
  rw [← hA5, lA5]
  by_cases hlt : i < N
  · have h0 : share 1056964608 0x3f000000 = true ∧ 1056964608 < 4294967296 := ⟨half_ok, by omega⟩
    have z0 : share 0 0x3f800000 = true ∧ 0 < 4294967296 := ⟨zero_ok, by omega⟩
    rcases Nat.eq_zero_or_pos i with rfl | hpos
    · obtain ⟨⟨rfl, rfl⟩, ⟨rfl, rfl⟩, rfl⟩ : (sp = [] ∧ lo = []) ∧ (js = 1 ∧ jl = 3) ∧ rub = [] := by have := hz rfl; simp only [Prod.mk.injEq] at this; exact this
      dsimp only [fvN]
      cases pl
      · repeat' (first | refine ff ?_ | ((first | refine sR ?_ ?_ | refine sC ?_ ?_) <;> (intro hb; (try rw [hb]); (try simp only [bb] at hb); (try (exfalso; first | omega | exact hb trivial)))) | (apply endS trivial; rotate_left; (· exact eva); (· rfl); try refine ⟨?_, rfl⟩) | fail)
        apply EvR.aCall h1.at_; (· exact eva); (· exact h1.ok _ b cv code p5 d5 9 (hs5.ext _) (by omega) (by omega) hc (by omega) (by omega)); rintro _ _ ⟨r6, q6, e6, ur60, ur61, vq60, vq61, rfl, rfl⟩
        obtain ⟨A6, hA6⟩ : ∃ s, s = A5.set b (srcO cv q6 e6) := ⟨_, rfl⟩
        have lA6 : A5.length = A6.length := by rw [hA6, List.length_set]
        have hs6 : Src A6 b cv code q6 e6 := by rw [hA6]; exact hs5.step _ _
        rw [List.set_append_left _ _ hs5.lt, ← hA6, lA6]
        refine EvR.nrm ?_
        have o6 := spC_ok ur60 ur61
        repeat' (first | refine ff ?_ | ((first | refine sR ?_ ?_ | refine sC ?_ ?_) <;> (intro hb; (try rw [hb]); (try simp only [bb] at hb); (try (exfalso; first | omega | exact hb trivial)))) | (apply endS trivial; rotate_left; (· exact eva); (· rfl); try refine ⟨?_, rfl⟩) | fail)
        apply EvR.aCall h2.at_; (· exact eva); (· exact h2.ok _ b cv code q6 e6 3 (hs6.ext _) (by omega) (by omega) hc (by omega) (by omega)); rintro _ _ ⟨t7, q7, e7, vq70, vq71, rfl, rfl⟩
        obtain ⟨A7, hA7⟩ : ∃ s, s = A6.set b (srcO cv q7 e7) := ⟨_, rfl⟩
        have lA7 : A6.length = A7.length := by rw [hA7, List.length_set]
        have hs7 : Src A7 b cv code q7 e7 := by rw [hA7]; exact hs6.step _ _
        rw [List.set_append_left _ _ hs6.lt, ← hA7, lA7]
        refine EvR.nrm ?_
        have f6 : fbin .quo .f32 (FloatKind.f32.nearest r6) 1098907648 = spC r6 := rfl
        rw [f6]
        cases t7
        · have cB : A7 = σ.set b (srcO cv q7 e7) := by rw [hA7, hA6, hA5, List.set_set, List.set_set]
          repeat' (first | refine ff ?_ | ((first | refine sR ?_ ?_ | refine sC ?_ ?_) <;> (intro hb; (try rw [hb]); (try simp only [bb] at hb); (try (exfalso; first | omega | exact hb trivial)))) | (apply endS trivial; rotate_left; (· exact eva); (· rfl); try refine ⟨?_, rfl⟩) | fail)
          rw [cB, List.length_set]
          exact ⟨(0 + 1, ([spC r6], [0]), (1, 3), (q7, e7), [⟨[.float .f32 (spC r6)], 1, true⟩, rowO [spC r6], ⟨[.float .f32 (0)], 1, true⟩, rowO [0]]), by dsimp only; omega, by exact tF, rfl, by dsimp only; omega, rfl, rfl, okSp.snoc (xs := []) osp o6.1 o6.2, okLo.snoc (xs := []) olo z0.1 z0.2, by dsimp only; omega, by dsimp only; omega, fun h => absurd h (by dsimp only; omega), fun _ => ⟨rfl, rfl, by dsimp only; omega⟩⟩
        · repeat' (first | refine ff ?_ | ((first | refine sR ?_ ?_ | refine sC ?_ ?_) <;> (intro hb; (try rw [hb]); (try simp only [bb] at hb); (try (exfalso; first | omega | exact hb trivial)))) | (apply endS trivial; rotate_left; (· exact eva); (· rfl); try refine ⟨?_, rfl⟩) | fail)
          apply EvR.aCall h1.at_; (· exact eva); (· exact h1.ok _ b cv code q7 e7 9 (hs7.ext _) (by omega) (by omega) hc (by omega) (by omega)); rintro _ _ ⟨r8, q8, e8, ur80, ur81, vq80, vq81, rfl, rfl⟩
          obtain ⟨A8, hA8⟩ : ∃ s, s = A7.set b (srcO cv q8 e8) := ⟨_, rfl⟩
          have lA8 : A7.length = A8.length := by rw [hA8, List.length_set]
          have hs8 : Src A8 b cv code q8 e8 := by rw [hA8]; exact hs7.step _ _
          rw [List.set_append_left _ _ hs7.lt, ← hA8, lA8]
          refine EvR.nrm ?_
          have o8 := loC_ok ur80 ur81
          repeat' (first | refine ff ?_ | ((first | refine sR ?_ ?_ | refine sC ?_ ?_) <;> (intro hb; (try rw [hb]); (try simp only [bb] at hb); (try (exfalso; first | omega | exact hb trivial)))) | (apply endS trivial; rotate_left; (· exact eva); (· rfl); try refine ⟨?_, rfl⟩) | fail)
          have f8 : fbin .quo .f32 (FloatKind.f32.nearest r8) 1090519040 = loC r8 := rfl
          try rw [f8]
          have cB : A8 = σ.set b (srcO cv q8 e8) := by rw [hA8, hA7, hA6, hA5, List.set_set, List.set_set, List.set_set]
          repeat' (first | refine ff ?_ | ((first | refine sR ?_ ?_ | refine sC ?_ ?_) <;> (intro hb; (try rw [hb]); (try simp only [bb] at hb); (try (exfalso; first | omega | exact hb trivial)))) | (apply endS trivial; rotate_left; (· exact eva); (· rfl); try refine ⟨?_, rfl⟩) | fail)
          rw [cB, List.length_set]
          exact ⟨(0 + 1, ([spC r6], [loC r8]), (1, 3), (q8, e8), [⟨[.float .f32 (spC r6)], 1, true⟩, rowO [spC r6], ⟨[.float .f32 (loC r8)], 1, true⟩, rowO [loC r8]]), by dsimp only; omega, by exact tF, rfl, by dsimp only; omega, rfl, rfl, okSp.snoc (xs := []) osp o6.1 o6.2, okLo.snoc (xs := []) olo o8.1 o8.2, by dsimp only; omega, by dsimp only; omega, fun h => absurd h (by dsimp only; omega), fun _ => ⟨rfl, rfl, by dsimp only; omega⟩⟩
      · have cB : A5 = σ.set b (srcO cv p5 d5) := hA5
        repeat' (first | refine ff ?_ | ((first | refine sR ?_ ?_ | refine sC ?_ ?_) <;> (intro hb; (try rw [hb]); (try simp only [bb] at hb); (try (exfalso; first | omega | exact hb trivial)))) | (apply endS trivial; rotate_left; (· exact eva); (· rfl); try refine ⟨?_, rfl⟩) | fail)
        rw [cB, List.length_set]
        exact ⟨(0 + 1, ([1056964608], [0]), (1, 3), (p5, d5), [⟨[.float .f32 (1056964608)], 1, true⟩, rowO [1056964608], ⟨[.float .f32 (0)], 1, true⟩, rowO [0]]), by dsimp only; omega, by exact tF, rfl, by dsimp only; omega, rfl, rfl, okSp.snoc (xs := []) osp h0.1 h0.2, okLo.snoc (xs := []) olo z0.1 z0.2, by dsimp only; omega, by dsimp only; omega, fun h => absurd h (by dsimp only; omega), fun _ => ⟨rfl, rfl, by dsimp only; omega⟩⟩
    · obtain ⟨i, rfl⟩ : ∃ i', i = i' + 1 := ⟨i - 1, by omega⟩
      clear hz
      obtain ⟨hg1, hg2, hjn⟩ := hp (by omega)
      have hjs := (List.getElem?_eq_some_iff.1 hg1).1
      have hjl := (List.getElem?_eq_some_iff.1 hg2).1
      dsimp only [fvN]
      cases pl
      · repeat' (first | refine ff ?_ | ((first | refine sR ?_ ?_ | refine sC ?_ ?_) <;> (intro hb; (try rw [hb]); (try simp only [bb] at hb); (try (exfalso; first | omega | exact hb trivial)))) | (apply endS trivial; rotate_left; (· exact eva); (· rfl); try refine ⟨?_, rfl⟩) | fail)
        apply EvR.aCall h1.at_; (· exact eva); (· exact h1.ok _ b cv code p5 d5 9 (hs5.ext _) (by omega) (by omega) hc (by omega) (by omega)); rintro _ _ ⟨r6, q6, e6, ur60, ur61, vq60, vq61, rfl, rfl⟩
        obtain ⟨A6, hA6⟩ : ∃ s, s = A5.set b (srcO cv q6 e6) := ⟨_, rfl⟩
        have lA6 : A5.length = A6.length := by rw [hA6, List.length_set]
        have hs6 : Src A6 b cv code q6 e6 := by rw [hA6]; exact hs5.step _ _
        rw [List.set_append_left _ _ hs5.lt, ← hA6, lA6]
        refine EvR.nrm ?_
        have o6 := spC_ok ur60 ur61
        repeat' (first | refine ff ?_ | ((first | refine sR ?_ ?_ | refine sC ?_ ?_) <;> (intro hb; (try rw [hb]); (try simp only [bb] at hb); (try (exfalso; first | omega | exact hb trivial)))) | (apply endS trivial; rotate_left; (· exact eva); (· rfl); try refine ⟨?_, rfl⟩) | fail)
        apply EvR.aCall h2.at_; (· exact eva); (· exact h2.ok _ b cv code q6 e6 3 (hs6.ext _) (by omega) (by omega) hc (by omega) (by omega)); rintro _ _ ⟨t7, q7, e7, vq70, vq71, rfl, rfl⟩
        obtain ⟨A7, hA7⟩ : ∃ s, s = A6.set b (srcO cv q7 e7) := ⟨_, rfl⟩
        have lA7 : A6.length = A7.length := by rw [hA7, List.length_set]
        have hs7 : Src A7 b cv code q7 e7 := by rw [hA7]; exact hs6.step _ _
        rw [List.set_append_left _ _ hs6.lt, ← hA7, lA7]
        refine EvR.nrm ?_
        have f6 : fbin .quo .f32 (FloatKind.f32.nearest r6) 1098907648 = spC r6 := rfl
        rw [f6]
        cases t7
        · have cB : A7 = σ.set b (srcO cv q7 e7) := by rw [hA7, hA6, hA5, List.set_set, List.set_set]
          repeat' (first | refine ff ?_ | ((first | refine sR ?_ ?_ | refine sC ?_ ?_) <;> (intro hb; (try rw [hb]); (try simp only [bb] at hb); (try (exfalso; first | omega | exact hb trivial)))) | (apply endS trivial; rotate_left; (· exact eva); (· rfl); try refine ⟨?_, rfl⟩) | fail)
          refine EvR.ap1 (τ := A7) (i := js + 2) (j := rub.length + 2) (m := i + 1) (xs := sp) rfl ?_ hsl rfl (by simp only [List.getElem?_cons_succ]; exact get_end0 _ _ _) (by omega) ?_
          · show (rub ++ _)[js]? = _
            rw [List.getElem?_append_left hjs]; exact hg1
          simp only [List.set_cons_succ, List.set_append_left _ _ hjs]
          obtain ⟨ρ, hρ⟩ : ∃ r, r = rub.set js (rowO (sp ++ [spC r6])) := ⟨_, rfl⟩
          have hρl : ρ.length = rub.length := by rw [hρ, List.length_set]
          rw [← hρ, ← hρl]
          repeat' (first | refine ff ?_ | ((first | refine sR ?_ ?_ | refine sC ?_ ?_) <;> (intro hb; (try rw [hb]); (try simp only [bb] at hb); (try (exfalso; first | omega | exact hb trivial)))) | (apply endS trivial; rotate_left; (· exact eva); (· rfl); try refine ⟨?_, rfl⟩) | fail)
          refine EvR.ap1 (τ := A7) (i := jl + 2) (j := ρ.length + 3) (m := i + 1) (xs := lo) rfl ?_ hll rfl (by simp only [List.getElem?_cons_succ]; exact get_end _ _ 1) (by omega) ?_
          · show (ρ ++ _)[jl]? = _
            rw [List.getElem?_append_left (by omega), hρ, List.getElem?_set_ne hjn]; exact hg2
          simp only [List.set_cons_succ, List.set_append_left _ _ (show jl < ρ.length by omega)]
          repeat' (first | refine ff ?_ | ((first | refine sR ?_ ?_ | refine sC ?_ ?_) <;> (intro hb; (try rw [hb]); (try simp only [bb] at hb); (try (exfalso; first | omega | exact hb trivial)))) | (apply endS trivial; rotate_left; (· exact eva); (· rfl); try refine ⟨?_, rfl⟩) | fail)
          rw [cB, List.length_set]
          exact ⟨(i + 1 + 1, (sp ++ [spC r6], lo ++ [0]), (js, jl), (q7, e7), ρ.set jl (rowO (lo ++ [0])) ++ [⟨[.float .f32 (spC r6)], 1, true⟩, ⟨[.float .f32 (0)], 1, true⟩]), by dsimp only; omega, by exact tF, rfl, by dsimp only; omega, by dsimp only; rw [List.length_append, List.length_singleton]; omega, by dsimp only; rw [List.length_append, List.length_singleton]; omega, osp.snoc o6.1 o6.2, olo.snoc z0.1 z0.2, by dsimp only; omega, by dsimp only; omega, fun h => absurd h (by dsimp only; omega), fun _ => ⟨by dsimp only; rw [List.getElem?_append_left (by rw [List.length_set]; omega), List.getElem?_set_ne (Ne.symm hjn)]; exact (congrArg (fun r : Heap => r[js]?) hρ).trans (List.getElem?_set_self hjs), by dsimp only; rw [List.getElem?_append_left (by rw [List.length_set]; omega), List.getElem?_set_self (by omega)], hjn⟩⟩
        · repeat' (first | refine ff ?_ | ((first | refine sR ?_ ?_ | refine sC ?_ ?_) <;> (intro hb; (try rw [hb]); (try simp only [bb] at hb); (try (exfalso; first | omega | exact hb trivial)))) | (apply endS trivial; rotate_left; (· exact eva); (· rfl); try refine ⟨?_, rfl⟩) | fail)
          apply EvR.aCall h1.at_; (· exact eva); (· exact h1.ok _ b cv code q7 e7 9 (hs7.ext _) (by omega) (by omega) hc (by omega) (by omega)); rintro _ _ ⟨r8, q8, e8, ur80, ur81, vq80, vq81, rfl, rfl⟩
          obtain ⟨A8, hA8⟩ : ∃ s, s = A7.set b (srcO cv q8 e8) := ⟨_, rfl⟩
          have lA8 : A7.length = A8.length := by rw [hA8, List.length_set]
          have hs8 : Src A8 b cv code q8 e8 := by rw [hA8]; exact hs7.step _ _
          rw [List.set_append_left _ _ hs7.lt, ← hA8, lA8]
          refine EvR.nrm ?_
          have o8 := loC_ok ur80 ur81
          repeat' (first | refine ff ?_ | ((first | refine sR ?_ ?_ | refine sC ?_ ?_) <;> (intro hb; (try rw [hb]); (try simp only [bb] at hb); (try (exfalso; first | omega | exact hb trivial)))) | (apply endS trivial; rotate_left; (· exact eva); (· rfl); try refine ⟨?_, rfl⟩) | fail)
          have f8 : fbin .quo .f32 (FloatKind.f32.nearest r8) 1090519040 = loC r8 := rfl
          rw [f8]
          have cB : A8 = σ.set b (srcO cv q8 e8) := by rw [hA8, hA7, hA6, hA5, List.set_set, List.set_set, List.set_set]
          repeat' (first | refine ff ?_ | ((first | refine sR ?_ ?_ | refine sC ?_ ?_) <;> (intro hb; (try rw [hb]); (try simp only [bb] at hb); (try (exfalso; first | omega | exact hb trivial)))) | (apply endS trivial; rotate_left; (· exact eva); (· rfl); try refine ⟨?_, rfl⟩) | fail)
          refine EvR.ap1 (τ := A8) (i := js + 2) (j := rub.length + 2) (m := i + 1) (xs := sp) rfl ?_ hsl rfl (by simp only [List.getElem?_cons_succ]; exact get_end0 _ _ _) (by omega) ?_
          · show (rub ++ _)[js]? = _
            rw [List.getElem?_append_left hjs]; exact hg1
          simp only [List.set_cons_succ, List.set_append_left _ _ hjs]
          obtain ⟨ρ, hρ⟩ : ∃ r, r = rub.set js (rowO (sp ++ [spC r6])) := ⟨_, rfl⟩
          have hρl : ρ.length = rub.length := by rw [hρ, List.length_set]
          rw [← hρ, ← hρl]
          repeat' (first | refine ff ?_ | ((first | refine sR ?_ ?_ | refine sC ?_ ?_) <;> (intro hb; (try rw [hb]); (try simp only [bb] at hb); (try (exfalso; first | omega | exact hb trivial)))) | (apply endS trivial; rotate_left; (· exact eva); (· rfl); try refine ⟨?_, rfl⟩) | fail)
          refine EvR.ap1 (τ := A8) (i := jl + 2) (j := ρ.length + 3) (m := i + 1) (xs := lo) rfl ?_ hll rfl (by simp only [List.getElem?_cons_succ]; exact get_end _ _ 1) (by omega) ?_
          · show (ρ ++ _)[jl]? = _
            rw [List.getElem?_append_left (by omega), hρ, List.getElem?_set_ne hjn]; exact hg2
          simp only [List.set_cons_succ, List.set_append_left _ _ (show jl < ρ.length by omega)]
          repeat' (first | refine ff ?_ | ((first | refine sR ?_ ?_ | refine sC ?_ ?_) <;> (intro hb; (try rw [hb]); (try simp only [bb] at hb); (try (exfalso; first | omega | exact hb trivial)))) | (apply endS trivial; rotate_left; (· exact eva); (· rfl); try refine ⟨?_, rfl⟩) | fail)
          rw [cB, List.length_set]
          exact ⟨(i + 1 + 1, (sp ++ [spC r6], lo ++ [loC r8]), (js, jl), (q8, e8), ρ.set jl (rowO (lo ++ [loC r8])) ++ [⟨[.float .f32 (spC r6)], 1, true⟩, ⟨[.float .f32 (loC r8)], 1, true⟩]), by dsimp only; omega, by exact tF, rfl, by dsimp only; omega, by dsimp only; rw [List.length_append, List.length_singleton]; omega, by dsimp only; rw [List.length_append, List.length_singleton]; omega, osp.snoc o6.1 o6.2, olo.snoc o8.1 o8.2, by dsimp only; omega, by dsimp only; omega, fun h => absurd h (by dsimp only; omega), fun _ => ⟨by dsimp only; rw [List.getElem?_append_left (by rw [List.length_set]; omega), List.getElem?_set_ne (Ne.symm hjn)]; exact (congrArg (fun r : Heap => r[js]?) hρ).trans (List.getElem?_set_self hjs), by dsimp only; rw [List.getElem?_append_left (by rw [List.length_set]; omega), List.getElem?_set_self (by omega)], hjn⟩⟩
      · have cB : A5 = σ.set b (srcO cv p5 d5) := hA5
        repeat' (first | refine ff ?_ | ((first | refine sR ?_ ?_ | refine sC ?_ ?_) <;> (intro hb; (try rw [hb]); (try simp only [bb] at hb); (try (exfalso; first | omega | exact hb trivial)))) | (apply endS trivial; rotate_left; (· exact eva); (· rfl); try refine ⟨?_, rfl⟩) | fail)
        refine EvR.ap1 (τ := A5) (i := js + 2) (j := rub.length + 2) (m := i + 1) (xs := sp) rfl ?_ hsl rfl (by simp only [List.getElem?_cons_succ]; exact get_end0 _ _ _) (by omega) ?_
        · show (rub ++ _)[js]? = _
          rw [List.getElem?_append_left hjs]; exact hg1
        simp only [List.set_cons_succ, List.set_append_left _ _ hjs]
        obtain ⟨ρ, hρ⟩ : ∃ r, r = rub.set js (rowO (sp ++ [1056964608])) := ⟨_, rfl⟩
        have hρl : ρ.length = rub.length := by rw [hρ, List.length_set]
        rw [← hρ, ← hρl]
        repeat' (first | refine ff ?_ | ((first | refine sR ?_ ?_ | refine sC ?_ ?_) <;> (intro hb; (try rw [hb]); (try simp only [bb] at hb); (try (exfalso; first | omega | exact hb trivial)))) | (apply endS trivial; rotate_left; (· exact eva); (· rfl); try refine ⟨?_, rfl⟩) | fail)
        refine EvR.ap1 (τ := A5) (i := jl + 2) (j := ρ.length + 3) (m := i + 1) (xs := lo) rfl ?_ hll rfl (by simp only [List.getElem?_cons_succ]; exact get_end _ _ 1) (by omega) ?_
        · show (ρ ++ _)[jl]? = _
          rw [List.getElem?_append_left (by omega), hρ, List.getElem?_set_ne hjn]; exact hg2
        simp only [List.set_cons_succ, List.set_append_left _ _ (show jl < ρ.length by omega)]
        repeat' (first | refine ff ?_ | ((first | refine sR ?_ ?_ | refine sC ?_ ?_) <;> (intro hb; (try rw [hb]); (try simp only [bb] at hb); (try (exfalso; first | omega | exact hb trivial)))) | (apply endS trivial; rotate_left; (· exact eva); (· rfl); try refine ⟨?_, rfl⟩) | fail)
        rw [cB, List.length_set]
        exact ⟨(i + 1 + 1, (sp ++ [1056964608], lo ++ [0]), (js, jl), (p5, d5), ρ.set jl (rowO (lo ++ [0])) ++ [⟨[.float .f32 (1056964608)], 1, true⟩, ⟨[.float .f32 (0)], 1, true⟩]), by dsimp only; omega, by exact tF, rfl, by dsimp only; omega, by dsimp only; rw [List.length_append, List.length_singleton]; omega, by dsimp only; rw [List.length_append, List.length_singleton]; omega, osp.snoc h0.1 h0.2, olo.snoc z0.1 z0.2, by dsimp only; omega, by dsimp only; omega, fun h => absurd h (by dsimp only; omega), fun _ => ⟨by dsimp only; rw [List.getElem?_append_left (by rw [List.length_set]; omega), List.getElem?_set_ne (Ne.symm hjn)]; exact (congrArg (fun r : Heap => r[js]?) hρ).trans (List.getElem?_set_self hjs), by dsimp only; rw [List.getElem?_append_left (by rw [List.length_set]; omega), List.getElem?_set_self (by omega)], hjn⟩⟩
  · obtain rfl : i = N := by omega
    obtain ⟨hg1, hg2, hjn⟩ := hp (by omega)
    obtain ⟨i, rfl⟩ : ∃ i', i = i' + 1 := ⟨i - 1, by omega⟩
    dsimp only [fvN]
    repeat' (first | refine ff ?_ | ((first | refine sR ?_ ?_ | refine sC ?_ ?_) <;> (intro hb; (try rw [hb]); (try simp only [bb] at hb); (try (exfalso; first | omega | exact hb trivial)))) | (apply endS trivial; rotate_left; (· exact eva); (· rfl); try refine ⟨?_, rfl⟩) | fail)
    apply atEnd_ret
    · exact eva
    · have hS : isSheet W H sp lo = true := by
        unfold isSheet
        rw [show sides (W : Int) (H : Int) = true from by simp [sides, inR]; omega, decide_eq_true (show (sp.length : Int) = W * H by omega), decide_eq_true (show (lo.length : Int) = W * H by omega),
          List.all_eq_true.2 fun x hx => (osp x hx).1, List.all_eq_true.2 fun x hx => (olo x hx).1]
        rfl
      exact ⟨W, H, wr, sp, lo, A5.length + (js + 2), A5.length + (jl + 2), p5, d5, _, hS, fun x hx => (osp x hx).2, fun x hx => (olo x hx).2, by omega, by omega, by rw [hsl, hll], by rw [← hA5],
        ⟨by rw [hget]; exact hg1, by rw [hget]; exact hg2, by omega, by omega, by omega⟩⟩
end Go.Abs

