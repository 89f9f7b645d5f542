/- Laws of functions: cells by a predicate; outlines, by the program and by the reference. Conditions: the laws of what they call. -/
import Derived.Test.YtdlicidmkakooaaOutlinedL30
import Derived.Test.YtdlicidmkakooaaOutlinedL31
import Derived.Test.YtdlicidmkakooaaOutlinedWvX2
namespace Go.Abs

set_option linter.unusedSimpArgs false
set_option linter.unusedVariables false
set_option maxHeartbeats 8000000
/- loop.example/g01201/impl.cellsBy -/
def impl_cellsBy_r0 : List SOper := [
 ⟨some 2, none, .box (.tmp 0), 0⟩,
 ⟨some 4, none, .mov (.const (.slice none 0 0)), 0⟩]
def impl_cellsBy_r1 : List SOper := [
 ⟨some 8, none, .buildSlice 1 0 [] [], 0⟩,
 ⟨some 5, none, .mov (.tmp 8), 1⟩]
def impl_cellsBy_r2 : List SOper := [
 ⟨some 9, none, .fieldAddr 1 (.tmp 2), 0⟩,
 ⟨some 10, none, .load1 (.tmp 9), 1⟩,
 ⟨some 11, none, .mov (.const (.int .i64 0)), 0⟩]
def impl_cellsBy_r3 : List SOper := [
 ⟨some 12, none, .bin .lss .other (.tmp 11) (.tmp 10), 0⟩]
def impl_cellsBy_r4 : List SOper := [
 ⟨some 13, none, .mov (.tmp 11), 0⟩,
 ⟨some 6, none, .mov (.tmp 13), 1⟩]
def impl_cellsBy_r5 : List SOper := [
 ⟨some 14, none, .fieldAddr 0 (.tmp 2), 0⟩,
 ⟨some 15, none, .load1 (.tmp 14), 1⟩,
 ⟨some 16, none, .mov (.const (.int .i64 0)), 0⟩]
def impl_cellsBy_r6 : List SOper := [
 ⟨some 17, none, .bin .lss .other (.tmp 16) (.tmp 15), 0⟩]
def impl_cellsBy_r7 : List SOper := [
 ⟨some 18, none, .mov (.tmp 16), 0⟩,
 ⟨some 7, none, .mov (.tmp 18), 1⟩]
def impl_cellsBy_r8 : List SOper := [
 ⟨some 19, none, .mov (.tmp 1), 0⟩,
 ⟨some 20, none, .mov (.tmp 7), 0⟩,
 ⟨some 21, none, .mov (.tmp 6), 0⟩,
 ⟨some 22, none, .call (.tmp 19) [(.tmp 20), (.tmp 21)], 7⟩]
def impl_cellsBy_r9 (i_impl_Sheet_at : FuncId) : List SOper := [
 ⟨some 23, none, .mov (.tmp 5), 0⟩,
 ⟨some 24, none, .loadN 5 (.tmp 2), 0⟩,
 ⟨some 25, none, .mov (.tmp 7), 0⟩,
 ⟨some 26, none, .mov (.tmp 6), 0⟩,
 ⟨some 27, none, .call (.func i_impl_Sheet_at) [(.tmp 24), (.tmp 25), (.tmp 26)], 14⟩,
 ⟨some 28, none, .buildSlice 1 1 [(.int .i64 0)] [(0, 1, (.tmp 27))], 30⟩,
 ⟨some 29, none, .append 1 8 (.tmp 23) (.tmp 28), 63⟩,
 ⟨some 5, none, .mov (.tmp 29), 127⟩]
def impl_cellsBy_r10 : List SOper := [
 ⟨some 30, none, .bin .add .other (.tmp 16) (.const (.int .i64 1)), 0⟩,
 ⟨some 16, none, .mov (.tmp 30), 1⟩]
def impl_cellsBy_l11 (i_impl_Sheet_at : FuncId) : SCode := (.kp [1,2,5,6,10,11,15,16] (.seq (.region impl_cellsBy_r6 false) (.kp [1,2,5,6,10,11,15,16,17] (.seq (.cond (.tmp 17) .skip (.exit 2)) (.kp [1,2,5,6,10,11,15,16] (.seq (.block 3 (.seq (.region impl_cellsBy_r7 false) (.kp [1,2,5,6,7,10,11,15,16] (.seq (.region impl_cellsBy_r8 false) (.kp [1,2,5,6,7,10,11,15,16,22] (.cond (.tmp 22) (.region (impl_cellsBy_r9 i_impl_Sheet_at) false) .skip)))))) (.kp [1,2,5,6,10,11,15,16] (.region impl_cellsBy_r10 false))))))))
def impl_cellsBy_r12 : List SOper := [
 ⟨some 31, none, .bin .add .other (.tmp 11) (.const (.int .i64 1)), 0⟩,
 ⟨some 11, none, .mov (.tmp 31), 1⟩]
def impl_cellsBy_l13 (i_impl_Sheet_at : FuncId) : SCode := (.kp [1,2,5,10,11] (.seq (.region impl_cellsBy_r3 false) (.kp [1,2,5,10,11,12] (.seq (.cond (.tmp 12) .skip (.exit 0)) (.kp [1,2,5,10,11] (.seq (.block 1 (.seq (.region impl_cellsBy_r4 false) (.kp [1,2,5,6,10,11] (.seq (.region impl_cellsBy_r5 false) (.kp [1,2,5,6,10,11,15,16] (.block 2 (.loop (impl_cellsBy_l11 i_impl_Sheet_at)))))))) (.kp [1,2,5,10,11] (.region impl_cellsBy_r12 false))))))))
def impl_cellsBy_r14 : List SOper := [
 ⟨some 32, none, .mov (.tmp 5), 0⟩,
 ⟨some 4, none, .mov (.tmp 32), 1⟩]
def impl_cellsBy (i_impl_Sheet_at : FuncId) : SFunc := ⟨33, [.tmp 4], (.kp [0,1] (.seq (.region impl_cellsBy_r0 false) (.kp [1,2] (.seq (.region impl_cellsBy_r1 false) (.kp [1,2,5] (.seq (.seq (.region impl_cellsBy_r2 false) (.kp [1,2,5,10,11] (.block 0 (.loop (impl_cellsBy_l13 i_impl_Sheet_at))))) (.kp [5] (.seq (.region impl_cellsBy_r14 false) .ret))))))))⟩

/- loop.example/g01201/impl.OutlineOf$1 -/
def impl_OutlineOfC1_r0 : List SOper := [
 ⟨some 5, none, .mov (.const (.bool false)), 0⟩]
def impl_OutlineOfC1_r1 : List SOper := [
 ⟨some 10, none, .build [(.int .i64 0), (.int .i64 0)] [(0, 1, (.const (.int .i64 1))), (1, 1, (.const (.int .i64 0)))], 0⟩,
 ⟨some 11, none, .build [(.int .i64 0), (.int .i64 0)] [(0, 1, (.const (.int .i64 (-1)))), (1, 1, (.const (.int .i64 0)))], 0⟩,
 ⟨some 12, none, .build [(.int .i64 0), (.int .i64 0)] [(0, 1, (.const (.int .i64 0))), (1, 1, (.const (.int .i64 1)))], 0⟩,
 ⟨some 13, none, .build [(.int .i64 0), (.int .i64 0)] [(0, 1, (.const (.int .i64 0))), (1, 1, (.const (.int .i64 (-1))))], 0⟩,
 ⟨some 14, none, .build [(.int .i64 0), (.int .i64 0), (.int .i64 0), (.int .i64 0), (.int .i64 0), (.int .i64 0), (.int .i64 0), (.int .i64 0)] [(0, 2, (.tmp 10)), (2, 2, (.tmp 11)), (4, 2, (.tmp 12)), (6, 2, (.tmp 13))], 15⟩,
 ⟨some 15, none, .mov (.const (.int .i64 0)), 0⟩]
def impl_OutlineOfC1_r2 : List SOper := [
 ⟨some 16, none, .bin .lss .other (.tmp 15) (.const (.int .i64 4)), 0⟩]
def impl_OutlineOfC1_r3 : List SOper := [
 ⟨some 17, none, .indexN 4 2 (.tmp 14) (.tmp 15), 0⟩,
 ⟨some 7, none, .alloc [(.int .i64 0), (.int .i64 0)], 0⟩,
 ⟨none, none, .store 2 (.tmp 7) (.tmp 17), 3⟩]
def impl_OutlineOfC1_r4 : List SOper := [
 ⟨some 18, none, .mov (.tmp 0), 0⟩,
 ⟨some 19, none, .indexAddrA 2 1 (.tmp 7) (.const (.int .i64 0)), 0⟩,
 ⟨some 20, none, .load1 (.tmp 19), 2⟩,
 ⟨some 21, none, .bin .add .other (.tmp 18) (.tmp 20), 7⟩,
 ⟨some 22, none, .mov (.tmp 1), 0⟩,
 ⟨some 23, none, .indexAddrA 2 1 (.tmp 7) (.const (.int .i64 1)), 0⟩,
 ⟨some 24, none, .load1 (.tmp 23), 32⟩,
 ⟨some 25, none, .bin .add .other (.tmp 22) (.tmp 24), 112⟩,
 ⟨some 8, none, .mov (.tmp 21), 15⟩,
 ⟨some 9, none, .mov (.tmp 25), 511⟩]
def impl_OutlineOfC1_r5 (i_impl_Sheet_isCell i_impl_Sheet_at : FuncId) : List SOper := [
 ⟨some 26, none, .fieldAddr 2 (.tmp 2), 0⟩,
 ⟨some 27, none, .load1 (.tmp 26), 1⟩,
 ⟨some 28, none, .mov (.tmp 27), 3⟩,
  ⟨(some 29), (some (28, false)), .loadN 5 (.tmp 2), 7⟩,
  ⟨(some 30), (some (28, false)), .mov (.tmp 8), 7⟩,
  ⟨(some 31), (some (28, false)), .mov (.tmp 9), 7⟩,
  ⟨(some 32), (some (28, false)), .call (.func i_impl_Sheet_isCell) [(.tmp 29), (.tmp 30), (.tmp 31)], 63⟩,
 ⟨some 33, none, .pick (.tmp 28) (.const (.bool true)) (.tmp 32), 127⟩,
 ⟨some 34, none, .mov (.tmp 33), 255⟩,
  ⟨(some 35), (some (34, true)), .fieldAddr 3 (.tmp 2), 511⟩,
  ⟨(some 36), (some (34, true)), .load1 (.tmp 35), 1023⟩,
  ⟨(some 37), (some (34, true)), .loadN 5 (.tmp 2), 511⟩,
  ⟨(some 38), (some (34, true)), .mov (.tmp 8), 511⟩,
  ⟨(some 39), (some (34, true)), .mov (.tmp 9), 511⟩,
  ⟨(some 40), (some (34, true)), .call (.func i_impl_Sheet_at) [(.tmp 37), (.tmp 38), (.tmp 39)], 14847⟩,
  ⟨(some 41), (some (34, true)), .indexAddrS 1 (.tmp 36) (.tmp 40), 32767⟩,
  ⟨(some 42), (some (34, true)), .load1 (.tmp 41), 65535⟩,
  ⟨(some 43), (some (34, true)), .fieldAddr 3 (.tmp 2), 511⟩,
  ⟨(some 44), (some (34, true)), .load1 (.tmp 43), 131583⟩,
  ⟨(some 45), (some (34, true)), .loadN 5 (.tmp 2), 511⟩,
  ⟨(some 46), (some (34, true)), .mov (.tmp 0), 511⟩,
  ⟨(some 47), (some (34, true)), .mov (.tmp 1), 511⟩,
  ⟨(some 48), (some (34, true)), .call (.func i_impl_Sheet_at) [(.tmp 45), (.tmp 46), (.tmp 47)], 3701247⟩,
  ⟨(some 49), (some (34, true)), .indexAddrS 1 (.tmp 44) (.tmp 48), 8288767⟩,
  ⟨(some 50), (some (34, true)), .load1 (.tmp 49), 16677375⟩,
  ⟨(some 51), (some (34, true)), .bin .neq .other (.tmp 42) (.tmp 50), 33554431⟩,
 ⟨some 52, none, .pick (.tmp 34) (.tmp 51) (.const (.bool false)), 67108863⟩]
def impl_OutlineOfC1_r6 : List SOper := [
 ⟨some 5, none, .mov (.const (.bool true)), 0⟩]
def impl_OutlineOfC1_r7 : List SOper := [
 ⟨some 53, none, .bin .add .other (.tmp 15) (.const (.int .i64 1)), 0⟩,
 ⟨some 15, none, .mov (.tmp 53), 1⟩]
def impl_OutlineOfC1_l8 (i_impl_Sheet_isCell i_impl_Sheet_at : FuncId) : SCode := (.kp [0,1,2,14,15] (.seq (.region impl_OutlineOfC1_r2 false) (.kp [0,1,2,14,15,16] (.seq (.cond (.tmp 16) .skip (.exit 0)) (.kp [0,1,2,14,15] (.seq (.block 1 (.seq (.region impl_OutlineOfC1_r3 false) (.kp [0,1,2,7,14,15] (.seq (.region impl_OutlineOfC1_r4 true) (.kp [0,1,2,8,9,14,15] (.seq (.region (impl_OutlineOfC1_r5 i_impl_Sheet_isCell i_impl_Sheet_at) true) (.kp [0,1,2,14,15,52] (.cond (.tmp 52) (.seq (.region impl_OutlineOfC1_r6 false) .ret) .skip)))))))) (.kp [0,1,2,14,15] (.region impl_OutlineOfC1_r7 false))))))))
def impl_OutlineOfC1_r9 : List SOper := [
 ⟨some 5, none, .mov (.const (.bool false)), 0⟩]
def impl_OutlineOfC1 (i_impl_Sheet_isCell i_impl_Sheet_at : FuncId) : SFunc := ⟨54, [.tmp 5], (.kp [0,1,2] (.seq (.region impl_OutlineOfC1_r0 false) (.kp [0,1,2] (.seq (.seq (.region impl_OutlineOfC1_r1 false) (.kp [0,1,2,14,15] (.block 0 (.loop (impl_OutlineOfC1_l8 i_impl_Sheet_isCell i_impl_Sheet_at))))) (.kp [] (.seq (.region impl_OutlineOfC1_r9 false) .ret))))))⟩
theorem impl_OutlineOfC1_r4_dr : drawOkW wStat impl_OutlineOfC1_r4 = true := by kernel_rfl
attribute [push_cast] impl_OutlineOfC1_r4_dr
theorem impl_OutlineOfC1_r5_dr {i_impl_Sheet_isCell i_impl_Sheet_at : FuncId} : drawOkW wStat (impl_OutlineOfC1_r5 i_impl_Sheet_isCell i_impl_Sheet_at) = true := by kernel_rfl
attribute [push_cast] impl_OutlineOfC1_r5_dr
/- loop.example/g01201/impl.OutlineOf -/
def impl_OutlineOf_r0 : List SOper := [
 ⟨some 1, none, .box (.tmp 0), 0⟩,
 ⟨some 2, none, .mov (.const (.slice none 0 0)), 0⟩,
 ⟨some 3, none, .mov (.const (.bool false)), 2⟩]
def impl_OutlineOf_r1 (i_impl_ValidSheet : FuncId) : List SOper := [
 ⟨some 4, none, .loadN 5 (.tmp 1), 0⟩,
 ⟨some 5, none, .call (.func i_impl_ValidSheet) [(.tmp 4)], 1⟩,
 ⟨some 6, none, .un .not (.tmp 5), 3⟩]
def impl_OutlineOf_r2 : List SOper := [
 ⟨some 2, none, .mov (.const (.slice none 0 0)), 0⟩,
 ⟨some 3, none, .mov (.const (.bool false)), 1⟩]
def impl_OutlineOf_r3 (i_impl_OutlineOfC1 i_impl_cellsBy : FuncId) : List SOper := [
 ⟨some 7, none, .loadN 5 (.tmp 1), 0⟩,
 ⟨some 8, none, .makeFunc i_impl_OutlineOfC1 [] [(.tmp 1)], 0⟩,
 ⟨some 9, none, .call (.func i_impl_cellsBy) [(.tmp 7), (.tmp 8)], 3⟩,
 ⟨some 2, none, .mov (.tmp 9), 7⟩,
 ⟨some 3, none, .mov (.const (.bool true)), 15⟩]
def impl_OutlineOf (i_impl_ValidSheet i_impl_OutlineOfC1 i_impl_cellsBy : FuncId) : SFunc := ⟨10, [.tmp 2, .tmp 3], (.kp [0] (.seq (.region impl_OutlineOf_r0 false) (.kp [1] (.seq (.seq (.region (impl_OutlineOf_r1 i_impl_ValidSheet) false) (.kp [1,6] (.cond (.tmp 6) (.seq (.region impl_OutlineOf_r2 false) .ret) .skip))) (.kp [1] (.seq (.region (impl_OutlineOf_r3 i_impl_OutlineOfC1 i_impl_cellsBy) false) .ret))))))⟩

/- loop.example/g01201/spec.l00Max -/
def spec_l00Max_r0 : List SOper := [
 ⟨some 4, none, .mov (.const (.int .i64 0)), 0⟩]
def spec_l00Max_r1 : List SOper := [
 ⟨some 5, none, .mov (.tmp 0), 0⟩,
 ⟨some 6, none, .mov (.tmp 1), 0⟩,
 ⟨some 7, none, .bin .gtr .other (.tmp 5) (.tmp 6), 3⟩]
def spec_l00Max_r2 : List SOper := [
 ⟨some 8, none, .mov (.tmp 0), 0⟩,
 ⟨some 4, none, .mov (.tmp 8), 1⟩]
def spec_l00Max_r3 : List SOper := [
 ⟨some 9, none, .mov (.tmp 1), 0⟩,
 ⟨some 4, none, .mov (.tmp 9), 1⟩]
def spec_l00Max : SFunc := ⟨10, [.tmp 4], (.kp [0,1] (.seq (.region spec_l00Max_r0 false) (.kp [0,1] (.seq (.seq (.region spec_l00Max_r1 false) (.kp [0,1,7] (.cond (.tmp 7) (.seq (.region spec_l00Max_r2 false) .ret) .skip))) (.kp [1] (.seq (.region spec_l00Max_r3 false) .ret))))))⟩

/- loop.example/g01201/spec.l00Min -/
def spec_l00Min_r0 : List SOper := [
 ⟨some 4, none, .mov (.const (.int .i64 0)), 0⟩]
def spec_l00Min_r1 : List SOper := [
 ⟨some 5, none, .mov (.tmp 0), 0⟩,
 ⟨some 6, none, .mov (.tmp 1), 0⟩,
 ⟨some 7, none, .bin .lss .other (.tmp 5) (.tmp 6), 3⟩]
def spec_l00Min_r2 : List SOper := [
 ⟨some 8, none, .mov (.tmp 0), 0⟩,
 ⟨some 4, none, .mov (.tmp 8), 1⟩]
def spec_l00Min_r3 : List SOper := [
 ⟨some 9, none, .mov (.tmp 1), 0⟩,
 ⟨some 4, none, .mov (.tmp 9), 1⟩]
def spec_l00Min : SFunc := ⟨10, [.tmp 4], (.kp [0,1] (.seq (.region spec_l00Min_r0 false) (.kp [0,1] (.seq (.seq (.region spec_l00Min_r1 false) (.kp [0,1,7] (.cond (.tmp 7) (.seq (.region spec_l00Min_r2 false) .ret) .skip))) (.kp [1] (.seq (.region spec_l00Min_r3 false) .ret))))))⟩


/-- The indices below n of which Q holds. -/
def cellsN (Q : Nat → Bool) (n : Nat) : List Int := ((List.range n).filter Q).map Int.ofNat
theorem cellsN_succ (Q : Nat → Bool) (n : Nat) : cellsN Q (n + 1) = if Q n = true then cellsN Q n ++ [(n : Int)] else cellsN Q n := by
  unfold cellsN
  rw [List.range_succ, List.filter_append, List.map_append]
  by_cases h : Q n = true
  · rw [if_pos h]; simp [h]
  · rw [if_neg h]; simp [h]
theorem cellsN_t {Q : Nat → Bool} {n : Nat} (h : Q n = true) : cellsN Q (n + 1) = cellsN Q n ++ [(n : Int)] := by rw [cellsN_succ, if_pos h]
theorem cellsN_f {Q : Nat → Bool} {n : Nat} (h : Q n = false) : cellsN Q (n + 1) = cellsN Q n := by rw [cellsN_succ, if_neg (by rw [h]; simp)]
theorem cellsN_len (Q : Nat → Bool) (n : Nat) : (cellsN Q n).length ≤ n := by
  unfold cellsN
  rw [List.length_map]
  exact Nat.le_trans (List.length_filter_le ..) (by rw [List.length_range]; exact Nat.le_refl _)
theorem cellsN_congr {Q R : Nat → Bool} {n : Nat} (h : ∀ i, i < n → Q i = R i) : cellsN Q n = cellsN R n := by
  unfold cellsN
  rw [List.filter_congr fun i hi => h i (List.mem_range.1 hi)]
/-- The same of a predicate on coordinates. -/
def onCell (P : Int → Int → Bool) (W : Nat) (i : Nat) : Bool := P ((i % W : Nat) : Int) ((i / W : Nat) : Int)

def impl_cellsBy_ok (k : FuncId) (ck : Contract) (c : Contract) : Prop := ∀ (σ : Heap) (W H : Nat) (wr : Bool) (sv lv : Value) (capt : Array Value) (P : Int → Int → Bool), cellOk sv = true → cellOk lv = true → 3 ≤ W → W ≤ 16 → 3 ≤ H → H ≤ 16 →
    (∀ (x y : Nat), x < W → y < H → ∀ τ, Ret ck ([.int .i64 x, .int .i64 y] ++ capt.toList) (σ ++ τ) fun v σ' => v = .bool (P x y) ∧ σ' = σ ++ τ) →
    Ret c [shV W H wr sv lv, .func (.func k) #[] capt] σ fun v σ' => v = slV σ.length (cellsN (onCell P W) (W * H)).length ∧ σ' = σ ++ [rowI (cellsN (onCell P W) (W * H))]
theorem impl_cellsBy_law {C : Ctab} {i1 k : FuncId} {c1 ck : Contract} (h1 : Has C i1 c1 impl_Sheet_at_ok) (hk : C k = some ck) : impl_cellsBy_ok k ck (gcC C (impl_cellsBy i1) true) := by
  intro σ W H wr sv lv capt P ks kl a1 a2 a3 a4 hstep
  have hWH : W * H ≤ 256 := Nat.mul_le_mul a2 a4
  refine ret_gc rfl rfl ?_
  repeat' (first | refine ff ?_ | ((first | refine sR ?_ ?_ | refine sC ?_ ?_) <;> (intro hb; (try rw [hb]); (try simp only [bb] at hb); (try (exfalso; first | omega | exact hb trivial)))) | (apply endS trivial; rotate_left; (· exact eva); (· rfl); try refine ⟨?_, rfl⟩) | fail)
  refine Ev.whlH (S := Nat × Heap) (fun st => H - st.1) (fun st => [(5, .slice (some ⟨σ.length + 1, 0, none⟩) (cellsN (onCell P W) (W * st.1)).length (cellsN (onCell P W) (W * st.1)).length), (11, .int .i64 st.1)])
    (fun st => σ ++ (⟨[.int .i64 W, .int .i64 H, .bool wr, sv, lv], 0, true⟩ :: rowI (cellsN (onCell P W) (W * st.1)) :: st.2)) (fun st => st.1 ≤ H) (0, []) (by exact tF) rfl (Nat.zero_le _) ?_
  rintro ⟨y, rub⟩ F hF hi
  dsimp only at hi hF ⊢
  (simp only [List.cons_append, List.nil_append, ↓fget_cons, fkeep_cons, fkeep_nil, Nat.reduceEqDiff, reduceIte] at hF; subst hF)
  by_cases hlt : y < H
  · repeat' (first | refine ff ?_ | ((first | refine sR ?_ ?_ | refine sC ?_ ?_) <;> (intro hb; (try rw [hb]); (try simp only [bb] at hb); (try (exfalso; first | omega | exact hb trivial)))) | (apply endS trivial; rotate_left; (· exact eva); (· rfl); try refine ⟨?_, rfl⟩) | fail)
    refine Ev.whlH (S := Nat × Heap) (fun st => W - st.1) (fun st => [(5, .slice (some ⟨σ.length + 1, 0, none⟩) (cellsN (onCell P W) (W * y + st.1)).length (cellsN (onCell P W) (W * y + st.1)).length), (16, .int .i64 st.1)])
      (fun st => σ ++ (⟨[.int .i64 W, .int .i64 H, .bool wr, sv, lv], 0, true⟩ :: rowI (cellsN (onCell P W) (W * y + st.1)) :: st.2)) (fun st => st.1 ≤ W) (0, rub) (by exact tF) rfl (Nat.zero_le _) ?_
    rintro ⟨x, rub2⟩ F hF hi2
    dsimp only at hi2 hF ⊢
    (simp only [List.cons_append, List.nil_append, ↓fget_cons, fkeep_cons, fkeep_nil, Nat.reduceEqDiff, reduceIte] at hF; subst hF)
    by_cases hlt2 : x < W
    · have hc := cell_lt hlt2 hlt
      have hlen := cellsN_len (onCell P W) (W * y + x)
      have hon : onCell P W (W * y + x) = P x y := by unfold onCell; rw [mod_at hlt2, div_at hlt2]
      have hat : atC W H x y = ((W * y + x : Nat) : Int) := by
        have := atC_nat a1 a3 hlt2 hlt
        have h0 : 0 ≤ atC W H x y := by
          unfold atC
          rw [wrapC (by omega) (by omega) (by omega), wrapC (by omega) (by omega) (by omega), if_neg (by omega), if_neg (by omega), if_neg (by omega), if_neg (by omega)]
          have : 0 ≤ (W : Int) * (y : Int) := Int.mul_nonneg (by omega) (by omega)
          omega
        omega
      repeat' (first | refine ff ?_ | ((first | refine sR ?_ ?_ | refine sC ?_ ?_) <;> (intro hb; (try rw [hb]); (try simp only [bb] at hb); (try (exfalso; first | omega | exact hb trivial)))) | (apply endS trivial; rotate_left; (· exact eva); (· rfl); try refine ⟨?_, rfl⟩) | fail)
      (apply EvR.aDyn hk; (· exact rfl); (· exact eva); (· exact  hstep x y hlt2 hlt _); (rintro _ _ ⟨rfl, rfl⟩; refine EvR.nrm ?_))
      cases hP : P x y
      · have e := cellsN_f (Q := onCell P W) (n := W * y + x) (by rw [hon]; exact hP)
        repeat' (first | refine ff ?_ | ((first | refine sR ?_ ?_ | refine sC ?_ ?_) <;> (intro hb; (try rw [hb]); (try simp only [bb] at hb); (try (exfalso; first | omega | exact hb trivial)))) | (apply endS trivial; rotate_left; (· exact eva); (· rfl); try refine ⟨?_, rfl⟩) | fail)
        exact ⟨(x + 1, rub2), by dsimp only; omega, by rw [← Nat.add_assoc, e]; exact tF, by dsimp only; rw [← Nat.add_assoc, e], by dsimp only; omega⟩
      · have e := cellsN_t (Q := onCell P W) (n := W * y + x) (by rw [hon]; exact hP)
        have e2 : (cellsN (onCell P W) (W * y + (x + 1))).length = (cellsN (onCell P W) (W * y + x)).length + 1 := by rw [← Nat.add_assoc, e]; simp
        repeat' (first | refine ff ?_ | (apply EvR.aCall h1.at_; (· exact eva); (· apply h1.ok <;> exact sid); (rintro _ _ ⟨rfl, rfl⟩; refine EvR.nrm ?_; try simp only [hat])) | ((first | refine sR ?_ ?_ | refine sC ?_ ?_) <;> (intro hb; (try rw [hb]); (try simp only [bb] at hb); (try (exfalso; first | omega | exact hb trivial)))) | (apply endS trivial; rotate_left; (· exact eva); (· rfl); try refine ⟨?_, rfl⟩) | fail)
        exact ⟨(x + 1, rub2 ++ [rowI [((W * y + x : Nat) : Int)]]), by dsimp only; omega, by rw [e2]; exact tF, by dsimp only; rw [← Nat.add_assoc, e]; rfl, by dsimp only; omega⟩
    · obtain rfl : x = W := by omega
      repeat' (first | refine ff ?_ | ((first | refine sR ?_ ?_ | refine sC ?_ ?_) <;> (intro hb; (try rw [hb]); (try simp only [bb] at hb); (try (exfalso; first | omega | exact hb trivial)))) | (apply endS trivial; rotate_left; (· exact eva); (· rfl); try refine ⟨?_, rfl⟩) | fail)
      exact ⟨(y + 1, rub2), by dsimp only; omega, by rw [Nat.mul_succ]; exact tF, by dsimp only; rw [Nat.mul_succ], by dsimp only; omega⟩
  · obtain rfl : y = H := by omega
    repeat' (first | refine ff ?_ | ((first | refine sR ?_ ?_ | refine sC ?_ ?_) <;> (intro hb; (try rw [hb]); (try simp only [bb] at hb); (try (exfalso; first | omega | exact hb trivial)))) | (apply endS trivial; rotate_left; (· exact eva); (· rfl); try refine ⟨?_, rfl⟩) | fail)
    (apply endR [1] trivial ⟨rfl, rfl⟩; (· exact eva); (· simp [gcTop, gcVal, gcLeaf, gcLeaves, gcVals, constOk, gc_lt, gc_lt0]); (· rfl); (· decide); (· simp [allConst, f32s, i64s, b8s, bools, constOk]))

def diffS (sp : List Nat) (a b : Nat) : Bool := !feq .f32 (sp.getD a 0) (sp.getD b 0)
theorem atC_bd {W H : Nat} {u v : Int} (hW : 3 ≤ W) (hH : 3 ≤ H) (u1 : -1 ≤ u) (u2 : u ≤ W) (v1 : -1 ≤ v) (v2 : v ≤ H) : 0 ≤ atC W H u v ∧ atC W H u v < ((W * H : Nat) : Int) := by
  unfold atC
  rw [wrapC (by omega) u1 u2, wrapC (by omega) v1 v2]
  obtain ⟨x, hx, ex⟩ : ∃ x : Nat, x < W ∧ (if u = -1 then (W : Int) - 1 else if u = W then 0 else u) = x := by
    refine ⟨(if u = -1 then (W : Int) - 1 else if u = W then 0 else u).toNat, ?_, ?_⟩ <;> split <;> (try split) <;> omega
  obtain ⟨y, hy, ey⟩ : ∃ y : Nat, y < H ∧ (if v = -1 then (H : Int) - 1 else if v = H then 0 else v) = y := by
    refine ⟨(if v = -1 then (H : Int) - 1 else if v = H then 0 else v).toNat, ?_, ?_⟩ <;> split <;> (try split) <;> omega
  rw [ex, ey]
  have := cell_lt hx hy
  have e : (W : Int) * (y : Int) = ((W * y : Nat) : Int) := (Int.natCast_mul _ _).symm
  omega
def condI (D : Nat → Nat → Bool) (wr : Bool) (w h x y : Int) (p : Int × Int) : Bool := (wr || (inR (x + p.1) 0 (w - 1) && inR (y + p.2) 0 (h - 1))) && D (atC w h (x + p.1) (y + p.2)).toNat (atC w h x y).toNat
theorem edgeI_t {D : Nat → Nat → Bool} {wr : Bool} {w h x y : Int} {i : Nat} (hi : i < 4) (hh : condI D wr w h x y (four.getD i (0, 0)) = true) : edgeI D wr w h x y = true := by
  unfold edgeI
  rw [List.any_eq_true]
  refine ⟨four.getD i (0, 0), ?_, hh⟩
  rw [List.getD_eq_getElem?_getD, List.getElem?_eq_getElem (by show i < 4; exact hi)]
  simp
theorem edgeI_f {D : Nat → Nat → Bool} {wr : Bool} {w h x y : Int} (hh : ∀ i, i < 4 → condI D wr w h x y (four.getD i (0, 0)) = false) : edgeI D wr w h x y = false := by
  unfold edgeI
  rw [List.any_eq_false]
  intro p hp
  obtain ⟨i, hi, rfl⟩ := List.getElem_of_mem hp
  have := hh i hi
  rw [List.getD_eq_getElem?_getD, List.getElem?_eq_getElem hi] at this
  simp only [Option.getD_some, condI] at this
  rw [this]; simp
theorem four_at {i : Nat} (hi : i < 4) : ∃ dx dy : Int, four.getD i (0, 0) = (dx, dy) ∧ -1 ≤ dx ∧ dx ≤ 1 ∧ -1 ≤ dy ∧ dy ≤ 1 ∧ aIndexN 4 2 (.agg #[.int .i64 1, .int .i64 0, .int .i64 (-1), .int .i64 0, .int .i64 0, .int .i64 1, .int .i64 0, .int .i64 (-1)]) (.int .i64 i) = some (.agg #[.int .i64 dx, .int .i64 dy]) := by
  match i, hi with
  | 0, _ => exact ⟨1, 0, rfl, by omega, by omega, by omega, by omega, rfl⟩
  | 1, _ => exact ⟨-1, 0, rfl, by omega, by omega, by omega, by omega, rfl⟩
  | 2, _ => exact ⟨0, 1, rfl, by omega, by omega, by omega, by omega, rfl⟩
  | 3, _ => exact ⟨0, -1, rfl, by omega, by omega, by omega, by omega, rfl⟩

def impl_OutlineOfC1_ok (c : Contract) : Prop := ∀ (σ : Heap) (b : Nat) (W H : Nat) (wr : Bool) (sv lv : Value) (sp lo : List Nat) (r : Bool) (x y : Nat), σ[b]? = some ⟨[.int .i64 W, .int .i64 H, .bool wr, sv, lv], 0, r⟩ → ShR σ sv lv sp lo → 3 ≤ W → W ≤ 16 → 3 ≤ H → H ≤ 16 → sp.length = W * H → x < W → y < H →
    Ret c [.int .i64 x, .int .i64 y, .pointer (some ⟨b, 0, none⟩)] σ fun v σ' => v = .bool (edgeI (diffS sp) wr W H x y) ∧ σ' = σ
theorem impl_OutlineOfC1_law {C : Ctab} {i1 i2 : FuncId} {c1 c2 : Contract} (h1 : Has C i1 c1 impl_Sheet_isCell_ok) (h2 : Has C i2 c2 impl_Sheet_at_ok) : impl_OutlineOfC1_ok (gcC C (impl_OutlineOfC1 i1 i2) true) := by
  intro σ b W H wr sv lv sp lo r x y hb ⟨r1, r2⟩ a1 a2 a3 a4 hl hx hy
  have p1 := PtAt.whole hb
  have k1 := r1.ok
  have k2 := r2.ok
  have q0 := atC_bd (u := x) (v := y) a1 a3 (by omega) (by omega) (by omega) (by omega)
  refine ret_gc rfl rfl ?_
  repeat' (first | refine ff ?_ | ((first | refine sR ?_ ?_ | refine sC ?_ ?_) <;> (intro hb; (try rw [hb]); (try simp only [bb] at hb); (try (exfalso; first | omega | exact hb trivial)))) | (apply endS trivial; rotate_left; (· exact eva); (· rfl); try refine ⟨?_, rfl⟩) | fail)
  refine Ev.whlH (S := Nat × Heap) (fun st => 4 - st.1) (fun st => [(15, .int .i64 st.1)]) (fun st => σ ++ st.2) (fun st => st.1 ≤ 4 ∧ ∀ j, j < st.1 → condI (diffS sp) wr W H x y (four.getD j (0, 0)) = false) (0, []) (by exact tF) rfl ⟨Nat.zero_le _, fun j hj => by dsimp only at hj; omega⟩ ?_
  rintro ⟨i, rub⟩ F hF ⟨hi, hp⟩
  dsimp only at hi hF hp ⊢
  (simp only [List.cons_append, List.nil_append, ↓fget_cons, fkeep_cons, fkeep_nil, Nat.reduceEqDiff, reduceIte] at hF; subst hF)
  by_cases hlt : i < 4
  · obtain ⟨dx, dy, e1, d1, d2, d3, d4, e2⟩ := four_at hlt
    have q1 := atC_bd (W := W) (H := H) (u := x + dx) (v := y + dy) a1 a3 (by omega) (by omega) (by omega) (by omega)
    have ec : condI (diffS sp) wr W H x y (four.getD i (0, 0)) = ((wr || (inR (x + dx) 0 (W - 1) && inR (y + dy) 0 (H - 1))) && diffS sp (atC W H (x + dx) (y + dy)).toNat (atC W H x y).toNat) := by rw [e1]; rfl
    repeat' (first | refine ff ?_ | ((first | refine sR ?_ ?_ | refine sC ?_ ?_) <;> (intro hb; (try rw [hb]); (try simp only [bb] at hb); (try (exfalso; first | omega | exact hb trivial)))) | (apply endS trivial; rotate_left; (· exact eva); (· rfl); try refine ⟨?_, rfl⟩) | fail)
    refine EvR.opS (by show (aIndexN 4 2 (.agg _) (.int .i64 (i : Int))).map _ = _; rw [e2]; rfl) ?_
    repeat' (first | refine ff ?_ | ((first | refine sR ?_ ?_ | refine sC ?_ ?_) <;> (intro hb; (try rw [hb]); (try simp only [bb] at hb); (try (exfalso; first | omega | exact hb trivial)))) | (apply endS trivial; rotate_left; (· exact eva); (· rfl); try refine ⟨?_, rfl⟩) | fail)
    refine EvR.opS (v := .pointer (some ⟨σ.length + rub.length, 0, none⟩)) (by rfl) ?_
    refine EvR.opS (v := .int .i64 dx) (by show (aLoad1 _ (.pointer (some ⟨σ.length + rub.length, 0, none⟩))).map _ = _; unfold aLoad1; dsimp only; rw [hget, get_end0]; rfl) ?_
    repeat' (first | refine ff ?_ | ((first | refine sR ?_ ?_ | refine sC ?_ ?_) <;> (intro hb; (try rw [hb]); (try simp only [bb] at hb); (try (exfalso; first | omega | exact hb trivial)))) | (apply endS trivial; rotate_left; (· exact eva); (· rfl); try refine ⟨?_, rfl⟩) | fail)
    refine EvR.opS (v := .pointer (some ⟨σ.length + rub.length, 1, none⟩)) (by rfl) ?_
    refine EvR.opS (v := .int .i64 dy) (by show (aLoad1 _ (.pointer (some ⟨σ.length + rub.length, 1, none⟩))).map _ = _; unfold aLoad1; dsimp only; rw [hget, get_end0]; rfl) ?_
    repeat' (first | refine ff ?_ | (apply EvR.aCall h1.at_; (· exact eva); (· apply h1.ok <;> exact sid); (rintro _ _ ⟨rfl, rfl⟩; refine EvR.nrm ?_)) | (apply EvR.aCall h2.at_; (· exact eva); (· apply h2.ok <;> exact sid); (rintro _ _ ⟨rfl, rfl⟩; refine EvR.nrm ?_)) | ((first | refine sR ?_ ?_ | refine sC ?_ ?_) <;> (intro hb; (try rw [hb]); (try simp only [bb] at hb); (try (exfalso; first | omega | exact hb trivial)))) | (apply endS trivial; rotate_left; (· exact eva); (· rfl); try refine ⟨?_, rfl⟩) | fail)
    all_goals subst_vars
    all_goals first
      | (rw [edgeI_t hlt (by rw [ec]; unfold diffS; clear hp; grind)]; done)
      | (refine ⟨(i + 1, rub ++ [⟨[.int .i64 dx, .int .i64 dy], 0, true⟩]), by dsimp only; omega, by exact tF, rfl, by dsimp only; omega, fun j hj => ?_⟩
         dsimp only at hj
         rcases Nat.lt_or_ge j i with hji | hji
         · exact hp j hji
         · obtain rfl : j = i := by omega
           rw [ec]; unfold diffS; clear hp; grind)
  · obtain rfl : i = 4 := by omega
    repeat' (first | refine ff ?_ | ((first | refine sR ?_ ?_ | refine sC ?_ ?_) <;> (intro hb; (try rw [hb]); (try simp only [bb] at hb); (try (exfalso; first | omega | exact hb trivial)))) | (apply endS trivial; rotate_left; (· exact eva); (· rfl); try refine ⟨?_, rfl⟩) | fail)
    rw [edgeI_f hp]

/-- Indices of cells and whether there are any, as results. -/
def ciRes (ok : Bool) (b : Nat) (xs : List Int) : Value := if ok = true then .tuple #[slV b xs.length, .bool true] else .tuple #[.slice none 0 0, .bool false]
def ciRows (ok : Bool) (xs : List Int) : Heap := if ok = true then [rowI xs] else []
theorem ciRes_f (b : Nat) (xs : List Int) : ciRes false b xs = .tuple #[.slice none 0 0, .bool false] := rfl
theorem ciRows_f (xs : List Int) : ciRows false xs = [] := rfl
theorem ciRes_t (b : Nat) (xs : List Int) : ciRes true b xs = .tuple #[slV b xs.length, .bool true] := rfl
theorem ciRows_t (xs : List Int) : ciRows true xs = [rowI xs] := rfl
def OutlineOf_ok (c : Contract) : Prop := ∀ (σ : Heap) (w h : Int) (wr : Bool) (sv lv : Value) (sp lo : List Nat), ShR σ sv lv sp lo → sp.length ≤ 1048576 → lo.length ≤ 1048576 →
    Ret c [shV w h wr sv lv] σ fun v σ' => v = ciRes (isSheet w h sp lo) σ.length (cellsN (edgeS (diffS sp) wr w.toNat h.toNat) sp.length) ∧ σ' = σ ++ ciRows (isSheet w h sp lo) (cellsN (edgeS (diffS sp) wr w.toNat h.toNat) sp.length)
abbrev impl_OutlineOf_ok := OutlineOf_ok
theorem diffS_comm (sp : List Nat) (a b : Nat) : diffS sp a b = diffS sp b a := by unfold diffS; rw [feq_comm]
theorem impl_OutlineOf_law {C : Ctab} {i1 i2 i3 : FuncId} {c1 c2 c3 : Contract} (h1 : Has C i1 c1 impl_ValidSheet_ok) (h2 : impl_OutlineOfC1_ok c2) (h3 : Has C i3 c3 (impl_cellsBy_ok i2 c2)) : impl_OutlineOf_ok (gcC C (impl_OutlineOf i1 i2 i3) true) := by
  intro σ w h wr sv lv sp lo ⟨r1, r2⟩ hn1 hn2
  cases hs : isSheet w h sp lo
  · rw [ciRes_f, ciRows_f]
    refine ret_gc rfl rfl ?_
    repeat' (first | refine ff ?_ | (apply EvR.aCall h1.at_; (· exact eva); (· apply h1.ok <;> exact sid); (rintro _ _ ⟨rfl, rfl⟩; refine EvR.nrm ?_; try simp only [hs])) | ((first | refine sR ?_ ?_ | refine sC ?_ ?_) <;> (intro hb; (try rw [hb]); (try simp only [bb] at hb); (try (exfalso; first | omega | exact hb trivial)))) | (apply endS trivial; rotate_left; (· exact eva); (· rfl); try refine ⟨?_, rfl⟩) | fail)
    simp
  obtain ⟨a1, a2, a3, a4, q1, q2⟩ := isSheet_sides hs
  obtain ⟨W, rfl⟩ := Int.eq_ofNat_of_zero_le (show 0 ≤ w by omega)
  obtain ⟨H, rfl⟩ := Int.eq_ofNat_of_zero_le (show 0 ≤ h by omega)
  have hl : sp.length = W * H := by
    have : ((W * H : Nat) : Int) = (W : Int) * (H : Int) := Int.natCast_mul _ _
    omega
  have hcells : cellsN (onCell (fun x y => edgeI (diffS sp) wr W H x y) W) (W * H) = cellsN (edgeS (diffS sp) wr W H) (W * H) := by
    refine cellsN_congr fun i hi => ?_
    have hW : 0 < W := by omega
    have h1 : i % W < W := Nat.mod_lt _ hW
    have h2 : i / W < H := by rw [Nat.div_lt_iff_lt_mul hW, Nat.mul_comm]; exact hi
    have := edge_eq (diffS sp) (diffS_comm sp) wr (W := W) (H := H) (x := i % W) (y := i / W) (by omega) (by omega) h1 h2
    rw [Nat.div_add_mod] at this
    exact this
  rw [ciRes_t, ciRows_t, Int.toNat_natCast, Int.toNat_natCast, hl, ← hcells]
  refine ret_gc rfl rfl ?_
  repeat' (first | refine ff ?_ | (apply EvR.aCall h1.at_; (· exact eva); (· apply h1.ok <;> exact sid); (rintro _ _ ⟨rfl, rfl⟩; refine EvR.nrm ?_; try simp only [hs])) | ((first | refine sR ?_ ?_ | refine sC ?_ ?_) <;> (intro hb; (try rw [hb]); (try simp only [bb] at hb); (try (exfalso; first | omega | exact hb trivial)))) | (apply endS trivial; rotate_left; (· exact eva); (· rfl); try refine ⟨?_, rfl⟩) | fail)
  (apply EvR.aCall h3.at_; (· exact eva); (· exact  h3.ok _ W H wr sv lv _ (fun x y => edgeI (diffS sp) wr W H x y) r1.ok r2.ok (by omega) (by omega) (by omega) (by omega) (by intro x y hx hy τ; exact h2 _ (σ.length + 0) W H wr sv lv sp lo true x y (by rw [List.append_assoc, hget]; rfl) ⟨(r1.ext _).ext _, (r2.ext _).ext _⟩ (by omega) (by omega) (by omega) (by omega) hl hx hy)); (rintro _ _ ⟨rfl, rfl⟩; refine EvR.nrm ?_))
  repeat' (first | refine ff ?_ | ((first | refine sR ?_ ?_ | refine sC ?_ ?_) <;> (intro hb; (try rw [hb]); (try simp only [bb] at hb); (try (exfalso; first | omega | exact hb trivial)))) | (apply endS trivial; rotate_left; (· exact eva); (· rfl); try refine ⟨?_, rfl⟩) | fail)
  (apply endR [1] trivial ⟨rfl, rfl⟩; (· exact eva); (· simp [gcTop, gcVal, gcLeaf, gcLeaves, gcVals, constOk, gc_lt, gc_lt0]); (· rfl); (· decide); (· simp [allConst, f32s, i64s, b8s, bools, constOk]))

def spec_l00Max_ok (c : Contract) : Prop := ∀ (σ : Heap) (a b : Int), Ret c [.int .i64 a, .int .i64 b] σ fun v σ' => v = .int .i64 (max a b) ∧ σ' = σ
theorem spec_l00Max_law {C : Ctab} : spec_l00Max_ok (gcC C spec_l00Max true) := by
  intro σ a b
  refine ret_gc rfl rfl ?_
  repeat' (first | refine ff ?_ | ((first | refine sR ?_ ?_ | refine sC ?_ ?_) <;> (intro hb; (try rw [hb]); (try simp only [bb] at hb); (try (exfalso; first | omega | exact hb trivial)))) | (apply endS trivial; rotate_left; (· exact eva); (· rfl); try refine ⟨?_, rfl⟩) | fail)
  all_goals (congr 1; omega)
def spec_l00Min_ok (c : Contract) : Prop := ∀ (σ : Heap) (a b : Int), Ret c [.int .i64 a, .int .i64 b] σ fun v σ' => v = .int .i64 (min a b) ∧ σ' = σ
theorem spec_l00Min_law {C : Ctab} : spec_l00Min_ok (gcC C spec_l00Min true) := by
  intro σ a b
  refine ret_gc rfl rfl ?_
  repeat' (first | refine ff ?_ | ((first | refine sR ?_ ?_ | refine sC ?_ ?_) <;> (intro hb; (try rw [hb]); (try simp only [bb] at hb); (try (exfalso; first | omega | exact hb trivial)))) | (apply endS trivial; rotate_left; (· exact eva); (· rfl); try refine ⟨?_, rfl⟩) | fail)
  all_goals (congr 1; omega)
end Go.Abs

