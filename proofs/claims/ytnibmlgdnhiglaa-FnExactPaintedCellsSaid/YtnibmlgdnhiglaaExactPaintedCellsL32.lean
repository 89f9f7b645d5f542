/- Laws of functions: cells by a predicate; outlines, by the program and by the reference. Conditions: the laws of what they call. -/
import Derived.Test.YtnibmlgdnhiglaaExactPaintedCellsL30
import Derived.Test.YtnibmlgdnhiglaaExactPaintedCellsL31
import Derived.Test.YtnibmlgdnhiglaaWvX2
namespace Go.Abs

set_option linter.unusedSimpArgs false
set_option linter.unusedVariables false
set_option maxHeartbeats 8000000
/- loop.example/g01201/impl.cellsBy -/
def impl_cellsBy_r0 : List SOper := [
  ⟨(some 2), none, .box (.tmp 0), 0⟩,
  ⟨(some 4), none, .mov (.const (.slice none 0 0)), 0⟩]
def impl_cellsBy_r1 : List SOper := [
  ⟨(some 8), none, .buildSlice 1 0 [] [], 0⟩,
  ⟨(some 5), none, .mov (.tmp 8), 1⟩]
def impl_cellsBy_r2 : List SOper := [
  ⟨(some 9), none, .fieldAddr 1 (.tmp 2), 0⟩,
  ⟨(some 10), none, .load1 (.tmp 9), 1⟩,
  ⟨(some 11), none, .mov (.const (.int .i64 0)), 0⟩]
def impl_cellsBy_r3 : List SOper := [
  ⟨(some 12), none, .bin .lss .other (.tmp 11) (.tmp 10), 0⟩]
def impl_cellsBy_r4 : List SOper := [
  ⟨(some 13), none, .mov (.tmp 11), 0⟩,
  ⟨(some 6), none, .mov (.tmp 13), 1⟩]
def impl_cellsBy_r5 : List SOper := [
  ⟨(some 14), none, .fieldAddr 0 (.tmp 2), 0⟩,
  ⟨(some 15), none, .load1 (.tmp 14), 1⟩,
  ⟨(some 16), none, .mov (.const (.int .i64 0)), 0⟩]
def impl_cellsBy_r6 : List SOper := [
  ⟨(some 17), none, .bin .lss .other (.tmp 16) (.tmp 15), 0⟩]
def impl_cellsBy_r7 : List SOper := [
  ⟨(some 18), none, .mov (.tmp 16), 0⟩,
  ⟨(some 7), none, .mov (.tmp 18), 1⟩]
def impl_cellsBy_r8 : List SOper := [
  ⟨(some 19), none, .mov (.tmp 1), 0⟩,
  ⟨(some 20), none, .mov (.tmp 7), 0⟩,
  ⟨(some 21), none, .mov (.tmp 6), 0⟩,
  ⟨(some 22), none, .call (.tmp 19) [(.tmp 20), (.tmp 21)], 7⟩]
def impl_cellsBy_r9 (i_impl_Sheet_at : FuncId) : List SOper := [
  ⟨(some 23), none, .mov (.tmp 5), 0⟩,
  ⟨(some 24), none, .loadN 5 (.tmp 2), 0⟩,
  ⟨(some 25), none, .mov (.tmp 7), 0⟩,
  ⟨(some 26), none, .mov (.tmp 6), 0⟩,
  ⟨(some 27), none, .call (.func i_impl_Sheet_at) [(.tmp 24), (.tmp 25), (.tmp 26)], 14⟩,
  ⟨(some 28), none, .buildSlice 1 1 [(.int .i64 0)] [(0, 1, (.tmp 27))], 30⟩,
  ⟨(some 29), none, .append 1 8 (.tmp 23) (.tmp 28), 63⟩,
  ⟨(some 5), none, .mov (.tmp 29), 127⟩]
def impl_cellsBy_r10 : List SOper := [
  ⟨(some 30), none, .bin .add .other (.tmp 16) (.const (.int .i64 1)), 0⟩,
  ⟨(some 16), none, .mov (.tmp 30), 1⟩]
def impl_cellsBy_l11 (i_impl_Sheet_at : FuncId) : SCode := (.kp [1, 2, 5, 6, 10, 11, 15, 16] (.seq (.region impl_cellsBy_r6 false) (.kp [1, 2, 5, 6, 10, 11, 15, 16, 17] (.seq (.cond (.tmp 17) .skip (.exit 2)) (.kp [1, 2, 5, 6, 10, 11, 15, 16] (.seq (.block 3 (.seq (.region impl_cellsBy_r7 false) (.kp [1, 2, 5, 6, 7, 10, 11, 15, 16] (.seq (.region impl_cellsBy_r8 false) (.kp [1, 2, 5, 6, 7, 10, 11, 15, 16, 22] (.cond (.tmp 22) (.region (impl_cellsBy_r9 i_impl_Sheet_at) false) .skip)))))) (.kp [1, 2, 5, 6, 10, 11, 15, 16] (.region impl_cellsBy_r10 false))))))))
def impl_cellsBy_r12 : List SOper := [
  ⟨(some 31), none, .bin .add .other (.tmp 11) (.const (.int .i64 1)), 0⟩,
  ⟨(some 11), none, .mov (.tmp 31), 1⟩]
def impl_cellsBy_l13 (i_impl_Sheet_at : FuncId) : SCode := (.kp [1, 2, 5, 10, 11] (.seq (.region impl_cellsBy_r3 false) (.kp [1, 2, 5, 10, 11, 12] (.seq (.cond (.tmp 12) .skip (.exit 0)) (.kp [1, 2, 5, 10, 11] (.seq (.block 1 (.seq (.region impl_cellsBy_r4 false) (.kp [1, 2, 5, 6, 10, 11] (.seq (.region impl_cellsBy_r5 false) (.kp [1, 2, 5, 6, 10, 11, 15, 16] (.block 2 (.loop (impl_cellsBy_l11 i_impl_Sheet_at)))))))) (.kp [1, 2, 5, 10, 11] (.region impl_cellsBy_r12 false))))))))
def impl_cellsBy_r14 : List SOper := [
  ⟨(some 32), none, .mov (.tmp 5), 0⟩,
  ⟨(some 4), none, .mov (.tmp 32), 1⟩]
def impl_cellsBy (i_impl_Sheet_at : FuncId) : SFunc := ⟨33, [.tmp 4], (.kp [0, 1] (.seq (.region impl_cellsBy_r0 false) (.kp [1, 2] (.seq (.region impl_cellsBy_r1 false) (.kp [1, 2, 5] (.seq (.seq (.region impl_cellsBy_r2 false) (.kp [1, 2, 5, 10, 11] (.block 0 (.loop (impl_cellsBy_l13 i_impl_Sheet_at))))) (.kp [5] (.seq (.region impl_cellsBy_r14 false) .ret))))))))⟩

/-- The indices below n of which Q holds. -/
def cellsN (Q : Nat → Bool) (n : Nat) : List Int := ((List.range n).filter Q).map Int.ofNat
theorem cellsN_succ (Q : Nat → Bool) (n : Nat) : cellsN Q (n + 1) = if Q n = true then cellsN Q n ++ [(n : Int)] else cellsN Q n := by
  unfold cellsN
  rw [List.range_succ, List.filter_append, List.map_append]
  by_cases h : Q n = true
  · rw [if_pos h]; simp [h]
  · rw [if_neg h]; simp [h]
theorem cellsN_t {Q : Nat → Bool} {n : Nat} (h : Q n = true) : cellsN Q (n + 1) = cellsN Q n ++ [(n : Int)] := by rw [cellsN_succ, if_pos h]
theorem cellsN_f {Q : Nat → Bool} {n : Nat} (h : Q n = false) : cellsN Q (n + 1) = cellsN Q n := by rw [cellsN_succ, if_neg (by rw [h]; simp)]
theorem cellsN_len (Q : Nat → Bool) (n : Nat) : (cellsN Q n).length ≤ n := by
  unfold cellsN
  rw [List.length_map]
  exact Nat.le_trans (List.length_filter_le ..) (by rw [List.length_range]; exact Nat.le_refl _)
theorem cellsN_congr {Q R : Nat → Bool} {n : Nat} (h : ∀ i, i < n → Q i = R i) : cellsN Q n = cellsN R n := by
  unfold cellsN
  rw [List.filter_congr fun i hi => h i (List.mem_range.1 hi)]
/-- The same of a predicate on coordinates. -/
def onCell (P : Int → Int → Bool) (W : Nat) (i : Nat) : Bool := P ((i % W : Nat) : Int) ((i / W : Nat) : Int)

def impl_cellsBy_ok (k : FuncId) (ck : Contract) (c : Contract) : Prop := ∀ (σ : Heap) (W H : Nat) (wr : Bool) (sv lv : Value) (capt : Array Value) (P : Int → Int → Bool), cellOk sv = true → cellOk lv = true → 3 ≤ W → W ≤ 16 → 3 ≤ H → H ≤ 16 →
    (∀ (x y : Nat), x < W → y < H → ∀ τ, Ret ck ([.int .i64 x, .int .i64 y] ++ capt.toList) (σ ++ τ) fun v σ' => v = .bool (P x y) ∧ σ' = σ ++ τ) →
    Ret c [shV W H wr sv lv, .func (.func k) #[] capt] σ fun v σ' => v = slV σ.length (cellsN (onCell P W) (W * H)).length ∧ σ' = σ ++ [rowI (cellsN (onCell P W) (W * H))]
theorem impl_cellsBy_law {C : Ctab} {i1 k : FuncId} {c1 ck : Contract} (h1 : Has C i1 c1 impl_Sheet_at_ok) (hk : C k = some ck) : impl_cellsBy_ok k ck (gcC C (impl_cellsBy i1) true) := by
  intro σ W H wr sv lv capt P ks kl a1 a2 a3 a4 hstep
  have hWH : W * H ≤ 256 := Nat.mul_le_mul a2 a4
  refine ret_gc rfl rfl ?_
  repeat' (first | apply Ev.sq | apply Ev.rg | refine Ev.aKp ?_ | apply thenQ.n | apply thenQ.e | apply thenQ.r | apply blkQ.n | apply blkQ.e | refine blkQ.x ?_ rfl | apply blkQ.r | refine Ev.aT ?_ | refine Ev.aF ?_ | apply Ev.skip | apply Ev.exit | apply Ev.ret | apply Ev.bk | refine EvR.mv ?_ | refine EvR.fa ?_ | refine EvR.l1 ?_ | refine EvR.aNotSF ?_ | refine EvR.aNotST ?_ | refine EvR.aMetT ?_ | refine EvR.aMetF ?_ | refine EvR.aUS ?_ | refine EvR.mvc ?_ | refine EvR.lv ?_ | refine EvR.lp ?_ | refine EvR.lNp ?_ | refine EvR.pkT ?_ | refine EvR.pkF ?_ | refine EvR.lN ?_ | refine EvR.ix ?_ | refine EvR.le ?_ | refine EvR.ixo ?_ | refine EvR.l1o ?_ | refine EvR.lei ?_ | refine EvR.leb ?_ | refine EvR.lnr ?_ | refine EvR.lns ?_ | refine EvR.nt ?_ | refine EvR.lt ?_ | refine EvR.le_ ?_ | refine EvR.gt ?_ | refine EvR.ge ?_ | refine EvR.eqi ?_ | refine EvR.nei ?_ | refine EvR.add ?_ | refine EvR.sub ?_ | refine EvR.mul ?_ | refine EvR.rem ?_ | refine EvR.quo ?_ | refine EvR.nc ?_ | refine EvR.ex ?_ | refine EvR.f1 ?_ | refine EvR.fadd ?_ | refine EvR.fsub ?_ | refine EvR.fmul ?_ | refine EvR.fquo ?_ | refine EvR.flt_ ?_ | refine EvR.fle_ ?_ | refine EvR.fgt_ ?_ | refine EvR.fge_ ?_ | refine EvR.feq_ ?_ | refine EvR.fne_ ?_ | refine EvR.cv ?_ | refine EvR.cvu ?_ | refine EvR.cvf ?_ | refine EvR.cvw ?_ | refine EvR.bx ?_ | refine EvR.aNotNT ?_ | refine EvR.aNotNF ?_ | refine EvR.aUN ?_ | refine EvR.nl ?_ | refine EvR.so ?_ | (apply Ev.regionQ drk; (· exact quie)) | (apply Ev.regionN0 drk; (· exact quie)) | (apply Ev.regionA drk (by assumption); (· exact quie)) | (apply Ev.regionNA drk (by assumption); (· exact quie)) | (apply Ev.regionS0 drk; (· exact quie)) | (refine EvR.aSplB ?_ ?_ <;> (intro hb; rw [hb]; (try simp only [Bool.not_eq_true', Bool.not_eq_false', Bool.not_eq_eq_eq_not, Bool.not_true, Bool.not_false, decide_eq_true_eq, decide_eq_false_iff_not, Bool.and_eq_true, Bool.and_eq_false_iff, Bool.or_eq_true, Bool.or_eq_false_iff] at hb); (try (exfalso; omega)))) | (refine Ev.aSplB ?_ ?_ <;> (intro hb; (try rw [hb]); (try simp only [Bool.not_eq_true', Bool.not_eq_false', Bool.not_eq_eq_eq_not, Bool.not_true, Bool.not_false, decide_eq_true_eq, decide_eq_false_iff_not, Bool.and_eq_true, Bool.and_eq_false_iff, Bool.or_eq_true, Bool.or_eq_false_iff] at hb); (try (exfalso; omega)))) | (apply EvR.aS0; (· exact evc)) | (apply EvR.aN0; (· exact evc)) | (apply endS trivial; rotate_left; (· exact eva); (· rfl); try refine ⟨?_, rfl⟩) | fail)
  refine Ev.whlH (S := Nat × Heap) (fun st => H - st.1) (fun st => [(5, .slice (some ⟨σ.length + 1, 0, none⟩) (cellsN (onCell P W) (W * st.1)).length (cellsN (onCell P W) (W * st.1)).length), (11, .int .i64 st.1)])
    (fun st => σ ++ (⟨[.int .i64 W, .int .i64 H, .bool wr, sv, lv], 0, true⟩ :: rowI (cellsN (onCell P W) (W * st.1)) :: st.2)) (fun st => st.1 ≤ H) (0, []) (by (simp only [List.cons_append, List.nil_append, ↓fget_cons, push_cast, Nat.reduceEqDiff, reduceIte] <;> rfl)) rfl (Nat.zero_le _) ?_
  rintro ⟨y, rub⟩ F hF hi
  dsimp only at hi hF ⊢
  (simp only [List.cons_append, List.nil_append, ↓fget_cons, fkeep_cons, fkeep_nil, Nat.reduceEqDiff, reduceIte] at hF; subst hF)
  by_cases hlt : y < H
  · repeat' (first | apply Ev.sq | apply Ev.rg | refine Ev.aKp ?_ | apply thenQ.n | apply thenQ.e | apply thenQ.r | apply blkQ.n | apply blkQ.e | refine blkQ.x ?_ rfl | apply blkQ.r | refine Ev.aT ?_ | refine Ev.aF ?_ | apply Ev.skip | apply Ev.exit | apply Ev.ret | apply Ev.bk | refine EvR.mv ?_ | refine EvR.fa ?_ | refine EvR.l1 ?_ | refine EvR.aNotSF ?_ | refine EvR.aNotST ?_ | refine EvR.aMetT ?_ | refine EvR.aMetF ?_ | refine EvR.aUS ?_ | refine EvR.mvc ?_ | refine EvR.lv ?_ | refine EvR.lp ?_ | refine EvR.lNp ?_ | refine EvR.pkT ?_ | refine EvR.pkF ?_ | refine EvR.lN ?_ | refine EvR.ix ?_ | refine EvR.le ?_ | refine EvR.ixo ?_ | refine EvR.l1o ?_ | refine EvR.lei ?_ | refine EvR.leb ?_ | refine EvR.lnr ?_ | refine EvR.lns ?_ | refine EvR.nt ?_ | refine EvR.lt ?_ | refine EvR.le_ ?_ | refine EvR.gt ?_ | refine EvR.ge ?_ | refine EvR.eqi ?_ | refine EvR.nei ?_ | refine EvR.add ?_ | refine EvR.sub ?_ | refine EvR.mul ?_ | refine EvR.rem ?_ | refine EvR.quo ?_ | refine EvR.nc ?_ | refine EvR.ex ?_ | refine EvR.f1 ?_ | refine EvR.fadd ?_ | refine EvR.fsub ?_ | refine EvR.fmul ?_ | refine EvR.fquo ?_ | refine EvR.flt_ ?_ | refine EvR.fle_ ?_ | refine EvR.fgt_ ?_ | refine EvR.fge_ ?_ | refine EvR.feq_ ?_ | refine EvR.fne_ ?_ | refine EvR.cv ?_ | refine EvR.cvu ?_ | refine EvR.cvf ?_ | refine EvR.cvw ?_ | refine EvR.bx ?_ | refine EvR.aNotNT ?_ | refine EvR.aNotNF ?_ | refine EvR.aUN ?_ | refine EvR.nl ?_ | refine EvR.so ?_ | (apply Ev.regionQ drk; (· exact quie)) | (apply Ev.regionN0 drk; (· exact quie)) | (apply Ev.regionA drk (by assumption); (· exact quie)) | (apply Ev.regionNA drk (by assumption); (· exact quie)) | (apply Ev.regionS0 drk; (· exact quie)) | (refine EvR.aSplB ?_ ?_ <;> (intro hb; rw [hb]; (try simp only [Bool.not_eq_true', Bool.not_eq_false', Bool.not_eq_eq_eq_not, Bool.not_true, Bool.not_false, decide_eq_true_eq, decide_eq_false_iff_not, Bool.and_eq_true, Bool.and_eq_false_iff, Bool.or_eq_true, Bool.or_eq_false_iff] at hb); (try (exfalso; omega)))) | (refine Ev.aSplB ?_ ?_ <;> (intro hb; (try rw [hb]); (try simp only [Bool.not_eq_true', Bool.not_eq_false', Bool.not_eq_eq_eq_not, Bool.not_true, Bool.not_false, decide_eq_true_eq, decide_eq_false_iff_not, Bool.and_eq_true, Bool.and_eq_false_iff, Bool.or_eq_true, Bool.or_eq_false_iff] at hb); (try (exfalso; omega)))) | (apply EvR.aS0; (· exact evc)) | (apply EvR.aN0; (· exact evc)) | (apply endS trivial; rotate_left; (· exact eva); (· rfl); try refine ⟨?_, rfl⟩) | fail)
    refine Ev.whlH (S := Nat × Heap) (fun st => W - st.1) (fun st => [(5, .slice (some ⟨σ.length + 1, 0, none⟩) (cellsN (onCell P W) (W * y + st.1)).length (cellsN (onCell P W) (W * y + st.1)).length), (16, .int .i64 st.1)])
      (fun st => σ ++ (⟨[.int .i64 W, .int .i64 H, .bool wr, sv, lv], 0, true⟩ :: rowI (cellsN (onCell P W) (W * y + st.1)) :: st.2)) (fun st => st.1 ≤ W) (0, rub) (by (simp only [List.cons_append, List.nil_append, ↓fget_cons, push_cast, Nat.reduceEqDiff, reduceIte] <;> rfl)) rfl (Nat.zero_le _) ?_
    rintro ⟨x, rub2⟩ F hF hi2
    dsimp only at hi2 hF ⊢
    (simp only [List.cons_append, List.nil_append, ↓fget_cons, fkeep_cons, fkeep_nil, Nat.reduceEqDiff, reduceIte] at hF; subst hF)
    by_cases hlt2 : x < W
    · have hc := cell_lt hlt2 hlt
      have hlen := cellsN_len (onCell P W) (W * y + x)
      have hon : onCell P W (W * y + x) = P x y := by unfold onCell; rw [mod_at hlt2, div_at hlt2]
      have hat : atC W H x y = ((W * y + x : Nat) : Int) := by
        have := atC_nat a1 a3 hlt2 hlt
        have h0 : 0 ≤ atC W H x y := by
          unfold atC
          rw [wrapC (by omega) (by omega) (by omega), wrapC (by omega) (by omega) (by omega), if_neg (by omega), if_neg (by omega), if_neg (by omega), if_neg (by omega)]
          have : 0 ≤ (W : Int) * (y : Int) := Int.mul_nonneg (by omega) (by omega)
          omega
        omega
      repeat' (first | apply Ev.sq | apply Ev.rg | refine Ev.aKp ?_ | apply thenQ.n | apply thenQ.e | apply thenQ.r | apply blkQ.n | apply blkQ.e | refine blkQ.x ?_ rfl | apply blkQ.r | refine Ev.aT ?_ | refine Ev.aF ?_ | apply Ev.skip | apply Ev.exit | apply Ev.ret | apply Ev.bk | refine EvR.mv ?_ | refine EvR.fa ?_ | refine EvR.l1 ?_ | refine EvR.aNotSF ?_ | refine EvR.aNotST ?_ | refine EvR.aMetT ?_ | refine EvR.aMetF ?_ | refine EvR.aUS ?_ | refine EvR.mvc ?_ | refine EvR.lv ?_ | refine EvR.lp ?_ | refine EvR.lNp ?_ | refine EvR.pkT ?_ | refine EvR.pkF ?_ | refine EvR.lN ?_ | refine EvR.ix ?_ | refine EvR.le ?_ | refine EvR.ixo ?_ | refine EvR.l1o ?_ | refine EvR.lei ?_ | refine EvR.leb ?_ | refine EvR.lnr ?_ | refine EvR.lns ?_ | refine EvR.nt ?_ | refine EvR.lt ?_ | refine EvR.le_ ?_ | refine EvR.gt ?_ | refine EvR.ge ?_ | refine EvR.eqi ?_ | refine EvR.nei ?_ | refine EvR.add ?_ | refine EvR.sub ?_ | refine EvR.mul ?_ | refine EvR.rem ?_ | refine EvR.quo ?_ | refine EvR.nc ?_ | refine EvR.ex ?_ | refine EvR.f1 ?_ | refine EvR.fadd ?_ | refine EvR.fsub ?_ | refine EvR.fmul ?_ | refine EvR.fquo ?_ | refine EvR.flt_ ?_ | refine EvR.fle_ ?_ | refine EvR.fgt_ ?_ | refine EvR.fge_ ?_ | refine EvR.feq_ ?_ | refine EvR.fne_ ?_ | refine EvR.cv ?_ | refine EvR.cvu ?_ | refine EvR.cvf ?_ | refine EvR.cvw ?_ | refine EvR.bx ?_ | refine EvR.aNotNT ?_ | refine EvR.aNotNF ?_ | refine EvR.aUN ?_ | refine EvR.nl ?_ | refine EvR.so ?_ | (apply Ev.regionQ drk; (· exact quie)) | (apply Ev.regionN0 drk; (· exact quie)) | (apply Ev.regionA drk (by assumption); (· exact quie)) | (apply Ev.regionNA drk (by assumption); (· exact quie)) | (apply Ev.regionS0 drk; (· exact quie)) | (refine EvR.aSplB ?_ ?_ <;> (intro hb; rw [hb]; (try simp only [Bool.not_eq_true', Bool.not_eq_false', Bool.not_eq_eq_eq_not, Bool.not_true, Bool.not_false, decide_eq_true_eq, decide_eq_false_iff_not, Bool.and_eq_true, Bool.and_eq_false_iff, Bool.or_eq_true, Bool.or_eq_false_iff] at hb); (try (exfalso; omega)))) | (refine Ev.aSplB ?_ ?_ <;> (intro hb; (try rw [hb]); (try simp only [Bool.not_eq_true', Bool.not_eq_false', Bool.not_eq_eq_eq_not, Bool.not_true, Bool.not_false, decide_eq_true_eq, decide_eq_false_iff_not, Bool.and_eq_true, Bool.and_eq_false_iff, Bool.or_eq_true, Bool.or_eq_false_iff] at hb); (try (exfalso; omega)))) | (apply EvR.aS0; (· exact evc)) | (apply EvR.aN0; (· exact evc)) | (apply endS trivial; rotate_left; (· exact eva); (· rfl); try refine ⟨?_, rfl⟩) | fail)
      (apply EvR.aDyn hk; (· exact rfl); (· exact eva); (· exact  hstep x y hlt2 hlt _); (rintro _ _ ⟨rfl, rfl⟩; refine EvR.nrm ?_))
      cases hP : P x y
      · have e := cellsN_f (Q := onCell P W) (n := W * y + x) (by rw [hon]; exact hP)
        repeat' (first | apply Ev.sq | apply Ev.rg | refine Ev.aKp ?_ | apply thenQ.n | apply thenQ.e | apply thenQ.r | apply blkQ.n | apply blkQ.e | refine blkQ.x ?_ rfl | apply blkQ.r | refine Ev.aT ?_ | refine Ev.aF ?_ | apply Ev.skip | apply Ev.exit | apply Ev.ret | apply Ev.bk | refine EvR.mv ?_ | refine EvR.fa ?_ | refine EvR.l1 ?_ | refine EvR.aNotSF ?_ | refine EvR.aNotST ?_ | refine EvR.aMetT ?_ | refine EvR.aMetF ?_ | refine EvR.aUS ?_ | refine EvR.mvc ?_ | refine EvR.lv ?_ | refine EvR.lp ?_ | refine EvR.lNp ?_ | refine EvR.pkT ?_ | refine EvR.pkF ?_ | refine EvR.lN ?_ | refine EvR.ix ?_ | refine EvR.le ?_ | refine EvR.ixo ?_ | refine EvR.l1o ?_ | refine EvR.lei ?_ | refine EvR.leb ?_ | refine EvR.lnr ?_ | refine EvR.lns ?_ | refine EvR.nt ?_ | refine EvR.lt ?_ | refine EvR.le_ ?_ | refine EvR.gt ?_ | refine EvR.ge ?_ | refine EvR.eqi ?_ | refine EvR.nei ?_ | refine EvR.add ?_ | refine EvR.sub ?_ | refine EvR.mul ?_ | refine EvR.rem ?_ | refine EvR.quo ?_ | refine EvR.nc ?_ | refine EvR.ex ?_ | refine EvR.f1 ?_ | refine EvR.fadd ?_ | refine EvR.fsub ?_ | refine EvR.fmul ?_ | refine EvR.fquo ?_ | refine EvR.flt_ ?_ | refine EvR.fle_ ?_ | refine EvR.fgt_ ?_ | refine EvR.fge_ ?_ | refine EvR.feq_ ?_ | refine EvR.fne_ ?_ | refine EvR.cv ?_ | refine EvR.cvu ?_ | refine EvR.cvf ?_ | refine EvR.cvw ?_ | refine EvR.bx ?_ | refine EvR.aNotNT ?_ | refine EvR.aNotNF ?_ | refine EvR.aUN ?_ | refine EvR.nl ?_ | refine EvR.so ?_ | (apply Ev.regionQ drk; (· exact quie)) | (apply Ev.regionN0 drk; (· exact quie)) | (apply Ev.regionA drk (by assumption); (· exact quie)) | (apply Ev.regionNA drk (by assumption); (· exact quie)) | (apply Ev.regionS0 drk; (· exact quie)) | (refine EvR.aSplB ?_ ?_ <;> (intro hb; rw [hb]; (try simp only [Bool.not_eq_true', Bool.not_eq_false', Bool.not_eq_eq_eq_not, Bool.not_true, Bool.not_false, decide_eq_true_eq, decide_eq_false_iff_not, Bool.and_eq_true, Bool.and_eq_false_iff, Bool.or_eq_true, Bool.or_eq_false_iff] at hb); (try (exfalso; omega)))) | (refine Ev.aSplB ?_ ?_ <;> (intro hb; (try rw [hb]); (try simp only [Bool.not_eq_true', Bool.not_eq_false', Bool.not_eq_eq_eq_not, Bool.not_true, Bool.not_false, decide_eq_true_eq, decide_eq_false_iff_not, Bool.and_eq_true, Bool.and_eq_false_iff, Bool.or_eq_true, Bool.or_eq_false_iff] at hb); (try (exfalso; omega)))) | (apply EvR.aS0; (· exact evc)) | (apply EvR.aN0; (· exact evc)) | (apply endS trivial; rotate_left; (· exact eva); (· rfl); try refine ⟨?_, rfl⟩) | fail)
        exact ⟨(x + 1, rub2), by dsimp only; omega, by rw [← Nat.add_assoc, e]; (simp only [List.cons_append, List.nil_append, ↓fget_cons, push_cast, Nat.reduceEqDiff, reduceIte] <;> rfl), by dsimp only; rw [← Nat.add_assoc, e], by dsimp only; omega⟩
      · have e := cellsN_t (Q := onCell P W) (n := W * y + x) (by rw [hon]; exact hP)
        have e2 : (cellsN (onCell P W) (W * y + (x + 1))).length = (cellsN (onCell P W) (W * y + x)).length + 1 := by rw [← Nat.add_assoc, e]; simp
        repeat' (first | apply Ev.sq | apply Ev.rg | refine Ev.aKp ?_ | apply thenQ.n | apply thenQ.e | apply thenQ.r | apply blkQ.n | apply blkQ.e | refine blkQ.x ?_ rfl | apply blkQ.r | refine Ev.aT ?_ | refine Ev.aF ?_ | apply Ev.skip | apply Ev.exit | apply Ev.ret | apply Ev.bk | refine EvR.mv ?_ | refine EvR.fa ?_ | refine EvR.l1 ?_ | refine EvR.aNotSF ?_ | refine EvR.aNotST ?_ | refine EvR.aMetT ?_ | refine EvR.aMetF ?_ | refine EvR.aUS ?_ | refine EvR.mvc ?_ | refine EvR.lv ?_ | refine EvR.lp ?_ | refine EvR.lNp ?_ | refine EvR.pkT ?_ | refine EvR.pkF ?_ | refine EvR.lN ?_ | refine EvR.ix ?_ | refine EvR.le ?_ | refine EvR.ixo ?_ | refine EvR.l1o ?_ | refine EvR.lei ?_ | refine EvR.leb ?_ | refine EvR.lnr ?_ | refine EvR.lns ?_ | refine EvR.nt ?_ | refine EvR.lt ?_ | refine EvR.le_ ?_ | refine EvR.gt ?_ | refine EvR.ge ?_ | refine EvR.eqi ?_ | refine EvR.nei ?_ | refine EvR.add ?_ | refine EvR.sub ?_ | refine EvR.mul ?_ | refine EvR.rem ?_ | refine EvR.quo ?_ | refine EvR.nc ?_ | refine EvR.ex ?_ | refine EvR.f1 ?_ | refine EvR.fadd ?_ | refine EvR.fsub ?_ | refine EvR.fmul ?_ | refine EvR.fquo ?_ | refine EvR.flt_ ?_ | refine EvR.fle_ ?_ | refine EvR.fgt_ ?_ | refine EvR.fge_ ?_ | refine EvR.feq_ ?_ | refine EvR.fne_ ?_ | refine EvR.cv ?_ | refine EvR.cvu ?_ | refine EvR.cvf ?_ | refine EvR.cvw ?_ | refine EvR.bx ?_ | refine EvR.aNotNT ?_ | refine EvR.aNotNF ?_ | refine EvR.aUN ?_ | refine EvR.nl ?_ | refine EvR.so ?_ | (apply EvR.aCall h1.at_; (· exact eva); (· apply h1.ok <;> exact sid); (rintro _ _ ⟨rfl, rfl⟩; refine EvR.nrm ?_; try simp only [hat])) | (apply Ev.regionQ drk; (· exact quie)) | (apply Ev.regionN0 drk; (· exact quie)) | (apply Ev.regionA drk (by assumption); (· exact quie)) | (apply Ev.regionNA drk (by assumption); (· exact quie)) | (apply Ev.regionS0 drk; (· exact quie)) | (refine EvR.aSplB ?_ ?_ <;> (intro hb; rw [hb]; (try simp only [Bool.not_eq_true', Bool.not_eq_false', Bool.not_eq_eq_eq_not, Bool.not_true, Bool.not_false, decide_eq_true_eq, decide_eq_false_iff_not, Bool.and_eq_true, Bool.and_eq_false_iff, Bool.or_eq_true, Bool.or_eq_false_iff] at hb); (try (exfalso; omega)))) | (refine Ev.aSplB ?_ ?_ <;> (intro hb; (try rw [hb]); (try simp only [Bool.not_eq_true', Bool.not_eq_false', Bool.not_eq_eq_eq_not, Bool.not_true, Bool.not_false, decide_eq_true_eq, decide_eq_false_iff_not, Bool.and_eq_true, Bool.and_eq_false_iff, Bool.or_eq_true, Bool.or_eq_false_iff] at hb); (try (exfalso; omega)))) | (apply EvR.aS0; (· exact evc)) | (apply EvR.aN0; (· exact evc)) | (apply endS trivial; rotate_left; (· exact eva); (· rfl); try refine ⟨?_, rfl⟩) | fail)
        exact ⟨(x + 1, rub2 ++ [rowI [((W * y + x : Nat) : Int)]]), by dsimp only; omega, by rw [e2]; (simp only [List.cons_append, List.nil_append, ↓fget_cons, push_cast, Nat.reduceEqDiff, reduceIte] <;> rfl), by dsimp only; rw [← Nat.add_assoc, e]; rfl, by dsimp only; omega⟩
    · obtain rfl : x = W := by omega
      repeat' (first | apply Ev.sq | apply Ev.rg | refine Ev.aKp ?_ | apply thenQ.n | apply thenQ.e | apply thenQ.r | apply blkQ.n | apply blkQ.e | refine blkQ.x ?_ rfl | apply blkQ.r | refine Ev.aT ?_ | refine Ev.aF ?_ | apply Ev.skip | apply Ev.exit | apply Ev.ret | apply Ev.bk | refine EvR.mv ?_ | refine EvR.fa ?_ | refine EvR.l1 ?_ | refine EvR.aNotSF ?_ | refine EvR.aNotST ?_ | refine EvR.aMetT ?_ | refine EvR.aMetF ?_ | refine EvR.aUS ?_ | refine EvR.mvc ?_ | refine EvR.lv ?_ | refine EvR.lp ?_ | refine EvR.lNp ?_ | refine EvR.pkT ?_ | refine EvR.pkF ?_ | refine EvR.lN ?_ | refine EvR.ix ?_ | refine EvR.le ?_ | refine EvR.ixo ?_ | refine EvR.l1o ?_ | refine EvR.lei ?_ | refine EvR.leb ?_ | refine EvR.lnr ?_ | refine EvR.lns ?_ | refine EvR.nt ?_ | refine EvR.lt ?_ | refine EvR.le_ ?_ | refine EvR.gt ?_ | refine EvR.ge ?_ | refine EvR.eqi ?_ | refine EvR.nei ?_ | refine EvR.add ?_ | refine EvR.sub ?_ | refine EvR.mul ?_ | refine EvR.rem ?_ | refine EvR.quo ?_ | refine EvR.nc ?_ | refine EvR.ex ?_ | refine EvR.f1 ?_ | refine EvR.fadd ?_ | refine EvR.fsub ?_ | refine EvR.fmul ?_ | refine EvR.fquo ?_ | refine EvR.flt_ ?_ | refine EvR.fle_ ?_ | refine EvR.fgt_ ?_ | refine EvR.fge_ ?_ | refine EvR.feq_ ?_ | refine EvR.fne_ ?_ | refine EvR.cv ?_ | refine EvR.cvu ?_ | refine EvR.cvf ?_ | refine EvR.cvw ?_ | refine EvR.bx ?_ | refine EvR.aNotNT ?_ | refine EvR.aNotNF ?_ | refine EvR.aUN ?_ | refine EvR.nl ?_ | refine EvR.so ?_ | (apply Ev.regionQ drk; (· exact quie)) | (apply Ev.regionN0 drk; (· exact quie)) | (apply Ev.regionA drk (by assumption); (· exact quie)) | (apply Ev.regionNA drk (by assumption); (· exact quie)) | (apply Ev.regionS0 drk; (· exact quie)) | (refine EvR.aSplB ?_ ?_ <;> (intro hb; rw [hb]; (try simp only [Bool.not_eq_true', Bool.not_eq_false', Bool.not_eq_eq_eq_not, Bool.not_true, Bool.not_false, decide_eq_true_eq, decide_eq_false_iff_not, Bool.and_eq_true, Bool.and_eq_false_iff, Bool.or_eq_true, Bool.or_eq_false_iff] at hb); (try (exfalso; omega)))) | (refine Ev.aSplB ?_ ?_ <;> (intro hb; (try rw [hb]); (try simp only [Bool.not_eq_true', Bool.not_eq_false', Bool.not_eq_eq_eq_not, Bool.not_true, Bool.not_false, decide_eq_true_eq, decide_eq_false_iff_not, Bool.and_eq_true, Bool.and_eq_false_iff, Bool.or_eq_true, Bool.or_eq_false_iff] at hb); (try (exfalso; omega)))) | (apply EvR.aS0; (· exact evc)) | (apply EvR.aN0; (· exact evc)) | (apply endS trivial; rotate_left; (· exact eva); (· rfl); try refine ⟨?_, rfl⟩) | fail)
      exact ⟨(y + 1, rub2), by dsimp only; omega, by rw [Nat.mul_succ]; (simp only [List.cons_append, List.nil_append, ↓fget_cons, push_cast, Nat.reduceEqDiff, reduceIte] <;> rfl), by dsimp only; rw [Nat.mul_succ], by dsimp only; omega⟩
  · obtain rfl : y = H := by omega
    repeat' (first | apply Ev.sq | apply Ev.rg | refine Ev.aKp ?_ | apply thenQ.n | apply thenQ.e | apply thenQ.r | apply blkQ.n | apply blkQ.e | refine blkQ.x ?_ rfl | apply blkQ.r | refine Ev.aT ?_ | refine Ev.aF ?_ | apply Ev.skip | apply Ev.exit | apply Ev.ret | apply Ev.bk | refine EvR.mv ?_ | refine EvR.fa ?_ | refine EvR.l1 ?_ | refine EvR.aNotSF ?_ | refine EvR.aNotST ?_ | refine EvR.aMetT ?_ | refine EvR.aMetF ?_ | refine EvR.aUS ?_ | refine EvR.mvc ?_ | refine EvR.lv ?_ | refine EvR.lp ?_ | refine EvR.lNp ?_ | refine EvR.pkT ?_ | refine EvR.pkF ?_ | refine EvR.lN ?_ | refine EvR.ix ?_ | refine EvR.le ?_ | refine EvR.ixo ?_ | refine EvR.l1o ?_ | refine EvR.lei ?_ | refine EvR.leb ?_ | refine EvR.lnr ?_ | refine EvR.lns ?_ | refine EvR.nt ?_ | refine EvR.lt ?_ | refine EvR.le_ ?_ | refine EvR.gt ?_ | refine EvR.ge ?_ | refine EvR.eqi ?_ | refine EvR.nei ?_ | refine EvR.add ?_ | refine EvR.sub ?_ | refine EvR.mul ?_ | refine EvR.rem ?_ | refine EvR.quo ?_ | refine EvR.nc ?_ | refine EvR.ex ?_ | refine EvR.f1 ?_ | refine EvR.fadd ?_ | refine EvR.fsub ?_ | refine EvR.fmul ?_ | refine EvR.fquo ?_ | refine EvR.flt_ ?_ | refine EvR.fle_ ?_ | refine EvR.fgt_ ?_ | refine EvR.fge_ ?_ | refine EvR.feq_ ?_ | refine EvR.fne_ ?_ | refine EvR.cv ?_ | refine EvR.cvu ?_ | refine EvR.cvf ?_ | refine EvR.cvw ?_ | refine EvR.bx ?_ | refine EvR.aNotNT ?_ | refine EvR.aNotNF ?_ | refine EvR.aUN ?_ | refine EvR.nl ?_ | refine EvR.so ?_ | (apply Ev.regionQ drk; (· exact quie)) | (apply Ev.regionN0 drk; (· exact quie)) | (apply Ev.regionA drk (by assumption); (· exact quie)) | (apply Ev.regionNA drk (by assumption); (· exact quie)) | (apply Ev.regionS0 drk; (· exact quie)) | (refine EvR.aSplB ?_ ?_ <;> (intro hb; rw [hb]; (try simp only [Bool.not_eq_true', Bool.not_eq_false', Bool.not_eq_eq_eq_not, Bool.not_true, Bool.not_false, decide_eq_true_eq, decide_eq_false_iff_not, Bool.and_eq_true, Bool.and_eq_false_iff, Bool.or_eq_true, Bool.or_eq_false_iff] at hb); (try (exfalso; omega)))) | (refine Ev.aSplB ?_ ?_ <;> (intro hb; (try rw [hb]); (try simp only [Bool.not_eq_true', Bool.not_eq_false', Bool.not_eq_eq_eq_not, Bool.not_true, Bool.not_false, decide_eq_true_eq, decide_eq_false_iff_not, Bool.and_eq_true, Bool.and_eq_false_iff, Bool.or_eq_true, Bool.or_eq_false_iff] at hb); (try (exfalso; omega)))) | (apply EvR.aS0; (· exact evc)) | (apply EvR.aN0; (· exact evc)) | (apply endS trivial; rotate_left; (· exact eva); (· rfl); try refine ⟨?_, rfl⟩) | fail)
    (apply endR [1] trivial ⟨rfl, rfl⟩; (· exact eva); (· simp [gcTop, gcVal, gcLeaf, gcLeaves, gcVals, constOk, gc_lt, gc_lt0]); (· rfl); (· decide); (· simp [allConst, f32s, i64s, b8s, bools, constOk]))

theorem atC_bd {W H : Nat} {u v : Int} (hW : 3 ≤ W) (hH : 3 ≤ H) (u1 : -1 ≤ u) (u2 : u ≤ W) (v1 : -1 ≤ v) (v2 : v ≤ H) : 0 ≤ atC W H u v ∧ atC W H u v < ((W * H : Nat) : Int) := by
  unfold atC
  rw [wrapC (by omega) u1 u2, wrapC (by omega) v1 v2]
  obtain ⟨x, hx, ex⟩ : ∃ x : Nat, x < W ∧ (if u = -1 then (W : Int) - 1 else if u = W then 0 else u) = x := by
    refine ⟨(if u = -1 then (W : Int) - 1 else if u = W then 0 else u).toNat, ?_, ?_⟩ <;> split <;> (try split) <;> omega
  obtain ⟨y, hy, ey⟩ : ∃ y : Nat, y < H ∧ (if v = -1 then (H : Int) - 1 else if v = H then 0 else v) = y := by
    refine ⟨(if v = -1 then (H : Int) - 1 else if v = H then 0 else v).toNat, ?_, ?_⟩ <;> split <;> (try split) <;> omega
  rw [ex, ey]
  have := cell_lt hx hy
  have e : (W : Int) * (y : Int) = ((W * y : Nat) : Int) := (Int.natCast_mul _ _).symm
  omega
/-- Indices of cells and whether there are any, as results. -/
def ciRes (ok : Bool) (b : Nat) (xs : List Int) : Value := if ok = true then .tuple #[slV b xs.length, .bool true] else .tuple #[.slice none 0 0, .bool false]
def ciRows (ok : Bool) (xs : List Int) : Heap := if ok = true then [rowI xs] else []
theorem ciRes_f (b : Nat) (xs : List Int) : ciRes false b xs = .tuple #[.slice none 0 0, .bool false] := rfl
theorem ciRows_f (xs : List Int) : ciRows false xs = [] := rfl
theorem ciRes_t (b : Nat) (xs : List Int) : ciRes true b xs = .tuple #[slV b xs.length, .bool true] := rfl
theorem ciRows_t (xs : List Int) : ciRows true xs = [rowI xs] := rfl
end Go.Abs

