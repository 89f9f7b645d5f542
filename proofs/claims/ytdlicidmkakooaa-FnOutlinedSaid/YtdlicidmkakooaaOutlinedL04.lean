/- Laws of single functions: cells of sheets, comparisons of rows. Conditions: the laws of what they call. -/
import Derived.Test.YtdlicidmkakooaaOutlinedL03
namespace Go.Abs

set_option linter.unusedSimpArgs false
set_option linter.unusedVariables false
set_option maxHeartbeats 8000000
/- (loop.example/g01201/impl.Sheet).isCell -/
def impl_Sheet_isCell_r0 : List SOper := [
 ⟨some 3, none, .box (.tmp 0), 0⟩,
 ⟨some 6, none, .mov (.const (.bool false)), 0⟩]
def impl_Sheet_isCell_r1 (i_impl_within : FuncId) : List SOper := [
 ⟨some 7, none, .mov (.tmp 1), 0⟩,
 ⟨some 8, none, .fieldAddr 0 (.tmp 3), 0⟩,
 ⟨some 9, none, .load1 (.tmp 8), 2⟩,
 ⟨some 10, none, .bin .sub .other (.tmp 9) (.const (.int .i64 1)), 6⟩,
 ⟨some 11, none, .call (.func i_impl_within) [(.tmp 7), (.const (.int .i64 0)), (.tmp 10)], 15⟩,
 ⟨some 12, none, .mov (.tmp 11), 31⟩,
  ⟨(some 13), (some (12, true)), .mov (.tmp 2), 63⟩,
  ⟨(some 14), (some (12, true)), .fieldAddr 1 (.tmp 3), 63⟩,
  ⟨(some 15), (some (12, true)), .load1 (.tmp 14), 191⟩,
  ⟨(some 16), (some (12, true)), .bin .sub .other (.tmp 15) (.const (.int .i64 1)), 447⟩,
  ⟨(some 17), (some (12, true)), .call (.func i_impl_within) [(.tmp 13), (.const (.int .i64 0)), (.tmp 16)], 1023⟩,
 ⟨some 18, none, .pick (.tmp 12) (.tmp 17) (.const (.bool false)), 2047⟩,
 ⟨some 6, none, .mov (.tmp 18), 4095⟩]
def impl_Sheet_isCell (i_impl_within : FuncId) : SFunc := ⟨19, [.tmp 6], (.kp [0,1,2] (.seq (.region impl_Sheet_isCell_r0 false) (.kp [1,2,3] (.seq (.region (impl_Sheet_isCell_r1 i_impl_within) false) .ret))))⟩

/- loop.example/g01201/impl.isValidCell -/
def impl_isValidCell_r0 : List SOper := [
 ⟨some 3, none, .box (.tmp 0), 0⟩,
 ⟨some 6, none, .mov (.const (.bool false)), 0⟩]
def impl_isValidCell_r1 (i_impl_ValidSheet i_impl_Sheet_isCell : FuncId) : List SOper := [
 ⟨some 7, none, .loadN 5 (.tmp 3), 0⟩,
 ⟨some 8, none, .call (.func i_impl_ValidSheet) [(.tmp 7)], 1⟩,
 ⟨some 9, none, .mov (.tmp 8), 3⟩,
  ⟨(some 10), (some (9, true)), .loadN 5 (.tmp 3), 7⟩,
  ⟨(some 11), (some (9, true)), .mov (.tmp 1), 7⟩,
  ⟨(some 12), (some (9, true)), .mov (.tmp 2), 7⟩,
  ⟨(some 13), (some (9, true)), .call (.func i_impl_Sheet_isCell) [(.tmp 10), (.tmp 11), (.tmp 12)], 63⟩,
 ⟨some 14, none, .pick (.tmp 9) (.tmp 13) (.const (.bool false)), 127⟩,
 ⟨some 6, none, .mov (.tmp 14), 255⟩]
def impl_isValidCell (i_impl_ValidSheet i_impl_Sheet_isCell : FuncId) : SFunc := ⟨15, [.tmp 6], (.kp [0,1,2] (.seq (.region impl_isValidCell_r0 false) (.kp [1,2,3] (.seq (.region (impl_isValidCell_r1 i_impl_ValidSheet i_impl_Sheet_isCell) false) .ret))))⟩

/- (loop.example/g01201/impl.Sheet).at -/
def impl_Sheet_at_r0 : List SOper := [
 ⟨some 3, none, .box (.tmp 0), 0⟩,
 ⟨some 6, none, .mov (.const (.int .i64 0)), 0⟩]
def impl_Sheet_at_r1 : List SOper := [
 ⟨some 7, none, .mov (.tmp 1), 0⟩,
 ⟨some 8, none, .fieldAddr 0 (.tmp 3), 0⟩,
 ⟨some 9, none, .load1 (.tmp 8), 2⟩,
 ⟨some 10, none, .bin .add .other (.tmp 7) (.tmp 9), 7⟩,
 ⟨some 11, none, .fieldAddr 0 (.tmp 3), 0⟩,
 ⟨some 12, none, .load1 (.tmp 11), 16⟩,
 ⟨some 13, none, .bin .rem .other (.tmp 10) (.tmp 12), 63⟩,
 ⟨some 14, none, .fieldAddr 0 (.tmp 3), 0⟩,
 ⟨some 15, none, .load1 (.tmp 14), 128⟩,
 ⟨some 16, none, .mov (.tmp 2), 0⟩,
 ⟨some 17, none, .fieldAddr 1 (.tmp 3), 0⟩,
 ⟨some 18, none, .load1 (.tmp 17), 1024⟩,
 ⟨some 19, none, .bin .add .other (.tmp 16) (.tmp 18), 3584⟩,
 ⟨some 20, none, .fieldAddr 1 (.tmp 3), 0⟩,
 ⟨some 21, none, .load1 (.tmp 20), 8192⟩,
 ⟨some 22, none, .bin .rem .other (.tmp 19) (.tmp 21), 32256⟩,
 ⟨some 23, none, .bin .mul .other (.tmp 15) (.tmp 22), 65408⟩,
 ⟨some 24, none, .bin .add .other (.tmp 13) (.tmp 23), 131071⟩,
 ⟨some 6, none, .mov (.tmp 24), 262143⟩]
def impl_Sheet_at : SFunc := ⟨25, [.tmp 6], (.kp [0,1,2] (.seq (.region impl_Sheet_at_r0 false) (.kp [1,2,3] (.seq (.region impl_Sheet_at_r1 true) .ret))))⟩
theorem impl_Sheet_at_r1_dr : drawOkW wStat impl_Sheet_at_r1 = true := by kernel_rfl
attribute [push_cast] impl_Sheet_at_r1_dr
theorem isSheet_sides {w h : Int} {sp lo : List Nat} (hs : isSheet w h sp lo = true) : 3 ≤ w ∧ w ≤ 16 ∧ 3 ≤ h ∧ h ≤ 16 ∧ (sp.length : Int) = w * h ∧ (lo.length : Int) = w * h := by
  simp [isSheet, sides, inR] at hs
  omega

def impl_Sheet_isCell_ok (c : Contract) : Prop := ∀ (σ : Heap) (w h : Int) (wr : Bool) (sv lv : Value) (x y : Int), cellOk sv = true → cellOk lv = true → 3 ≤ w → w ≤ 16 → 3 ≤ h → h ≤ 16 →
    Ret c [shV w h wr sv lv, .int .i64 x, .int .i64 y] σ fun v σ' => v = .bool (inR x 0 (w - 1) && inR y 0 (h - 1)) ∧ σ' = σ
theorem impl_Sheet_isCell_law {C : Ctab} {i : FuncId} {c : Contract} (h1 : Has C i c impl_within_ok) : impl_Sheet_isCell_ok (gcC C (impl_Sheet_isCell i) true) := by
  intro σ w h wr sv lv x y k1 k2 a1 a2 a3 a4
  have o1 := cells_ok k1
  have o2 := cells_ok k2
  refine ret_gc rfl rfl ?_
  repeat (first | (first | (apply EvR.movT; (· simp only [fget_cons, Nat.reduceEqDiff, reduceIte] <;> with_reducible rfl)) | (apply EvR.opS; (· simp (disch := omega) only [push_cast, Nat.reduceEqDiff, reduceIte, Nat.reduceAdd, Nat.reduceLeDiff, shV, k1, k2, o1, o2] <;> with_reducible rfl)) | (apply EvR.opN; (· simp (disch := omega) only [push_cast, Nat.reduceEqDiff, reduceIte, Nat.reduceAdd, Nat.reduceLeDiff, shV, k1, k2, o1, o2] <;> with_reducible rfl))) | (first | (apply EvR.opSF; (· simp only [fget_cons, Nat.reduceEqDiff, reduceIte] <;> with_reducible rfl); (· first | rfl | (simp only [shV, k1, k2, o1, o2] <;> with_reducible rfl))) | (apply EvR.opNF; (· simp only [fget_cons, Nat.reduceEqDiff, reduceIte] <;> with_reducible rfl); (· first | rfl | (simp only [shV, k1, k2, o1, o2] <;> with_reducible rfl)))) | (first | (apply EvR.movTT; (· simp only [fget_cons, Nat.reduceEqDiff, reduceIte] <;> with_reducible rfl); (· first | rfl | (simp only [shV, k1, k2, o1, o2] <;> with_reducible rfl)); (· simp only [fget_cons, Nat.reduceEqDiff, reduceIte] <;> with_reducible rfl)) | (apply EvR.opST; (· simp only [fget_cons, Nat.reduceEqDiff, reduceIte] <;> with_reducible rfl); (· first | rfl | (simp only [shV, k1, k2, o1, o2] <;> with_reducible rfl)); (· simp (disch := omega) only [push_cast, Nat.reduceEqDiff, reduceIte, Nat.reduceAdd, Nat.reduceLeDiff, shV, k1, k2, o1, o2] <;> with_reducible rfl)) | (apply EvR.opNT; (· simp only [fget_cons, Nat.reduceEqDiff, reduceIte] <;> with_reducible rfl); (· first | rfl | (simp only [shV, k1, k2, o1, o2] <;> with_reducible rfl)); (· simp (disch := omega) only [push_cast, Nat.reduceEqDiff, reduceIte, Nat.reduceAdd, Nat.reduceLeDiff, shV, k1, k2, o1, o2] <;> with_reducible rfl))) | (apply EvR.opSU; (· simp only [fget_cons, Nat.reduceEqDiff, reduceIte] <;> with_reducible rfl)) | (apply EvR.opNU; (· simp only [fget_cons, Nat.reduceEqDiff, reduceIte] <;> with_reducible rfl)) | (refine EvR.nil ?_; try dsimp only) | (apply Ev.kp; (· simp only [push_cast, Nat.reduceEqDiff, reduceIte, Nat.reduceAdd, Nat.reduceLeDiff] <;> with_reducible rfl)) | (refine Ev.seq ?_) | (refine Ev.region ?_) | (apply Ev.regionQ; (· kernel_rfl); (· exact trivial)) | (apply Ev.condT; (· simp (disch := omega) only [push_cast, Nat.reduceEqDiff, reduceIte, Nat.reduceAdd, Nat.reduceLeDiff, shV, k1, k2, o1, o2] <;> with_reducible rfl)) | (apply Ev.condF; (· simp (disch := omega) only [push_cast, Nat.reduceEqDiff, reduceIte, Nat.reduceAdd, Nat.reduceLeDiff, shV, k1, k2, o1, o2] <;> with_reducible rfl)) | (refine Ev.skip ?_; try dsimp only) | (refine Ev.exit ?_; try dsimp only) | (refine Ev.block ?_) | (refine Ev.ret ?_; try dsimp only))
  (apply EvR.callF h1.at_; (· simp only [push_cast, Nat.reduceEqDiff, reduceIte, Nat.reduceAdd, Nat.reduceLeDiff] <;> with_reducible rfl); (· exact  h1.ok _ _ _ _); (· intro _; simp only [push_cast, Nat.reduceEqDiff, reduceIte, Nat.reduceAdd, Nat.reduceLeDiff] <;> with_reducible rfl); rintro _ _ ⟨rfl, rfl⟩; try dsimp only)
  cases hx : inR x 0 (w - 1)
  · repeat (first | (first | (apply EvR.movT; (· simp only [fget_cons, Nat.reduceEqDiff, reduceIte] <;> with_reducible rfl)) | (apply EvR.opS; (· simp (disch := omega) only [push_cast, Nat.reduceEqDiff, reduceIte, Nat.reduceAdd, Nat.reduceLeDiff, shV, k1, k2, o1, o2] <;> with_reducible rfl)) | (apply EvR.opN; (· simp (disch := omega) only [push_cast, Nat.reduceEqDiff, reduceIte, Nat.reduceAdd, Nat.reduceLeDiff, shV, k1, k2, o1, o2] <;> with_reducible rfl))) | (first | (apply EvR.opSF; (· simp only [fget_cons, Nat.reduceEqDiff, reduceIte] <;> with_reducible rfl); (· first | rfl | (simp only [shV, k1, k2, o1, o2] <;> with_reducible rfl))) | (apply EvR.opNF; (· simp only [fget_cons, Nat.reduceEqDiff, reduceIte] <;> with_reducible rfl); (· first | rfl | (simp only [shV, k1, k2, o1, o2] <;> with_reducible rfl)))) | (first | (apply EvR.movTT; (· simp only [fget_cons, Nat.reduceEqDiff, reduceIte] <;> with_reducible rfl); (· first | rfl | (simp only [shV, k1, k2, o1, o2] <;> with_reducible rfl)); (· simp only [fget_cons, Nat.reduceEqDiff, reduceIte] <;> with_reducible rfl)) | (apply EvR.opST; (· simp only [fget_cons, Nat.reduceEqDiff, reduceIte] <;> with_reducible rfl); (· first | rfl | (simp only [shV, k1, k2, o1, o2] <;> with_reducible rfl)); (· simp (disch := omega) only [push_cast, Nat.reduceEqDiff, reduceIte, Nat.reduceAdd, Nat.reduceLeDiff, shV, k1, k2, o1, o2] <;> with_reducible rfl)) | (apply EvR.opNT; (· simp only [fget_cons, Nat.reduceEqDiff, reduceIte] <;> with_reducible rfl); (· first | rfl | (simp only [shV, k1, k2, o1, o2] <;> with_reducible rfl)); (· simp (disch := omega) only [push_cast, Nat.reduceEqDiff, reduceIte, Nat.reduceAdd, Nat.reduceLeDiff, shV, k1, k2, o1, o2] <;> with_reducible rfl))) | (apply EvR.opSU; (· simp only [fget_cons, Nat.reduceEqDiff, reduceIte] <;> with_reducible rfl)) | (apply EvR.opNU; (· simp only [fget_cons, Nat.reduceEqDiff, reduceIte] <;> with_reducible rfl)) | (refine EvR.nil ?_; try dsimp only) | (apply Ev.kp; (· simp only [push_cast, Nat.reduceEqDiff, reduceIte, Nat.reduceAdd, Nat.reduceLeDiff] <;> with_reducible rfl)) | (refine Ev.seq ?_) | (refine Ev.region ?_) | (apply Ev.regionQ; (· kernel_rfl); (· exact trivial)) | (apply Ev.condT; (· simp (disch := omega) only [push_cast, Nat.reduceEqDiff, reduceIte, Nat.reduceAdd, Nat.reduceLeDiff, shV, k1, k2, o1, o2] <;> with_reducible rfl)) | (apply Ev.condF; (· simp (disch := omega) only [push_cast, Nat.reduceEqDiff, reduceIte, Nat.reduceAdd, Nat.reduceLeDiff, shV, k1, k2, o1, o2] <;> with_reducible rfl)) | (refine Ev.skip ?_; try dsimp only) | (refine Ev.exit ?_; try dsimp only) | (refine Ev.block ?_) | (refine Ev.ret ?_; try dsimp only))
    ((first | apply Ev.retE | apply atEnd_ret | apply atEnd_normal); (· simp only [push_cast, Nat.reduceEqDiff, reduceIte, Nat.reduceAdd, Nat.reduceLeDiff] <;> with_reducible rfl)); refine end_scalar rfl ?_
    exact ⟨rfl, rfl⟩
  · repeat (first | (first | (apply EvR.movT; (· simp only [fget_cons, Nat.reduceEqDiff, reduceIte] <;> with_reducible rfl)) | (apply EvR.opS; (· simp (disch := omega) only [push_cast, Nat.reduceEqDiff, reduceIte, Nat.reduceAdd, Nat.reduceLeDiff, shV, k1, k2, o1, o2] <;> with_reducible rfl)) | (apply EvR.opN; (· simp (disch := omega) only [push_cast, Nat.reduceEqDiff, reduceIte, Nat.reduceAdd, Nat.reduceLeDiff, shV, k1, k2, o1, o2] <;> with_reducible rfl))) | (first | (apply EvR.opSF; (· simp only [fget_cons, Nat.reduceEqDiff, reduceIte] <;> with_reducible rfl); (· first | rfl | (simp only [shV, k1, k2, o1, o2] <;> with_reducible rfl))) | (apply EvR.opNF; (· simp only [fget_cons, Nat.reduceEqDiff, reduceIte] <;> with_reducible rfl); (· first | rfl | (simp only [shV, k1, k2, o1, o2] <;> with_reducible rfl)))) | (first | (apply EvR.movTT; (· simp only [fget_cons, Nat.reduceEqDiff, reduceIte] <;> with_reducible rfl); (· first | rfl | (simp only [shV, k1, k2, o1, o2] <;> with_reducible rfl)); (· simp only [fget_cons, Nat.reduceEqDiff, reduceIte] <;> with_reducible rfl)) | (apply EvR.opST; (· simp only [fget_cons, Nat.reduceEqDiff, reduceIte] <;> with_reducible rfl); (· first | rfl | (simp only [shV, k1, k2, o1, o2] <;> with_reducible rfl)); (· simp (disch := omega) only [push_cast, Nat.reduceEqDiff, reduceIte, Nat.reduceAdd, Nat.reduceLeDiff, shV, k1, k2, o1, o2] <;> with_reducible rfl)) | (apply EvR.opNT; (· simp only [fget_cons, Nat.reduceEqDiff, reduceIte] <;> with_reducible rfl); (· first | rfl | (simp only [shV, k1, k2, o1, o2] <;> with_reducible rfl)); (· simp (disch := omega) only [push_cast, Nat.reduceEqDiff, reduceIte, Nat.reduceAdd, Nat.reduceLeDiff, shV, k1, k2, o1, o2] <;> with_reducible rfl))) | (apply EvR.opSU; (· simp only [fget_cons, Nat.reduceEqDiff, reduceIte] <;> with_reducible rfl)) | (apply EvR.opNU; (· simp only [fget_cons, Nat.reduceEqDiff, reduceIte] <;> with_reducible rfl)) | (refine EvR.nil ?_; try dsimp only) | (apply Ev.kp; (· simp only [push_cast, Nat.reduceEqDiff, reduceIte, Nat.reduceAdd, Nat.reduceLeDiff] <;> with_reducible rfl)) | (refine Ev.seq ?_) | (refine Ev.region ?_) | (apply Ev.regionQ; (· kernel_rfl); (· exact trivial)) | (apply Ev.condT; (· simp (disch := omega) only [push_cast, Nat.reduceEqDiff, reduceIte, Nat.reduceAdd, Nat.reduceLeDiff, shV, k1, k2, o1, o2] <;> with_reducible rfl)) | (apply Ev.condF; (· simp (disch := omega) only [push_cast, Nat.reduceEqDiff, reduceIte, Nat.reduceAdd, Nat.reduceLeDiff, shV, k1, k2, o1, o2] <;> with_reducible rfl)) | (refine Ev.skip ?_; try dsimp only) | (refine Ev.exit ?_; try dsimp only) | (refine Ev.block ?_) | (refine Ev.ret ?_; try dsimp only))
    (apply EvR.callFT; (· simp only [fget_cons, Nat.reduceEqDiff, reduceIte] <;> with_reducible rfl); (· rfl); (· exact h1.at_); (· simp only [push_cast, Nat.reduceEqDiff, reduceIte, Nat.reduceAdd, Nat.reduceLeDiff] <;> with_reducible rfl); (· exact  h1.ok _ _ _ _); (· intro _; simp only [push_cast, Nat.reduceEqDiff, reduceIte, Nat.reduceAdd, Nat.reduceLeDiff] <;> with_reducible rfl); rintro _ _ ⟨rfl, rfl⟩; try dsimp only)
    repeat (first | (first | (apply EvR.movT; (· simp only [fget_cons, Nat.reduceEqDiff, reduceIte] <;> with_reducible rfl)) | (apply EvR.opS; (· simp (disch := omega) only [push_cast, Nat.reduceEqDiff, reduceIte, Nat.reduceAdd, Nat.reduceLeDiff, shV, k1, k2, o1, o2] <;> with_reducible rfl)) | (apply EvR.opN; (· simp (disch := omega) only [push_cast, Nat.reduceEqDiff, reduceIte, Nat.reduceAdd, Nat.reduceLeDiff, shV, k1, k2, o1, o2] <;> with_reducible rfl))) | (first | (apply EvR.opSF; (· simp only [fget_cons, Nat.reduceEqDiff, reduceIte] <;> with_reducible rfl); (· first | rfl | (simp only [shV, k1, k2, o1, o2] <;> with_reducible rfl))) | (apply EvR.opNF; (· simp only [fget_cons, Nat.reduceEqDiff, reduceIte] <;> with_reducible rfl); (· first | rfl | (simp only [shV, k1, k2, o1, o2] <;> with_reducible rfl)))) | (first | (apply EvR.movTT; (· simp only [fget_cons, Nat.reduceEqDiff, reduceIte] <;> with_reducible rfl); (· first | rfl | (simp only [shV, k1, k2, o1, o2] <;> with_reducible rfl)); (· simp only [fget_cons, Nat.reduceEqDiff, reduceIte] <;> with_reducible rfl)) | (apply EvR.opST; (· simp only [fget_cons, Nat.reduceEqDiff, reduceIte] <;> with_reducible rfl); (· first | rfl | (simp only [shV, k1, k2, o1, o2] <;> with_reducible rfl)); (· simp (disch := omega) only [push_cast, Nat.reduceEqDiff, reduceIte, Nat.reduceAdd, Nat.reduceLeDiff, shV, k1, k2, o1, o2] <;> with_reducible rfl)) | (apply EvR.opNT; (· simp only [fget_cons, Nat.reduceEqDiff, reduceIte] <;> with_reducible rfl); (· first | rfl | (simp only [shV, k1, k2, o1, o2] <;> with_reducible rfl)); (· simp (disch := omega) only [push_cast, Nat.reduceEqDiff, reduceIte, Nat.reduceAdd, Nat.reduceLeDiff, shV, k1, k2, o1, o2] <;> with_reducible rfl))) | (apply EvR.opSU; (· simp only [fget_cons, Nat.reduceEqDiff, reduceIte] <;> with_reducible rfl)) | (apply EvR.opNU; (· simp only [fget_cons, Nat.reduceEqDiff, reduceIte] <;> with_reducible rfl)) | (refine EvR.nil ?_; try dsimp only) | (apply Ev.kp; (· simp only [push_cast, Nat.reduceEqDiff, reduceIte, Nat.reduceAdd, Nat.reduceLeDiff] <;> with_reducible rfl)) | (refine Ev.seq ?_) | (refine Ev.region ?_) | (apply Ev.regionQ; (· kernel_rfl); (· exact trivial)) | (apply Ev.condT; (· simp (disch := omega) only [push_cast, Nat.reduceEqDiff, reduceIte, Nat.reduceAdd, Nat.reduceLeDiff, shV, k1, k2, o1, o2] <;> with_reducible rfl)) | (apply Ev.condF; (· simp (disch := omega) only [push_cast, Nat.reduceEqDiff, reduceIte, Nat.reduceAdd, Nat.reduceLeDiff, shV, k1, k2, o1, o2] <;> with_reducible rfl)) | (refine Ev.skip ?_; try dsimp only) | (refine Ev.exit ?_; try dsimp only) | (refine Ev.block ?_) | (refine Ev.ret ?_; try dsimp only))
    ((first | apply Ev.retE | apply atEnd_ret | apply atEnd_normal); (· simp only [push_cast, Nat.reduceEqDiff, reduceIte, Nat.reduceAdd, Nat.reduceLeDiff] <;> with_reducible rfl)); refine end_scalar rfl ?_
    exact ⟨rfl, rfl⟩

def isCellOf (w h : Int) (sp lo : List Nat) (x y : Int) : Bool := isSheet w h sp lo && (inR x 0 (w - 1) && inR y 0 (h - 1))
def impl_isValidCell_ok (c : Contract) : Prop := ∀ (σ : Heap) (w h : Int) (wr : Bool) (sv lv : Value) (sp lo : List Nat) (x y : Int), ShR σ sv lv sp lo → sp.length ≤ 1048576 → lo.length ≤ 1048576 →
    Ret c [shV w h wr sv lv, .int .i64 x, .int .i64 y] σ fun v σ' => v = .bool (isCellOf w h sp lo x y) ∧ σ' = σ
theorem impl_isValidCell_law {C : Ctab} {i j : FuncId} {c d : Contract} (h1 : Has C i c impl_ValidSheet_ok) (h2 : Has C j d impl_Sheet_isCell_ok) : impl_isValidCell_ok (gcC C (impl_isValidCell i j) true) := by
  intro σ w h wr sv lv sp lo x y ⟨r1, r2⟩ hn1 hn2
  have k1 := r1.ok
  have k2 := r2.ok
  unfold isCellOf
  cases hs : isSheet w h sp lo
  · refine ret_gc rfl rfl ?_
    repeat' (first | refine ff ?_ | (apply EvR.aCall h1.at_; (· exact eva); (· apply h1.ok <;> exact sid); (rintro _ _ ⟨rfl, rfl⟩; refine EvR.nrm ?_; try simp only [hs])) | ((first | refine sR ?_ ?_ | refine sC ?_ ?_) <;> (intro hb; (try rw [hb]); (try simp only [bb] at hb); (try (exfalso; first | omega | exact hb trivial)))) | (apply endS trivial; rotate_left; (· exact eva); (· rfl); try refine ⟨?_, rfl⟩) | fail)
    all_goals (try rfl)
  · obtain ⟨a1, a2, a3, a4, _, _⟩ := isSheet_sides hs
    refine ret_gc rfl rfl ?_
    repeat' (first | refine ff ?_ | (apply EvR.aCall h1.at_; (· exact eva); (· apply h1.ok <;> exact sid); (rintro _ _ ⟨rfl, rfl⟩; refine EvR.nrm ?_; try simp only [hs])) | (apply EvR.aCall h2.at_; (· exact eva); (· apply h2.ok <;> exact sid); (rintro _ _ ⟨rfl, rfl⟩; refine EvR.nrm ?_; try simp only [hs])) | ((first | refine sR ?_ ?_ | refine sC ?_ ?_) <;> (intro hb; (try rw [hb]); (try simp only [bb] at hb); (try (exfalso; first | omega | exact hb trivial)))) | (apply endS trivial; rotate_left; (· exact eva); (· rfl); try refine ⟨?_, rfl⟩) | fail)
    all_goals (try rfl)


/-- The index of a cell, around the edges. -/
def atC (w h x y : Int) : Int := (x + w).tmod w + w * ((y + h).tmod h)
theorem tmod_bd (a : Int) {b : Int} (h1 : 3 ≤ b) : -b < a.tmod b ∧ a.tmod b < b := ⟨by have := Int.lt_tmod_of_pos a (show 0 < b by omega); omega, Int.tmod_lt_of_pos a (by omega)⟩
theorem mul_bd {w t : Int} (h1 : 3 ≤ w) (h2 : w ≤ 16) (h3 : -16 ≤ t) (h4 : t ≤ 16) : -256 ≤ w * t ∧ w * t ≤ 256 := by
  constructor
  · have : w * (-t) ≤ 16 * 16 := Int.le_trans (Int.mul_le_mul_of_nonneg_left (by omega : -t ≤ 16) (by omega)) (by omega)
    rw [Int.mul_neg] at this
    omega
  · exact Int.le_trans (Int.mul_le_mul_of_nonneg_left h4 (by omega)) (by omega)
def impl_Sheet_at_ok (c : Contract) : Prop := ∀ (σ : Heap) (w h : Int) (wr : Bool) (sv lv : Value) (x y : Int), cellOk sv = true → cellOk lv = true → 3 ≤ w → w ≤ 16 → 3 ≤ h → h ≤ 16 → -1000 ≤ x → x ≤ 1000 → -1000 ≤ y → y ≤ 1000 →
    Ret c [shV w h wr sv lv, .int .i64 x, .int .i64 y] σ fun v σ' => v = .int .i64 (atC w h x y) ∧ σ' = σ
theorem impl_Sheet_at_law {C : Ctab} : impl_Sheet_at_ok (gcC C impl_Sheet_at true) := by
  intro σ w h wr sv lv x y k1 k2 a1 a2 a3 a4 b1 b2 b3 b4
  have t1 := tmod_bd (x + w) a1
  have t2 := tmod_bd (y + h) a3
  have t3 := mul_bd a1 a2 (t := (y + h).tmod h) (by omega) (by omega)
  unfold atC
  refine ret_gc rfl rfl ?_
  repeat' (first | refine ff ?_ | ((first | refine sR ?_ ?_ | refine sC ?_ ?_) <;> (intro hb; (try rw [hb]); (try simp only [bb] at hb); (try (exfalso; first | omega | exact hb trivial)))) | (apply endS trivial; rotate_left; (· exact eva); (· rfl); try refine ⟨?_, rfl⟩) | fail)
  all_goals (try rfl)


end Go.Abs

