/- Laws of single functions: shapes that are painted. Conditions: the laws of what they call. -/
import Derived.Test.YtlfjplocffebmaaExactPaintLensL08
import Derived.Test.YtlfjplocffebmaaExactPaintLensL12
namespace Go.Abs

set_option linter.unusedSimpArgs false
set_option linter.unusedVariables false
set_option maxHeartbeats 8000000
/- loop.example/g01201/impl.areCoordinates -/
def impl_areCoordinates_r0 : List SOper := [
  ⟨(some 2), none, .mov (.const (.bool false)), 0⟩]
def impl_areCoordinates_r1 : List SOper := [
  ⟨(some 5), none, .mov (.tmp 0), 0⟩,
  ⟨(some 6), none, .len false (.tmp 5), 1⟩,
  ⟨(some 7), none, .mov (.const (.int .i64 0)), 0⟩]
def impl_areCoordinates_r2 : List SOper := [
  ⟨(some 8), none, .bin .lss .other (.tmp 7) (.tmp 6), 0⟩]
def impl_areCoordinates_r3 : List SOper := [
  ⟨(some 9), none, .indexAddrS 1 (.tmp 5) (.tmp 7), 0⟩,
  ⟨(some 10), none, .load1 (.tmp 9), 1⟩,
  ⟨(some 4), none, .mov (.tmp 10), 3⟩]
def impl_areCoordinates_r4 (i_impl_within : FuncId) : List SOper := [
  ⟨(some 11), none, .mov (.tmp 4), 0⟩,
  ⟨(some 12), none, .call (.func i_impl_within) [(.tmp 11), (.const (.int .i64 (-16))), (.const (.int .i64 32))], 1⟩,
  ⟨(some 13), none, .un .not (.tmp 12), 3⟩]
def impl_areCoordinates_r5 : List SOper := [
  ⟨(some 2), none, .mov (.const (.bool false)), 0⟩]
def impl_areCoordinates_r6 : List SOper := [
  ⟨(some 14), none, .bin .add .other (.tmp 7) (.const (.int .i64 1)), 0⟩,
  ⟨(some 7), none, .mov (.tmp 14), 1⟩]
def impl_areCoordinates_l7 (i_impl_within : FuncId) : SCode := (.kp [5, 6, 7] (.seq (.region impl_areCoordinates_r2 false) (.kp [5, 6, 7, 8] (.seq (.cond (.tmp 8) .skip (.exit 0)) (.kp [5, 6, 7] (.seq (.block 1 (.seq (.region impl_areCoordinates_r3 false) (.kp [4, 5, 6, 7] (.seq (.region (impl_areCoordinates_r4 i_impl_within) false) (.kp [5, 6, 7, 13] (.cond (.tmp 13) (.seq (.region impl_areCoordinates_r5 false) .ret) .skip)))))) (.kp [5, 6, 7] (.region impl_areCoordinates_r6 false))))))))
def impl_areCoordinates_r8 : List SOper := [
  ⟨(some 2), none, .mov (.const (.bool true)), 0⟩]
def impl_areCoordinates (i_impl_within : FuncId) : SFunc := ⟨15, [.tmp 2], (.kp [0] (.seq (.region impl_areCoordinates_r0 false) (.kp [0] (.seq (.seq (.region impl_areCoordinates_r1 false) (.kp [5, 6, 7] (.block 0 (.loop (impl_areCoordinates_l7 i_impl_within))))) (.kp [] (.seq (.region impl_areCoordinates_r8 false) .ret))))))⟩

/- loop.example/g01201/impl.areOther -/
def impl_areOther_r0 : List SOper := [
  ⟨(some 2), none, .mov (.const (.bool false)), 0⟩]
def impl_areOther_r1 : List SOper := [
  ⟨(some 5), none, .mov (.tmp 0), 0⟩,
  ⟨(some 6), none, .len false (.tmp 5), 1⟩,
  ⟨(some 7), none, .mov (.const (.int .i64 0)), 0⟩]
def impl_areOther_r2 : List SOper := [
  ⟨(some 8), none, .bin .lss .other (.tmp 7) (.tmp 6), 0⟩]
def impl_areOther_r3 : List SOper := [
  ⟨(some 9), none, .indexAddrS 1 (.tmp 5) (.tmp 7), 0⟩,
  ⟨(some 10), none, .load1 (.tmp 9), 1⟩,
  ⟨(some 4), none, .mov (.tmp 10), 3⟩]
def impl_areOther_r4 (i_impl_within : FuncId) : List SOper := [
  ⟨(some 11), none, .mov (.tmp 4), 0⟩,
  ⟨(some 12), none, .call (.func i_impl_within) [(.tmp 11), (.const (.int .i64 (-1000))), (.const (.int .i64 1000))], 1⟩,
  ⟨(some 13), none, .un .not (.tmp 12), 3⟩]
def impl_areOther_r5 : List SOper := [
  ⟨(some 2), none, .mov (.const (.bool false)), 0⟩]
def impl_areOther_r6 : List SOper := [
  ⟨(some 14), none, .bin .add .other (.tmp 7) (.const (.int .i64 1)), 0⟩,
  ⟨(some 7), none, .mov (.tmp 14), 1⟩]
def impl_areOther_l7 (i_impl_within : FuncId) : SCode := (.kp [5, 6, 7] (.seq (.region impl_areOther_r2 false) (.kp [5, 6, 7, 8] (.seq (.cond (.tmp 8) .skip (.exit 0)) (.kp [5, 6, 7] (.seq (.block 1 (.seq (.region impl_areOther_r3 false) (.kp [4, 5, 6, 7] (.seq (.region (impl_areOther_r4 i_impl_within) false) (.kp [5, 6, 7, 13] (.cond (.tmp 13) (.seq (.region impl_areOther_r5 false) .ret) .skip)))))) (.kp [5, 6, 7] (.region impl_areOther_r6 false))))))))
def impl_areOther_r8 : List SOper := [
  ⟨(some 2), none, .mov (.const (.bool true)), 0⟩]
def impl_areOther (i_impl_within : FuncId) : SFunc := ⟨15, [.tmp 2], (.kp [0] (.seq (.region impl_areOther_r0 false) (.kp [0] (.seq (.seq (.region impl_areOther_r1 false) (.kp [5, 6, 7] (.block 0 (.loop (impl_areOther_l7 i_impl_within))))) (.kp [] (.seq (.region impl_areOther_r8 false) .ret))))))⟩

/- loop.example/g01201/impl.squareTo -/
def impl_squareTo_r0 : List SOper := [
  ⟨(some 2), none, .box (.tmp 0), 0⟩,
  ⟨(some 3), none, .box (.tmp 1), 0⟩,
  ⟨(some 4), none, .mov (.const .nilFunc), 0⟩]
def impl_squareTo_r1 (i_impl_squareToC1 : FuncId) : List SOper := [
  ⟨(some 5), none, .makeFunc i_impl_squareToC1 [] [(.tmp 2), (.tmp 3)], 0⟩,
  ⟨(some 4), none, .mov (.tmp 5), 1⟩]
def impl_squareTo (i_impl_squareToC1 : FuncId) : SFunc := ⟨6, [.tmp 4], (.kp [0, 1] (.seq (.region impl_squareTo_r0 false) (.kp [2, 3] (.seq (.region (impl_squareTo_r1 i_impl_squareToC1) false) .ret))))⟩

/- loop.example/g01201/impl.squareTo$1 -/
def impl_squareToC1_r0 : List SOper := [
  ⟨(some 6), none, .mov (.const (.int .i64 0)), 0⟩]
def impl_squareToC1_r1 : List SOper := [
  ⟨(some 7), none, .mov (.tmp 0), 0⟩,
  ⟨(some 8), none, .load1 (.tmp 2), 0⟩,
  ⟨(some 9), none, .bin .sub .other (.tmp 7) (.tmp 8), 3⟩,
  ⟨(some 10), none, .mov (.tmp 0), 0⟩,
  ⟨(some 11), none, .load1 (.tmp 2), 0⟩,
  ⟨(some 12), none, .bin .sub .other (.tmp 10) (.tmp 11), 24⟩,
  ⟨(some 13), none, .bin .mul .other (.tmp 9) (.tmp 12), 63⟩,
  ⟨(some 14), none, .mov (.tmp 1), 0⟩,
  ⟨(some 15), none, .load1 (.tmp 3), 0⟩,
  ⟨(some 16), none, .bin .sub .other (.tmp 14) (.tmp 15), 384⟩,
  ⟨(some 17), none, .mov (.tmp 1), 0⟩,
  ⟨(some 18), none, .load1 (.tmp 3), 0⟩,
  ⟨(some 19), none, .bin .sub .other (.tmp 17) (.tmp 18), 3072⟩,
  ⟨(some 20), none, .bin .mul .other (.tmp 16) (.tmp 19), 8064⟩,
  ⟨(some 21), none, .bin .add .other (.tmp 13) (.tmp 20), 16383⟩,
  ⟨(some 6), none, .mov (.tmp 21), 32767⟩]
def impl_squareToC1 : SFunc := ⟨22, [.tmp 6], (.kp [0, 1, 2, 3] (.seq (.region impl_squareToC1_r0 false) (.kp [0, 1, 2, 3] (.seq (.region impl_squareToC1_r1 false) .ret))))⟩

/- loop.example/g01201/impl.PaintLens$1 -/
def impl_PaintLensC1_r0 : List SOper := [
  ⟨(some 7), none, .mov (.const (.bool false)), 0⟩]
def impl_PaintLensC1_r1 : List SOper := [
  ⟨(some 8), none, .load1 (.tmp 2), 0⟩,
  ⟨(some 9), none, .mov (.tmp 0), 0⟩,
  ⟨(some 10), none, .mov (.tmp 1), 0⟩,
  ⟨(some 11), none, .call (.tmp 8) [(.tmp 9), (.tmp 10)], 7⟩,
  ⟨(some 12), none, .load1 (.tmp 3), 0⟩,
  ⟨(some 13), none, .bin .leq .other (.tmp 11) (.tmp 12), 31⟩,
  ⟨(some 14), none, .mov (.tmp 13), 63⟩,
  ⟨(some 15), (some (14, true)), .load1 (.tmp 4), 127⟩,
  ⟨(some 16), (some (14, true)), .mov (.tmp 0), 127⟩,
  ⟨(some 17), (some (14, true)), .mov (.tmp 1), 127⟩,
  ⟨(some 18), (some (14, true)), .call (.tmp 15) [(.tmp 16), (.tmp 17)], 1023⟩,
  ⟨(some 19), (some (14, true)), .load1 (.tmp 3), 127⟩,
  ⟨(some 20), (some (14, true)), .bin .leq .other (.tmp 18) (.tmp 19), 4095⟩,
  ⟨(some 21), none, .pick (.tmp 14) (.tmp 20) (.const (.bool false)), 8191⟩,
  ⟨(some 7), none, .mov (.tmp 21), 16383⟩]
def impl_PaintLensC1 : SFunc := ⟨22, [.tmp 7], (.kp [0, 1, 2, 3, 4] (.seq (.region impl_PaintLensC1_r0 false) (.kp [0, 1, 2, 3, 4] (.seq (.region impl_PaintLensC1_r1 true) .ret))))⟩
theorem impl_PaintLensC1_r1_dr : drawOkW wNone impl_PaintLensC1_r1 = true := by kernel_rfl
attribute [push_cast] impl_PaintLensC1_r1_dr
/- loop.example/g01201/impl.painted$1 -/
def impl_paintedC1_r0 : List SOper := [
  ⟨(some 9), none, .load1 (.tmp 3), 0⟩,
  ⟨(some 10), none, .mov (.tmp 0), 0⟩,
  ⟨(some 11), none, .mov (.tmp 1), 0⟩,
  ⟨(some 12), none, .call (.tmp 9) [(.tmp 10), (.tmp 11)], 7⟩]
def impl_paintedC1_r1 : List SOper := [
  ⟨(some 13), none, .fieldAddr 3 (.tmp 5), 0⟩,
  ⟨(some 14), none, .load1 (.tmp 13), 1⟩,
  ⟨(some 15), none, .mov (.tmp 2), 0⟩,
  ⟨(some 16), none, .fieldAddr 4 (.tmp 5), 0⟩,
  ⟨(some 17), none, .load1 (.tmp 16), 8⟩,
  ⟨(some 18), none, .mov (.tmp 2), 0⟩,
  ⟨(some 19), none, .fieldAddr 0 (.tmp 4), 0⟩,
  ⟨(some 20), none, .load1 (.tmp 19), 64⟩,
  ⟨(some 21), none, .fieldAddr 1 (.tmp 4), 0⟩,
  ⟨(some 22), none, .load1 (.tmp 21), 256⟩,
  ⟨(some 23), none, .indexAddrS 1 (.tmp 14) (.tmp 15), 199⟩,
  ⟨none, none, .store 1 (.tmp 23) (.tmp 20), 1223⟩,
  ⟨(some 24), none, .indexAddrS 1 (.tmp 17) (.tmp 18), 4095⟩,
  ⟨none, none, .store 1 (.tmp 24) (.tmp 22), 8191⟩]
def impl_paintedC1 : SFunc := ⟨25, [], (.kp [0, 1, 2, 3, 4, 5] (.seq (.region impl_paintedC1_r0 false) (.kp [2, 4, 5, 12] (.cond (.tmp 12) (.region impl_paintedC1_r1 true) .skip))))⟩
theorem impl_paintedC1_r1_dr : drawOkVW wStat impl_paintedC1_r1 = true := by kernel_rfl
attribute [push_cast] impl_paintedC1_r1_dr
/- loop.example/g01201/impl.painted -/
def impl_painted_r0 : List SOper := [
  ⟨(some 3), none, .box (.tmp 0), 0⟩,
  ⟨(some 4), none, .box (.tmp 1), 0⟩,
  ⟨(some 5), none, .box (.tmp 2), 0⟩,
  ⟨(some 6), none, .alloc [(.int .i64 0), (.int .i64 0), (.bool false), (.slice none 0 0), (.slice none 0 0)], 0⟩,
  ⟨(some 7), none, .mov (.const (.bool false)), 0⟩]
def impl_painted_r1 (i_impl_ValidSheet i_impl_IsPaint : FuncId) : List SOper := [
  ⟨(some 9), none, .loadN 5 (.tmp 3), 0⟩,
  ⟨(some 10), none, .call (.func i_impl_ValidSheet) [(.tmp 9)], 1⟩,
  ⟨(some 11), none, .un .not (.tmp 10), 3⟩,
  ⟨(some 12), none, .mov (.tmp 11), 7⟩,
  ⟨(some 13), (some (12, false)), .loadN 2 (.tmp 4), 15⟩,
  ⟨(some 14), (some (12, false)), .call (.func i_impl_IsPaint) [(.tmp 13)], 31⟩,
  ⟨(some 15), (some (12, false)), .un .not (.tmp 14), 63⟩,
  ⟨(some 16), none, .pick (.tmp 12) (.const (.bool true)) (.tmp 15), 127⟩]
def impl_painted_r2 : List SOper := [
  ⟨(some 17), none, .build [(.int .i64 0), (.int .i64 0), (.bool false), (.slice none 0 0), (.slice none 0 0)] [], 0⟩,
  ⟨none, none, .store 5 (.tmp 6) (.tmp 17), 1⟩,
  ⟨(some 7), none, .mov (.const (.bool false)), 3⟩]
def impl_painted_r3 (i_impl_copySheet : FuncId) : List SOper := [
  ⟨(some 18), none, .loadN 5 (.tmp 3), 0⟩,
  ⟨(some 19), none, .call (.func i_impl_copySheet) [(.tmp 18)], 1⟩,
  ⟨(some 8), none, .alloc [(.int .i64 0), (.int .i64 0), (.bool false), (.slice none 0 0), (.slice none 0 0)], 0⟩,
  ⟨none, none, .store 5 (.tmp 8) (.tmp 19), 7⟩]
def impl_painted_r4 (i_impl_paintedC1 i_impl_Sheet_each : FuncId) : List SOper := [
  ⟨(some 20), none, .loadN 5 (.tmp 3), 0⟩,
  ⟨(some 21), none, .makeFunc i_impl_paintedC1 [] [(.tmp 5), (.tmp 4), (.tmp 8)], 0⟩,
  ⟨(some 22), none, .call (.func i_impl_Sheet_each) [(.tmp 20), (.tmp 21)], 3⟩]
def impl_painted_r5 : List SOper := [
  ⟨(some 23), none, .loadN 5 (.tmp 8), 0⟩,
  ⟨none, none, .store 5 (.tmp 6) (.tmp 23), 1⟩,
  ⟨(some 7), none, .mov (.const (.bool true)), 3⟩]
def impl_painted (i_impl_ValidSheet i_impl_IsPaint i_impl_copySheet i_impl_paintedC1 i_impl_Sheet_each : FuncId) : SFunc := ⟨24, [.cellN 6 5, .tmp 7], (.kp [0, 1, 2] (.seq (.region impl_painted_r0 false) (.kp [3, 4, 5, 6] (.seq (.seq (.region (impl_painted_r1 i_impl_ValidSheet i_impl_IsPaint) false) (.kp [3, 4, 5, 6, 16] (.cond (.tmp 16) (.seq (.region impl_painted_r2 false) .ret) .skip))) (.kp [3, 4, 5, 6] (.seq (.region (impl_painted_r3 i_impl_copySheet) false) (.kp [3, 4, 5, 6, 8] (.seq (.region (impl_painted_r4 i_impl_paintedC1 i_impl_Sheet_each) false) (.kp [6, 8] (.seq (.region impl_painted_r5 false) .ret))))))))))⟩


def areIn_ok (lo hi : Int) (c : Contract) : Prop := ∀ (σ : Heap) (v : Value) (xs : List Int), Row σ 1 v xs.length (i64s xs) → xs.length ≤ 1000 → Ret c [v] σ fun v σ' => v = .bool (xs.all fun x => inR x lo hi) ∧ σ' = σ
abbrev impl_areCoordinates_ok := areIn_ok (-16) 32
abbrev impl_areOther_ok := areIn_ok (-1000) 1000
theorem alli_getD {p : Int → Bool} : ∀ {xs : List Int}, (∀ i, i < xs.length → p (xs.getD i 0) = true) → xs.all p = true
  | [], _ => rfl
  | x :: xs, h => by
    rw [List.all_cons, Bool.and_eq_true]
    exact ⟨h 0 (by simp), alli_getD fun i hi => h (i + 1) (by simp; omega)⟩
theorem alli_getD_false {p : Int → Bool} {xs : List Int} {i : Nat} (hi : i < xs.length) (h : p (xs.getD i 0) = false) : xs.all p = false := by
  cases ha : xs.all p with
  | false => rfl
  | true =>
    have := List.all_eq_true.1 ha (xs.getD i 0) (by rw [List.getD_eq_getElem?_getD, List.getElem?_eq_getElem hi]; simp)
    rw [h] at this; cases this
theorem impl_areCoordinates_law {C : Ctab} {i : FuncId} {c : Contract} (h1 : Has C i c impl_within_ok) : impl_areCoordinates_ok (gcC C (impl_areCoordinates i) true) := by
  intro σ v xs hr hn
  refine ret_gc rfl rfl ?_
  repeat' (first | apply Ev.sq | apply Ev.rg | refine Ev.aKp ?_ | apply thenQ.n | apply thenQ.e | apply thenQ.r | apply blkQ.n | apply blkQ.e | refine blkQ.x ?_ rfl | apply blkQ.r | refine Ev.aT ?_ | refine Ev.aF ?_ | apply Ev.skip | apply Ev.exit | apply Ev.ret | apply Ev.bk | refine EvR.mv ?_ | refine EvR.fa ?_ | refine EvR.l1 ?_ | refine EvR.aNotSF ?_ | refine EvR.aNotST ?_ | refine EvR.aMetT ?_ | refine EvR.aMetF ?_ | refine EvR.aUS ?_ | refine EvR.mvc ?_ | refine EvR.lv ?_ | refine EvR.lp ?_ | refine EvR.lNp ?_ | refine EvR.pkT ?_ | refine EvR.pkF ?_ | refine EvR.lN ?_ | refine EvR.ix ?_ | refine EvR.le ?_ | refine EvR.ixo ?_ | refine EvR.l1o ?_ | refine EvR.lei ?_ | refine EvR.leb ?_ | refine EvR.lnr ?_ | refine EvR.lns ?_ | refine EvR.nt ?_ | refine EvR.lt ?_ | refine EvR.le_ ?_ | refine EvR.gt ?_ | refine EvR.ge ?_ | refine EvR.eqi ?_ | refine EvR.nei ?_ | refine EvR.add ?_ | refine EvR.sub ?_ | refine EvR.mul ?_ | refine EvR.rem ?_ | refine EvR.quo ?_ | refine EvR.nc ?_ | refine EvR.ex ?_ | refine EvR.f1 ?_ | refine EvR.fadd ?_ | refine EvR.fsub ?_ | refine EvR.fmul ?_ | refine EvR.fquo ?_ | refine EvR.flt_ ?_ | refine EvR.fle_ ?_ | refine EvR.fgt_ ?_ | refine EvR.fge_ ?_ | refine EvR.feq_ ?_ | refine EvR.fne_ ?_ | refine EvR.cv ?_ | refine EvR.cvu ?_ | refine EvR.cvf ?_ | refine EvR.cvw ?_ | refine EvR.bx ?_ | refine EvR.aNotNT ?_ | refine EvR.aNotNF ?_ | refine EvR.aUN ?_ | refine EvR.nl ?_ | refine EvR.so ?_ | (apply Ev.regionQ drk; (· exact quie)) | (apply Ev.regionN0 drk; (· exact quie)) | (apply Ev.regionA drk (by assumption); (· exact quie)) | (apply Ev.regionNA drk (by assumption); (· exact quie)) | (apply Ev.regionS0 drk; (· exact quie)) | (refine EvR.aSplB ?_ ?_ <;> (intro hb; rw [hb]; (try simp only [Bool.not_eq_true', Bool.not_eq_false', Bool.not_eq_eq_eq_not, Bool.not_true, Bool.not_false, decide_eq_true_eq, decide_eq_false_iff_not, Bool.and_eq_true, Bool.and_eq_false_iff, Bool.or_eq_true, Bool.or_eq_false_iff] at hb); (try (exfalso; omega)))) | (refine Ev.aSplB ?_ ?_ <;> (intro hb; (try rw [hb]); (try simp only [Bool.not_eq_true', Bool.not_eq_false', Bool.not_eq_eq_eq_not, Bool.not_true, Bool.not_false, decide_eq_true_eq, decide_eq_false_iff_not, Bool.and_eq_true, Bool.and_eq_false_iff, Bool.or_eq_true, Bool.or_eq_false_iff] at hb); (try (exfalso; omega)))) | (apply EvR.aS0; (· exact evc)) | (apply EvR.aN0; (· exact evc)) | (apply endS trivial; rotate_left; (· exact eva); (· rfl); try refine ⟨?_, rfl⟩) | fail)
  refine Ev.whlC (S := Nat) (fun i => xs.length - i) (fun i => [(7, .int .i64 i)]) (fun i => i ≤ xs.length ∧ ∀ j, j < i → inR (xs.getD j 0) (-16) 32 = true) 0 (by (simp only [List.cons_append, List.nil_append, ↓fget_cons, push_cast, Nat.reduceEqDiff, reduceIte] <;> rfl)) ⟨Nat.zero_le _, fun j hj => by omega⟩ ?_
  rintro i F hF ⟨hi, hp⟩
  (simp only [List.cons_append, List.nil_append, ↓fget_cons, fkeep_cons, fkeep_nil, Nat.reduceEqDiff, reduceIte] at hF; subst hF)
  by_cases hlt : i < xs.length
  · repeat' (first | apply Ev.sq | apply Ev.rg | refine Ev.aKp ?_ | apply thenQ.n | apply thenQ.e | apply thenQ.r | apply blkQ.n | apply blkQ.e | refine blkQ.x ?_ rfl | apply blkQ.r | refine Ev.aT ?_ | refine Ev.aF ?_ | apply Ev.skip | apply Ev.exit | apply Ev.ret | apply Ev.bk | refine EvR.mv ?_ | refine EvR.fa ?_ | refine EvR.l1 ?_ | refine EvR.aNotSF ?_ | refine EvR.aNotST ?_ | refine EvR.aMetT ?_ | refine EvR.aMetF ?_ | refine EvR.aUS ?_ | refine EvR.mvc ?_ | refine EvR.lv ?_ | refine EvR.lp ?_ | refine EvR.lNp ?_ | refine EvR.pkT ?_ | refine EvR.pkF ?_ | refine EvR.lN ?_ | refine EvR.ix ?_ | refine EvR.le ?_ | refine EvR.ixo ?_ | refine EvR.l1o ?_ | refine EvR.lei ?_ | refine EvR.leb ?_ | refine EvR.lnr ?_ | refine EvR.lns ?_ | refine EvR.nt ?_ | refine EvR.lt ?_ | refine EvR.le_ ?_ | refine EvR.gt ?_ | refine EvR.ge ?_ | refine EvR.eqi ?_ | refine EvR.nei ?_ | refine EvR.add ?_ | refine EvR.sub ?_ | refine EvR.mul ?_ | refine EvR.rem ?_ | refine EvR.quo ?_ | refine EvR.nc ?_ | refine EvR.ex ?_ | refine EvR.f1 ?_ | refine EvR.fadd ?_ | refine EvR.fsub ?_ | refine EvR.fmul ?_ | refine EvR.fquo ?_ | refine EvR.flt_ ?_ | refine EvR.fle_ ?_ | refine EvR.fgt_ ?_ | refine EvR.fge_ ?_ | refine EvR.feq_ ?_ | refine EvR.fne_ ?_ | refine EvR.cv ?_ | refine EvR.cvu ?_ | refine EvR.cvf ?_ | refine EvR.cvw ?_ | refine EvR.bx ?_ | refine EvR.aNotNT ?_ | refine EvR.aNotNF ?_ | refine EvR.aUN ?_ | refine EvR.nl ?_ | refine EvR.so ?_ | (apply EvR.aCall h1.at_; (· exact eva); (· apply h1.ok <;> exact sid); (rintro _ _ ⟨rfl, rfl⟩; refine EvR.nrm ?_)) | (apply Ev.regionQ drk; (· exact quie)) | (apply Ev.regionN0 drk; (· exact quie)) | (apply Ev.regionA drk (by assumption); (· exact quie)) | (apply Ev.regionNA drk (by assumption); (· exact quie)) | (apply Ev.regionS0 drk; (· exact quie)) | (refine EvR.aSplB ?_ ?_ <;> (intro hb; rw [hb]; (try simp only [Bool.not_eq_true', Bool.not_eq_false', Bool.not_eq_eq_eq_not, Bool.not_true, Bool.not_false, decide_eq_true_eq, decide_eq_false_iff_not, Bool.and_eq_true, Bool.and_eq_false_iff, Bool.or_eq_true, Bool.or_eq_false_iff] at hb); (try (exfalso; omega)))) | (refine Ev.aSplB ?_ ?_ <;> (intro hb; (try rw [hb]); (try simp only [Bool.not_eq_true', Bool.not_eq_false', Bool.not_eq_eq_eq_not, Bool.not_true, Bool.not_false, decide_eq_true_eq, decide_eq_false_iff_not, Bool.and_eq_true, Bool.and_eq_false_iff, Bool.or_eq_true, Bool.or_eq_false_iff] at hb); (try (exfalso; omega)))) | (apply EvR.aS0; (· exact evc)) | (apply EvR.aN0; (· exact evc)) | (apply endS trivial; rotate_left; (· exact eva); (· rfl); try refine ⟨?_, rfl⟩) | fail)
    · rw [alli_getD_false hlt (by assumption)]
    · refine ⟨i + 1, by omega, by (simp only [List.cons_append, List.nil_append, ↓fget_cons, push_cast, Nat.reduceEqDiff, reduceIte] <;> rfl), rfl, by omega, fun j hj => ?_⟩
      rcases Nat.lt_or_ge j i with hji | hji
      · exact hp j hji
      · obtain rfl : j = i := by omega
        assumption
  · repeat' (first | apply Ev.sq | apply Ev.rg | refine Ev.aKp ?_ | apply thenQ.n | apply thenQ.e | apply thenQ.r | apply blkQ.n | apply blkQ.e | refine blkQ.x ?_ rfl | apply blkQ.r | refine Ev.aT ?_ | refine Ev.aF ?_ | apply Ev.skip | apply Ev.exit | apply Ev.ret | apply Ev.bk | refine EvR.mv ?_ | refine EvR.fa ?_ | refine EvR.l1 ?_ | refine EvR.aNotSF ?_ | refine EvR.aNotST ?_ | refine EvR.aMetT ?_ | refine EvR.aMetF ?_ | refine EvR.aUS ?_ | refine EvR.mvc ?_ | refine EvR.lv ?_ | refine EvR.lp ?_ | refine EvR.lNp ?_ | refine EvR.pkT ?_ | refine EvR.pkF ?_ | refine EvR.lN ?_ | refine EvR.ix ?_ | refine EvR.le ?_ | refine EvR.ixo ?_ | refine EvR.l1o ?_ | refine EvR.lei ?_ | refine EvR.leb ?_ | refine EvR.lnr ?_ | refine EvR.lns ?_ | refine EvR.nt ?_ | refine EvR.lt ?_ | refine EvR.le_ ?_ | refine EvR.gt ?_ | refine EvR.ge ?_ | refine EvR.eqi ?_ | refine EvR.nei ?_ | refine EvR.add ?_ | refine EvR.sub ?_ | refine EvR.mul ?_ | refine EvR.rem ?_ | refine EvR.quo ?_ | refine EvR.nc ?_ | refine EvR.ex ?_ | refine EvR.f1 ?_ | refine EvR.fadd ?_ | refine EvR.fsub ?_ | refine EvR.fmul ?_ | refine EvR.fquo ?_ | refine EvR.flt_ ?_ | refine EvR.fle_ ?_ | refine EvR.fgt_ ?_ | refine EvR.fge_ ?_ | refine EvR.feq_ ?_ | refine EvR.fne_ ?_ | refine EvR.cv ?_ | refine EvR.cvu ?_ | refine EvR.cvf ?_ | refine EvR.cvw ?_ | refine EvR.bx ?_ | refine EvR.aNotNT ?_ | refine EvR.aNotNF ?_ | refine EvR.aUN ?_ | refine EvR.nl ?_ | refine EvR.so ?_ | (apply Ev.regionQ drk; (· exact quie)) | (apply Ev.regionN0 drk; (· exact quie)) | (apply Ev.regionA drk (by assumption); (· exact quie)) | (apply Ev.regionNA drk (by assumption); (· exact quie)) | (apply Ev.regionS0 drk; (· exact quie)) | (refine EvR.aSplB ?_ ?_ <;> (intro hb; rw [hb]; (try simp only [Bool.not_eq_true', Bool.not_eq_false', Bool.not_eq_eq_eq_not, Bool.not_true, Bool.not_false, decide_eq_true_eq, decide_eq_false_iff_not, Bool.and_eq_true, Bool.and_eq_false_iff, Bool.or_eq_true, Bool.or_eq_false_iff] at hb); (try (exfalso; omega)))) | (refine Ev.aSplB ?_ ?_ <;> (intro hb; (try rw [hb]); (try simp only [Bool.not_eq_true', Bool.not_eq_false', Bool.not_eq_eq_eq_not, Bool.not_true, Bool.not_false, decide_eq_true_eq, decide_eq_false_iff_not, Bool.and_eq_true, Bool.and_eq_false_iff, Bool.or_eq_true, Bool.or_eq_false_iff] at hb); (try (exfalso; omega)))) | (apply EvR.aS0; (· exact evc)) | (apply EvR.aN0; (· exact evc)) | (apply endS trivial; rotate_left; (· exact eva); (· rfl); try refine ⟨?_, rfl⟩) | fail)
    rw [alli_getD fun j hj => hp j (by omega)]
theorem impl_areOther_law {C : Ctab} {i : FuncId} {c : Contract} (h1 : Has C i c impl_within_ok) : impl_areOther_ok (gcC C (impl_areOther i) true) := by
  intro σ v xs hr hn
  refine ret_gc rfl rfl ?_
  repeat' (first | apply Ev.sq | apply Ev.rg | refine Ev.aKp ?_ | apply thenQ.n | apply thenQ.e | apply thenQ.r | apply blkQ.n | apply blkQ.e | refine blkQ.x ?_ rfl | apply blkQ.r | refine Ev.aT ?_ | refine Ev.aF ?_ | apply Ev.skip | apply Ev.exit | apply Ev.ret | apply Ev.bk | refine EvR.mv ?_ | refine EvR.fa ?_ | refine EvR.l1 ?_ | refine EvR.aNotSF ?_ | refine EvR.aNotST ?_ | refine EvR.aMetT ?_ | refine EvR.aMetF ?_ | refine EvR.aUS ?_ | refine EvR.mvc ?_ | refine EvR.lv ?_ | refine EvR.lp ?_ | refine EvR.lNp ?_ | refine EvR.pkT ?_ | refine EvR.pkF ?_ | refine EvR.lN ?_ | refine EvR.ix ?_ | refine EvR.le ?_ | refine EvR.ixo ?_ | refine EvR.l1o ?_ | refine EvR.lei ?_ | refine EvR.leb ?_ | refine EvR.lnr ?_ | refine EvR.lns ?_ | refine EvR.nt ?_ | refine EvR.lt ?_ | refine EvR.le_ ?_ | refine EvR.gt ?_ | refine EvR.ge ?_ | refine EvR.eqi ?_ | refine EvR.nei ?_ | refine EvR.add ?_ | refine EvR.sub ?_ | refine EvR.mul ?_ | refine EvR.rem ?_ | refine EvR.quo ?_ | refine EvR.nc ?_ | refine EvR.ex ?_ | refine EvR.f1 ?_ | refine EvR.fadd ?_ | refine EvR.fsub ?_ | refine EvR.fmul ?_ | refine EvR.fquo ?_ | refine EvR.flt_ ?_ | refine EvR.fle_ ?_ | refine EvR.fgt_ ?_ | refine EvR.fge_ ?_ | refine EvR.feq_ ?_ | refine EvR.fne_ ?_ | refine EvR.cv ?_ | refine EvR.cvu ?_ | refine EvR.cvf ?_ | refine EvR.cvw ?_ | refine EvR.bx ?_ | refine EvR.aNotNT ?_ | refine EvR.aNotNF ?_ | refine EvR.aUN ?_ | refine EvR.nl ?_ | refine EvR.so ?_ | (apply Ev.regionQ drk; (· exact quie)) | (apply Ev.regionN0 drk; (· exact quie)) | (apply Ev.regionA drk (by assumption); (· exact quie)) | (apply Ev.regionNA drk (by assumption); (· exact quie)) | (apply Ev.regionS0 drk; (· exact quie)) | (refine EvR.aSplB ?_ ?_ <;> (intro hb; rw [hb]; (try simp only [Bool.not_eq_true', Bool.not_eq_false', Bool.not_eq_eq_eq_not, Bool.not_true, Bool.not_false, decide_eq_true_eq, decide_eq_false_iff_not, Bool.and_eq_true, Bool.and_eq_false_iff, Bool.or_eq_true, Bool.or_eq_false_iff] at hb); (try (exfalso; omega)))) | (refine Ev.aSplB ?_ ?_ <;> (intro hb; (try rw [hb]); (try simp only [Bool.not_eq_true', Bool.not_eq_false', Bool.not_eq_eq_eq_not, Bool.not_true, Bool.not_false, decide_eq_true_eq, decide_eq_false_iff_not, Bool.and_eq_true, Bool.and_eq_false_iff, Bool.or_eq_true, Bool.or_eq_false_iff] at hb); (try (exfalso; omega)))) | (apply EvR.aS0; (· exact evc)) | (apply EvR.aN0; (· exact evc)) | (apply endS trivial; rotate_left; (· exact eva); (· rfl); try refine ⟨?_, rfl⟩) | fail)
  refine Ev.whlC (S := Nat) (fun i => xs.length - i) (fun i => [(7, .int .i64 i)]) (fun i => i ≤ xs.length ∧ ∀ j, j < i → inR (xs.getD j 0) (-1000) 1000 = true) 0 (by (simp only [List.cons_append, List.nil_append, ↓fget_cons, push_cast, Nat.reduceEqDiff, reduceIte] <;> rfl)) ⟨Nat.zero_le _, fun j hj => by omega⟩ ?_
  rintro i F hF ⟨hi, hp⟩
  (simp only [List.cons_append, List.nil_append, ↓fget_cons, fkeep_cons, fkeep_nil, Nat.reduceEqDiff, reduceIte] at hF; subst hF)
  by_cases hlt : i < xs.length
  · repeat' (first | apply Ev.sq | apply Ev.rg | refine Ev.aKp ?_ | apply thenQ.n | apply thenQ.e | apply thenQ.r | apply blkQ.n | apply blkQ.e | refine blkQ.x ?_ rfl | apply blkQ.r | refine Ev.aT ?_ | refine Ev.aF ?_ | apply Ev.skip | apply Ev.exit | apply Ev.ret | apply Ev.bk | refine EvR.mv ?_ | refine EvR.fa ?_ | refine EvR.l1 ?_ | refine EvR.aNotSF ?_ | refine EvR.aNotST ?_ | refine EvR.aMetT ?_ | refine EvR.aMetF ?_ | refine EvR.aUS ?_ | refine EvR.mvc ?_ | refine EvR.lv ?_ | refine EvR.lp ?_ | refine EvR.lNp ?_ | refine EvR.pkT ?_ | refine EvR.pkF ?_ | refine EvR.lN ?_ | refine EvR.ix ?_ | refine EvR.le ?_ | refine EvR.ixo ?_ | refine EvR.l1o ?_ | refine EvR.lei ?_ | refine EvR.leb ?_ | refine EvR.lnr ?_ | refine EvR.lns ?_ | refine EvR.nt ?_ | refine EvR.lt ?_ | refine EvR.le_ ?_ | refine EvR.gt ?_ | refine EvR.ge ?_ | refine EvR.eqi ?_ | refine EvR.nei ?_ | refine EvR.add ?_ | refine EvR.sub ?_ | refine EvR.mul ?_ | refine EvR.rem ?_ | refine EvR.quo ?_ | refine EvR.nc ?_ | refine EvR.ex ?_ | refine EvR.f1 ?_ | refine EvR.fadd ?_ | refine EvR.fsub ?_ | refine EvR.fmul ?_ | refine EvR.fquo ?_ | refine EvR.flt_ ?_ | refine EvR.fle_ ?_ | refine EvR.fgt_ ?_ | refine EvR.fge_ ?_ | refine EvR.feq_ ?_ | refine EvR.fne_ ?_ | refine EvR.cv ?_ | refine EvR.cvu ?_ | refine EvR.cvf ?_ | refine EvR.cvw ?_ | refine EvR.bx ?_ | refine EvR.aNotNT ?_ | refine EvR.aNotNF ?_ | refine EvR.aUN ?_ | refine EvR.nl ?_ | refine EvR.so ?_ | (apply EvR.aCall h1.at_; (· exact eva); (· apply h1.ok <;> exact sid); (rintro _ _ ⟨rfl, rfl⟩; refine EvR.nrm ?_)) | (apply Ev.regionQ drk; (· exact quie)) | (apply Ev.regionN0 drk; (· exact quie)) | (apply Ev.regionA drk (by assumption); (· exact quie)) | (apply Ev.regionNA drk (by assumption); (· exact quie)) | (apply Ev.regionS0 drk; (· exact quie)) | (refine EvR.aSplB ?_ ?_ <;> (intro hb; rw [hb]; (try simp only [Bool.not_eq_true', Bool.not_eq_false', Bool.not_eq_eq_eq_not, Bool.not_true, Bool.not_false, decide_eq_true_eq, decide_eq_false_iff_not, Bool.and_eq_true, Bool.and_eq_false_iff, Bool.or_eq_true, Bool.or_eq_false_iff] at hb); (try (exfalso; omega)))) | (refine Ev.aSplB ?_ ?_ <;> (intro hb; (try rw [hb]); (try simp only [Bool.not_eq_true', Bool.not_eq_false', Bool.not_eq_eq_eq_not, Bool.not_true, Bool.not_false, decide_eq_true_eq, decide_eq_false_iff_not, Bool.and_eq_true, Bool.and_eq_false_iff, Bool.or_eq_true, Bool.or_eq_false_iff] at hb); (try (exfalso; omega)))) | (apply EvR.aS0; (· exact evc)) | (apply EvR.aN0; (· exact evc)) | (apply endS trivial; rotate_left; (· exact eva); (· rfl); try refine ⟨?_, rfl⟩) | fail)
    · rw [alli_getD_false hlt (by assumption)]
    · refine ⟨i + 1, by omega, by (simp only [List.cons_append, List.nil_append, ↓fget_cons, push_cast, Nat.reduceEqDiff, reduceIte] <;> rfl), rfl, by omega, fun j hj => ?_⟩
      rcases Nat.lt_or_ge j i with hji | hji
      · exact hp j hji
      · obtain rfl : j = i := by omega
        assumption
  · repeat' (first | apply Ev.sq | apply Ev.rg | refine Ev.aKp ?_ | apply thenQ.n | apply thenQ.e | apply thenQ.r | apply blkQ.n | apply blkQ.e | refine blkQ.x ?_ rfl | apply blkQ.r | refine Ev.aT ?_ | refine Ev.aF ?_ | apply Ev.skip | apply Ev.exit | apply Ev.ret | apply Ev.bk | refine EvR.mv ?_ | refine EvR.fa ?_ | refine EvR.l1 ?_ | refine EvR.aNotSF ?_ | refine EvR.aNotST ?_ | refine EvR.aMetT ?_ | refine EvR.aMetF ?_ | refine EvR.aUS ?_ | refine EvR.mvc ?_ | refine EvR.lv ?_ | refine EvR.lp ?_ | refine EvR.lNp ?_ | refine EvR.pkT ?_ | refine EvR.pkF ?_ | refine EvR.lN ?_ | refine EvR.ix ?_ | refine EvR.le ?_ | refine EvR.ixo ?_ | refine EvR.l1o ?_ | refine EvR.lei ?_ | refine EvR.leb ?_ | refine EvR.lnr ?_ | refine EvR.lns ?_ | refine EvR.nt ?_ | refine EvR.lt ?_ | refine EvR.le_ ?_ | refine EvR.gt ?_ | refine EvR.ge ?_ | refine EvR.eqi ?_ | refine EvR.nei ?_ | refine EvR.add ?_ | refine EvR.sub ?_ | refine EvR.mul ?_ | refine EvR.rem ?_ | refine EvR.quo ?_ | refine EvR.nc ?_ | refine EvR.ex ?_ | refine EvR.f1 ?_ | refine EvR.fadd ?_ | refine EvR.fsub ?_ | refine EvR.fmul ?_ | refine EvR.fquo ?_ | refine EvR.flt_ ?_ | refine EvR.fle_ ?_ | refine EvR.fgt_ ?_ | refine EvR.fge_ ?_ | refine EvR.feq_ ?_ | refine EvR.fne_ ?_ | refine EvR.cv ?_ | refine EvR.cvu ?_ | refine EvR.cvf ?_ | refine EvR.cvw ?_ | refine EvR.bx ?_ | refine EvR.aNotNT ?_ | refine EvR.aNotNF ?_ | refine EvR.aUN ?_ | refine EvR.nl ?_ | refine EvR.so ?_ | (apply Ev.regionQ drk; (· exact quie)) | (apply Ev.regionN0 drk; (· exact quie)) | (apply Ev.regionA drk (by assumption); (· exact quie)) | (apply Ev.regionNA drk (by assumption); (· exact quie)) | (apply Ev.regionS0 drk; (· exact quie)) | (refine EvR.aSplB ?_ ?_ <;> (intro hb; rw [hb]; (try simp only [Bool.not_eq_true', Bool.not_eq_false', Bool.not_eq_eq_eq_not, Bool.not_true, Bool.not_false, decide_eq_true_eq, decide_eq_false_iff_not, Bool.and_eq_true, Bool.and_eq_false_iff, Bool.or_eq_true, Bool.or_eq_false_iff] at hb); (try (exfalso; omega)))) | (refine Ev.aSplB ?_ ?_ <;> (intro hb; (try rw [hb]); (try simp only [Bool.not_eq_true', Bool.not_eq_false', Bool.not_eq_eq_eq_not, Bool.not_true, Bool.not_false, decide_eq_true_eq, decide_eq_false_iff_not, Bool.and_eq_true, Bool.and_eq_false_iff, Bool.or_eq_true, Bool.or_eq_false_iff] at hb); (try (exfalso; omega)))) | (apply EvR.aS0; (· exact evc)) | (apply EvR.aN0; (· exact evc)) | (apply endS trivial; rotate_left; (· exact eva); (· rfl); try refine ⟨?_, rfl⟩) | fail)
    rw [alli_getD fun j hj => hp j (by omega)]

theorem sq_bd (d : Int) (h1 : -64 ≤ d) (h2 : d ≤ 64) : 0 ≤ d * d ∧ d * d ≤ 4096 := by
  constructor
  · rcases Int.le_total 0 d with h | h
    · exact Int.mul_nonneg h h
    · exact Int.mul_nonneg_of_nonpos_of_nonpos h h
  · rcases Int.le_total 0 d with h | h
    · exact Int.le_trans (Int.mul_le_mul h2 h2 h (by omega)) (by omega)
    · have : (-d) * (-d) ≤ 64 * 64 := Int.mul_le_mul (by omega) (by omega) (by omega) (by omega)
      rw [Int.neg_mul_neg] at this
      omega
/-- The square of a distance. -/
def dist (x y u v : Int) : Int := (u - x) * (u - x) + (v - y) * (v - y)
abbrev varI (n : Int) : AObj := ⟨[.int .i64 n], 0, true⟩

def impl_squareTo_ok (k : FuncId) (c : Contract) : Prop := ∀ (σ : Heap) (x y : Int), Ret c [.int .i64 x, .int .i64 y] σ fun v σ' => v = .func (.func k) #[] #[.pointer (some ⟨σ.length + 0, 0, none⟩), .pointer (some ⟨σ.length + 1, 0, none⟩)] ∧ σ' = σ ++ [varI x, varI y]
theorem impl_squareTo_law {C : Ctab} {k : FuncId} : impl_squareTo_ok k (bodyC C (impl_squareTo k) true) := by
  intro σ x y
  refine ret_bd rfl rfl ?_
  repeat' (first | apply Ev.sq | apply Ev.rg | refine Ev.aKp ?_ | apply thenQ.n | apply thenQ.e | apply thenQ.r | apply blkQ.n | apply blkQ.e | refine blkQ.x ?_ rfl | apply blkQ.r | refine Ev.aT ?_ | refine Ev.aF ?_ | apply Ev.skip | apply Ev.exit | apply Ev.ret | apply Ev.bk | refine EvR.mv ?_ | refine EvR.fa ?_ | refine EvR.l1 ?_ | refine EvR.aNotSF ?_ | refine EvR.aNotST ?_ | refine EvR.aMetT ?_ | refine EvR.aMetF ?_ | refine EvR.aUS ?_ | refine EvR.mvc ?_ | refine EvR.lv ?_ | refine EvR.lp ?_ | refine EvR.lNp ?_ | refine EvR.pkT ?_ | refine EvR.pkF ?_ | refine EvR.lN ?_ | refine EvR.ix ?_ | refine EvR.le ?_ | refine EvR.ixo ?_ | refine EvR.l1o ?_ | refine EvR.lei ?_ | refine EvR.leb ?_ | refine EvR.lnr ?_ | refine EvR.lns ?_ | refine EvR.nt ?_ | refine EvR.lt ?_ | refine EvR.le_ ?_ | refine EvR.gt ?_ | refine EvR.ge ?_ | refine EvR.eqi ?_ | refine EvR.nei ?_ | refine EvR.add ?_ | refine EvR.sub ?_ | refine EvR.mul ?_ | refine EvR.rem ?_ | refine EvR.quo ?_ | refine EvR.nc ?_ | refine EvR.ex ?_ | refine EvR.f1 ?_ | refine EvR.fadd ?_ | refine EvR.fsub ?_ | refine EvR.fmul ?_ | refine EvR.fquo ?_ | refine EvR.flt_ ?_ | refine EvR.fle_ ?_ | refine EvR.fgt_ ?_ | refine EvR.fge_ ?_ | refine EvR.feq_ ?_ | refine EvR.fne_ ?_ | refine EvR.cv ?_ | refine EvR.cvu ?_ | refine EvR.cvf ?_ | refine EvR.cvw ?_ | refine EvR.bx ?_ | refine EvR.aNotNT ?_ | refine EvR.aNotNF ?_ | refine EvR.aUN ?_ | refine EvR.nl ?_ | refine EvR.so ?_ | (apply Ev.regionQ drk; (· exact quie)) | (apply Ev.regionN0 drk; (· exact quie)) | (apply Ev.regionA drk (by assumption); (· exact quie)) | (apply Ev.regionNA drk (by assumption); (· exact quie)) | (apply Ev.regionS0 drk; (· exact quie)) | (refine EvR.aSplB ?_ ?_ <;> (intro hb; rw [hb]; (try simp only [Bool.not_eq_true', Bool.not_eq_false', Bool.not_eq_eq_eq_not, Bool.not_true, Bool.not_false, decide_eq_true_eq, decide_eq_false_iff_not, Bool.and_eq_true, Bool.and_eq_false_iff, Bool.or_eq_true, Bool.or_eq_false_iff] at hb); (try (exfalso; omega)))) | (refine Ev.aSplB ?_ ?_ <;> (intro hb; (try rw [hb]); (try simp only [Bool.not_eq_true', Bool.not_eq_false', Bool.not_eq_eq_eq_not, Bool.not_true, Bool.not_false, decide_eq_true_eq, decide_eq_false_iff_not, Bool.and_eq_true, Bool.and_eq_false_iff, Bool.or_eq_true, Bool.or_eq_false_iff] at hb); (try (exfalso; omega)))) | (apply EvR.aS0; (· exact evc)) | (apply EvR.aN0; (· exact evc)) | (apply endS trivial; rotate_left; (· exact eva); (· rfl); try refine ⟨?_, rfl⟩) | fail)
  (apply endB trivial; (· exact eva))
  exact ⟨rfl, rfl⟩
def impl_squareToC1_ok (c : Contract) : Prop := ∀ (σ : Heap) (px py : Nat) (x y u v : Int), σ[px]? = some (varI x) → σ[py]? = some (varI y) → -16 ≤ x → x ≤ 32 → -16 ≤ y → y ≤ 32 → 0 ≤ u → u ≤ 16 → 0 ≤ v → v ≤ 16 →
    Ret c [.int .i64 u, .int .i64 v, .pointer (some ⟨px, 0, none⟩), .pointer (some ⟨py, 0, none⟩)] σ fun r σ' => r = .int .i64 (dist x y u v) ∧ σ' = σ
theorem impl_squareToC1_law {C : Ctab} : impl_squareToC1_ok (gcC C impl_squareToC1 true) := by
  intro σ px py x y u v hx hy x1 x2 y1 y2 u1 u2 v1 v2
  have p1 := PtAt.whole hx
  have p2 := PtAt.whole hy
  have q1 := sq_bd (u - x) (by omega) (by omega)
  have q2 := sq_bd (v - y) (by omega) (by omega)
  refine ret_gc rfl rfl ?_
  repeat' (first | apply Ev.sq | apply Ev.rg | refine Ev.aKp ?_ | apply thenQ.n | apply thenQ.e | apply thenQ.r | apply blkQ.n | apply blkQ.e | refine blkQ.x ?_ rfl | apply blkQ.r | refine Ev.aT ?_ | refine Ev.aF ?_ | apply Ev.skip | apply Ev.exit | apply Ev.ret | apply Ev.bk | refine EvR.mv ?_ | refine EvR.fa ?_ | refine EvR.l1 ?_ | refine EvR.aNotSF ?_ | refine EvR.aNotST ?_ | refine EvR.aMetT ?_ | refine EvR.aMetF ?_ | refine EvR.aUS ?_ | refine EvR.mvc ?_ | refine EvR.lv ?_ | refine EvR.lp ?_ | refine EvR.lNp ?_ | refine EvR.pkT ?_ | refine EvR.pkF ?_ | refine EvR.lN ?_ | refine EvR.ix ?_ | refine EvR.le ?_ | refine EvR.ixo ?_ | refine EvR.l1o ?_ | refine EvR.lei ?_ | refine EvR.leb ?_ | refine EvR.lnr ?_ | refine EvR.lns ?_ | refine EvR.nt ?_ | refine EvR.lt ?_ | refine EvR.le_ ?_ | refine EvR.gt ?_ | refine EvR.ge ?_ | refine EvR.eqi ?_ | refine EvR.nei ?_ | refine EvR.add ?_ | refine EvR.sub ?_ | refine EvR.mul ?_ | refine EvR.rem ?_ | refine EvR.quo ?_ | refine EvR.nc ?_ | refine EvR.ex ?_ | refine EvR.f1 ?_ | refine EvR.fadd ?_ | refine EvR.fsub ?_ | refine EvR.fmul ?_ | refine EvR.fquo ?_ | refine EvR.flt_ ?_ | refine EvR.fle_ ?_ | refine EvR.fgt_ ?_ | refine EvR.fge_ ?_ | refine EvR.feq_ ?_ | refine EvR.fne_ ?_ | refine EvR.cv ?_ | refine EvR.cvu ?_ | refine EvR.cvf ?_ | refine EvR.cvw ?_ | refine EvR.bx ?_ | refine EvR.aNotNT ?_ | refine EvR.aNotNF ?_ | refine EvR.aUN ?_ | refine EvR.nl ?_ | refine EvR.so ?_ | (apply Ev.regionQ drk; (· exact quie)) | (apply Ev.regionN0 drk; (· exact quie)) | (apply Ev.regionA drk (by assumption); (· exact quie)) | (apply Ev.regionNA drk (by assumption); (· exact quie)) | (apply Ev.regionS0 drk; (· exact quie)) | (refine EvR.aSplB ?_ ?_ <;> (intro hb; rw [hb]; (try simp only [Bool.not_eq_true', Bool.not_eq_false', Bool.not_eq_eq_eq_not, Bool.not_true, Bool.not_false, decide_eq_true_eq, decide_eq_false_iff_not, Bool.and_eq_true, Bool.and_eq_false_iff, Bool.or_eq_true, Bool.or_eq_false_iff] at hb); (try (exfalso; omega)))) | (refine Ev.aSplB ?_ ?_ <;> (intro hb; (try rw [hb]); (try simp only [Bool.not_eq_true', Bool.not_eq_false', Bool.not_eq_eq_eq_not, Bool.not_true, Bool.not_false, decide_eq_true_eq, decide_eq_false_iff_not, Bool.and_eq_true, Bool.and_eq_false_iff, Bool.or_eq_true, Bool.or_eq_false_iff] at hb); (try (exfalso; omega)))) | (apply EvR.aS0; (· exact evc)) | (apply EvR.aN0; (· exact evc)) | (apply endS trivial; rotate_left; (· exact eva); (· rfl); try refine ⟨?_, rfl⟩) | fail)
  all_goals rfl
end Go.Abs

