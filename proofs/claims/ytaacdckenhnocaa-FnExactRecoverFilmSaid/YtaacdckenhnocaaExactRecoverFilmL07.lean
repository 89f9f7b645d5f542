/- Laws of single functions: rows that are copied, marked and held. Conditions: the laws of what they call. -/
import Derived.Test.YtaacdckenhnocaaExactRecoverFilmL04
import Derived.Test.YtaacdckenhnocaaExactRecoverFilmWvMF
namespace Go.Abs

set_option linter.unusedSimpArgs false
set_option linter.unusedVariables false
set_option maxHeartbeats 8000000
/- loop.example/g01201/impl.copyOf -/
def impl_copyOf_r0 : List SOper := [
 ⟨some 2, none, .mov (.const (.slice none 0 0)), 0⟩]
def impl_copyOf_r1 : List SOper := [
 ⟨some 3, none, .buildSlice 1 0 [] [], 0⟩,
 ⟨some 4, none, .mov (.tmp 0), 0⟩,
 ⟨some 5, none, .append 1 4 (.tmp 3) (.tmp 4), 3⟩,
 ⟨some 2, none, .mov (.tmp 5), 7⟩]
def impl_copyOf : SFunc := ⟨6, [.tmp 2], (.kp [0] (.seq (.region impl_copyOf_r0 false) (.kp [0] (.seq (.region impl_copyOf_r1 false) .ret))))⟩

/- loop.example/g01201/laws.markFloat32S -/
def laws_markFloat32S_r0 : List SOper := [
 ⟨some 4, none, .mov (.const (.int .i64 0)), 0⟩]
def laws_markFloat32S_r1 : List SOper := [
 ⟨some 5, none, .mov (.const (.int .i64 0)), 0⟩]
def laws_markFloat32S_r2 : List SOper := [
 ⟨some 6, none, .mov (.tmp 5), 0⟩,
 ⟨some 7, none, .mov (.tmp 0), 0⟩,
 ⟨some 8, none, .len false (.tmp 7), 2⟩,
 ⟨some 9, none, .bin .lss .other (.tmp 6) (.tmp 8), 7⟩]
def laws_markFloat32S_r3 : List SOper := [
 ⟨some 12, none, .mov (.tmp 0), 0⟩,
 ⟨some 13, none, .mov (.tmp 5), 0⟩,
 ⟨some 14, none, .mov (.tmp 1), 0⟩,
 ⟨some 15, none, .conv (.toFloat .f32) (.tmp 14), 4⟩,
 ⟨some 16, none, .indexAddrS 1 (.tmp 12) (.tmp 13), 15⟩,
 ⟨none, none, .store 1 (.tmp 16) (.tmp 15), 31⟩]
def laws_markFloat32S_r4 : List SOper := [
 ⟨some 17, none, .mov (.tmp 1), 0⟩,
 ⟨some 18, none, .bin .add .other (.tmp 17) (.const (.int .i64 1)), 1⟩,
 ⟨some 1, none, .mov (.tmp 18), 3⟩]
def laws_markFloat32S_r5 : List SOper := [
 ⟨some 10, none, .mov (.tmp 5), 0⟩,
 ⟨some 11, none, .bin .add .other (.tmp 10) (.const (.int .i64 1)), 1⟩,
 ⟨some 5, none, .mov (.tmp 11), 3⟩]
def laws_markFloat32S_l6 : SCode := (.kp [0,1,5] (.seq (.seq (.region laws_markFloat32S_r2 false) (.kp [0,1,5,9] (.cond (.tmp 9) .skip (.exit 0)))) (.kp [0,1,5] (.seq (.block 1 (.seq (.region laws_markFloat32S_r3 false) (.kp [0,1,5] (.region laws_markFloat32S_r4 false)))) (.kp [0,1,5] (.region laws_markFloat32S_r5 false))))))
def laws_markFloat32S_r7 : List SOper := [
 ⟨some 19, none, .mov (.tmp 1), 0⟩,
 ⟨some 4, none, .mov (.tmp 19), 1⟩]
def laws_markFloat32S : SFunc := ⟨20, [.tmp 4], (.kp [0,1] (.seq (.region laws_markFloat32S_r0 false) (.kp [0,1] (.seq (.seq (.region laws_markFloat32S_r1 false) (.kp [0,1,5] (.block 0 (.loop laws_markFloat32S_l6)))) (.kp [1] (.seq (.region laws_markFloat32S_r7 false) .ret))))))⟩

/- loop.example/g01201/laws.markSheet -/
def laws_markSheet_r0 : List SOper := [
 ⟨some 2, none, .box (.tmp 0), 0⟩,
 ⟨some 4, none, .mov (.const (.int .i64 0)), 0⟩]
def laws_markSheet_r1 (i_laws_markFloat32S : FuncId) : List SOper := [
 ⟨some 5, none, .fieldAddr 3 (.tmp 2), 0⟩,
 ⟨some 6, none, .load1 (.tmp 5), 1⟩,
 ⟨some 7, none, .mov (.tmp 1), 0⟩,
 ⟨some 8, none, .call (.func i_laws_markFloat32S) [(.tmp 6), (.tmp 7)], 7⟩,
 ⟨some 1, none, .mov (.tmp 8), 15⟩]
def laws_markSheet_r2 (i_laws_markFloat32S : FuncId) : List SOper := [
 ⟨some 9, none, .fieldAddr 4 (.tmp 2), 0⟩,
 ⟨some 10, none, .load1 (.tmp 9), 1⟩,
 ⟨some 11, none, .mov (.tmp 1), 0⟩,
 ⟨some 12, none, .call (.func i_laws_markFloat32S) [(.tmp 10), (.tmp 11)], 7⟩,
 ⟨some 1, none, .mov (.tmp 12), 15⟩]
def laws_markSheet_r3 : List SOper := [
 ⟨some 13, none, .mov (.tmp 1), 0⟩,
 ⟨some 4, none, .mov (.tmp 13), 1⟩]
def laws_markSheet (i_laws_markFloat32S : FuncId) : SFunc := ⟨14, [.tmp 4], (.kp [0,1] (.seq (.region laws_markSheet_r0 false) (.kp [1,2] (.seq (.region (laws_markSheet_r1 i_laws_markFloat32S) false) (.kp [1,2] (.seq (.region (laws_markSheet_r2 i_laws_markFloat32S) false) (.kp [1] (.seq (.region laws_markSheet_r3 false) .ret))))))))⟩

/- loop.example/g01201/laws.heldFloat32S -/
def laws_heldFloat32S_r0 : List SOper := [
 ⟨some 4, none, .mov (.const (.int .i64 0)), 0⟩]
def laws_heldFloat32S_r1 : List SOper := [
 ⟨some 5, none, .mov (.const (.int .i64 0)), 0⟩]
def laws_heldFloat32S_r2 : List SOper := [
 ⟨some 6, none, .mov (.tmp 5), 0⟩,
 ⟨some 7, none, .mov (.tmp 0), 0⟩,
 ⟨some 8, none, .len false (.tmp 7), 2⟩,
 ⟨some 9, none, .bin .lss .other (.tmp 6) (.tmp 8), 7⟩]
def laws_heldFloat32S_r3 : List SOper := [
 ⟨some 12, none, .mov (.tmp 0), 0⟩,
 ⟨some 13, none, .mov (.tmp 5), 0⟩,
 ⟨some 14, none, .indexAddrS 1 (.tmp 12) (.tmp 13), 3⟩,
 ⟨some 15, none, .load1 (.tmp 14), 7⟩,
 ⟨some 16, none, .mov (.tmp 1), 0⟩,
 ⟨some 17, none, .conv (.toFloat .f32) (.tmp 16), 16⟩,
 ⟨some 18, none, .bin .neq .other (.tmp 15) (.tmp 17), 63⟩]
def laws_heldFloat32S_r4 : List SOper := [
 ⟨some 4, none, .mov (.const (.int .i64 (-1))), 0⟩]
def laws_heldFloat32S_r5 : List SOper := [
 ⟨some 19, none, .mov (.tmp 1), 0⟩,
 ⟨some 20, none, .bin .add .other (.tmp 19) (.const (.int .i64 1)), 1⟩,
 ⟨some 1, none, .mov (.tmp 20), 3⟩]
def laws_heldFloat32S_r6 : List SOper := [
 ⟨some 10, none, .mov (.tmp 5), 0⟩,
 ⟨some 11, none, .bin .add .other (.tmp 10) (.const (.int .i64 1)), 1⟩,
 ⟨some 5, none, .mov (.tmp 11), 3⟩]
def laws_heldFloat32S_l7 : SCode := (.kp [0,1,5] (.seq (.seq (.region laws_heldFloat32S_r2 false) (.kp [0,1,5,9] (.cond (.tmp 9) .skip (.exit 0)))) (.kp [0,1,5] (.seq (.block 1 (.seq (.seq (.region laws_heldFloat32S_r3 false) (.kp [0,1,5,18] (.cond (.tmp 18) (.seq (.region laws_heldFloat32S_r4 false) .ret) .skip))) (.kp [0,1,5] (.region laws_heldFloat32S_r5 false)))) (.kp [0,1,5] (.region laws_heldFloat32S_r6 false))))))
def laws_heldFloat32S_r8 : List SOper := [
 ⟨some 21, none, .mov (.tmp 1), 0⟩,
 ⟨some 4, none, .mov (.tmp 21), 1⟩]
def laws_heldFloat32S : SFunc := ⟨22, [.tmp 4], (.kp [0,1] (.seq (.region laws_heldFloat32S_r0 false) (.kp [0,1] (.seq (.seq (.region laws_heldFloat32S_r1 false) (.kp [0,1,5] (.block 0 (.loop laws_heldFloat32S_l7)))) (.kp [1] (.seq (.region laws_heldFloat32S_r8 false) .ret))))))⟩

/- loop.example/g01201/laws.heldSheet -/
def laws_heldSheet_r0 : List SOper := [
 ⟨some 2, none, .box (.tmp 0), 0⟩,
 ⟨some 4, none, .mov (.const (.int .i64 0)), 0⟩]
def laws_heldSheet_r1 (i_laws_heldFloat32S : FuncId) : List SOper := [
 ⟨some 5, none, .fieldAddr 3 (.tmp 2), 0⟩,
 ⟨some 6, none, .load1 (.tmp 5), 1⟩,
 ⟨some 7, none, .mov (.tmp 1), 0⟩,
 ⟨some 8, none, .call (.func i_laws_heldFloat32S) [(.tmp 6), (.tmp 7)], 7⟩,
 ⟨some 1, none, .mov (.tmp 8), 15⟩]
def laws_heldSheet_r2 : List SOper := [
 ⟨some 9, none, .mov (.tmp 1), 0⟩,
 ⟨some 10, none, .bin .lss .other (.tmp 9) (.const (.int .i64 0)), 1⟩]
def laws_heldSheet_r3 : List SOper := [
 ⟨some 4, none, .mov (.const (.int .i64 (-1))), 0⟩]
def laws_heldSheet_r4 (i_laws_heldFloat32S : FuncId) : List SOper := [
 ⟨some 11, none, .fieldAddr 4 (.tmp 2), 0⟩,
 ⟨some 12, none, .load1 (.tmp 11), 1⟩,
 ⟨some 13, none, .mov (.tmp 1), 0⟩,
 ⟨some 14, none, .call (.func i_laws_heldFloat32S) [(.tmp 12), (.tmp 13)], 7⟩,
 ⟨some 1, none, .mov (.tmp 14), 15⟩]
def laws_heldSheet_r5 : List SOper := [
 ⟨some 15, none, .mov (.tmp 1), 0⟩,
 ⟨some 16, none, .bin .lss .other (.tmp 15) (.const (.int .i64 0)), 1⟩]
def laws_heldSheet_r6 : List SOper := [
 ⟨some 4, none, .mov (.const (.int .i64 (-1))), 0⟩]
def laws_heldSheet_r7 : List SOper := [
 ⟨some 17, none, .mov (.tmp 1), 0⟩,
 ⟨some 4, none, .mov (.tmp 17), 1⟩]
def laws_heldSheet (i_laws_heldFloat32S : FuncId) : SFunc := ⟨18, [.tmp 4], (.kp [0,1] (.seq (.region laws_heldSheet_r0 false) (.kp [1,2] (.seq (.region (laws_heldSheet_r1 i_laws_heldFloat32S) false) (.kp [1,2] (.seq (.seq (.region laws_heldSheet_r2 false) (.kp [1,2,10] (.cond (.tmp 10) (.seq (.region laws_heldSheet_r3 false) .ret) .skip))) (.kp [1,2] (.seq (.region (laws_heldSheet_r4 i_laws_heldFloat32S) false) (.kp [1] (.seq (.seq (.region laws_heldSheet_r5 false) (.kp [1,16] (.cond (.tmp 16) (.seq (.region laws_heldSheet_r6 false) .ret) .skip))) (.kp [1] (.seq (.region laws_heldSheet_r7 false) .ret))))))))))))⟩

/-- What marks write. -/
def marks (k : Int) (n : Nat) : List Nat := (List.range n).map fun (i : Nat) => FloatKind.f32.nearest (k + i)
theorem marks_length (k : Int) (n : Nat) : (marks k n).length = n := by simp [marks]
theorem marks_get (k : Int) (n i : Nat) (h : i < n) : (marks k n).getD i 0 = FloatKind.f32.nearest (k + i) := by
  unfold marks
  rw [List.getD_eq_getElem?_getD, List.getElem?_map, List.getElem?_range h]
  rfl
theorem marks_step (k : Int) (xs : List Nat) (i : Nat) (h : i < xs.length) : (marks k i ++ xs.drop i).set i (FloatKind.f32.nearest (k + i)) = marks k (i + 1) ++ xs.drop (i + 1) := by
  rw [List.set_append_right _ _ (by rw [marks_length]; omega), marks_length, Nat.sub_self, List.drop_eq_getElem_cons h, List.set_cons_zero]
  have : marks k (i + 1) = marks k i ++ [FloatKind.f32.nearest (k + i)] := by simp [marks, List.range_succ]
  rw [this, List.append_assoc]
  rfl

def laws_markFloat32S_ok (c : Contract) : Prop :=
  (∀ (σ : Heap) (k : Int), Ret c [.slice none 0 0, .int .i64 k] σ fun v σ' => v = .int .i64 k ∧ σ' = σ) ∧
  ∀ (σ : Heap) (b : Nat) (xs : List Nat) (k : Int), σ[b]? = some (rowO xs) → xs.length ≤ 1048576 → 0 ≤ k → k ≤ 1000000000000 →
    Ret c [slV b xs.length, .int .i64 k] σ fun v σ' => v = .int .i64 (k + xs.length) ∧ σ' = σ.set b (rowO (marks k xs.length))
theorem laws_markFloat32S_law {C : Ctab} : laws_markFloat32S_ok (gcC C laws_markFloat32S false) := by
  refine ⟨fun σ k => ?_, fun σ b xs k hb hn k0 k1 => ?_⟩
  · refine ret_gc rfl rfl ?_
    repeat (first | (first | (apply EvR.movT; (· exact tG)) | (apply EvR.opS; (· exact tP)) | (apply EvR.opN; (· exact tP))) | (first | (apply EvR.opSF; (· exact tG); (· first | rfl | (simp only [] <;> with_reducible rfl))) | (apply EvR.opNF; (· exact tG); (· first | rfl | (simp only [] <;> with_reducible rfl)))) | (first | (apply EvR.movTT; (· exact tG); (· first | rfl | (simp only [] <;> with_reducible rfl)); (· exact tG)) | (apply EvR.opST; (· exact tG); (· first | rfl | (simp only [] <;> with_reducible rfl)); (· exact tP)) | (apply EvR.opNT; (· exact tG); (· first | rfl | (simp only [] <;> with_reducible rfl)); (· exact tP))) | (apply EvR.opSU; (· exact tG)) | (apply EvR.opNU; (· exact tG)) | (refine EvR.nil ?_; try dsimp only) | (apply Ev.kp; (· simp only [push_cast, Nat.reduceEqDiff, reduceIte, Nat.reduceAdd, Nat.reduceLeDiff] <;> with_reducible rfl)) | (refine Ev.seq ?_) | (refine Ev.region ?_) | (apply Ev.regionQ; (· kernel_rfl); (· exact trivial)) | (apply Ev.condT; (· exact tP)) | (apply Ev.condF; (· exact tP)) | (refine Ev.skip ?_; try dsimp only) | (refine Ev.exit ?_; try dsimp only) | (refine Ev.block ?_) | (refine Ev.ret ?_; try dsimp only))
    refine Ev.mono (Q := fun o F' σ' => o = .exit 0 ∧ fkeep [1] F' = [(1, .int .i64 k)] ∧ σ' = σ ++ []) (Ev.forUp (fun i => [(0, .slice none 0 0), (1, .int .i64 k), (5, .int .i64 i)]) (fun _ => σ ++ []) (fun _ => True) 0 0 ?_ ?_ ?_ rfl (Nat.zero_le _) trivial) ?_
    · intro i hi _; omega
    · intro _
      repeat (first | (first | (apply EvR.movT; (· exact tG)) | (apply EvR.opS; (· exact tP)) | (apply EvR.opN; (· exact tP))) | (first | (apply EvR.opSF; (· exact tG); (· first | rfl | (simp only [] <;> with_reducible rfl))) | (apply EvR.opNF; (· exact tG); (· first | rfl | (simp only [] <;> with_reducible rfl)))) | (first | (apply EvR.movTT; (· exact tG); (· first | rfl | (simp only [] <;> with_reducible rfl)); (· exact tG)) | (apply EvR.opST; (· exact tG); (· first | rfl | (simp only [] <;> with_reducible rfl)); (· exact tP)) | (apply EvR.opNT; (· exact tG); (· first | rfl | (simp only [] <;> with_reducible rfl)); (· exact tP))) | (apply EvR.opSU; (· exact tG)) | (apply EvR.opNU; (· exact tG)) | (refine EvR.nil ?_; try dsimp only) | (apply Ev.kp; (· simp only [push_cast, Nat.reduceEqDiff, reduceIte, Nat.reduceAdd, Nat.reduceLeDiff] <;> with_reducible rfl)) | (refine Ev.seq ?_) | (refine Ev.region ?_) | (apply Ev.regionQ; (· kernel_rfl); (· exact trivial)) | (apply Ev.condT; (· exact tP)) | (apply Ev.condF; (· exact tP)) | (refine Ev.skip ?_; try dsimp only) | (refine Ev.exit ?_; try dsimp only) | (refine Ev.block ?_) | (refine Ev.ret ?_; try dsimp only))
      exact ⟨rfl, by simp only [push_cast, Nat.reduceEqDiff, reduceIte, Nat.reduceAdd, Nat.reduceLeDiff] <;> rfl, rfl⟩
    · simp only [push_cast, Nat.reduceEqDiff, reduceIte, Nat.reduceAdd, Nat.reduceLeDiff] <;> rfl
    · rintro _ _ _ ⟨rfl, hF, rfl⟩
      dsimp only
      refine Ev.kp hF ?_
      repeat (first | (first | (apply EvR.movT; (· exact tG)) | (apply EvR.opS; (· exact tP)) | (apply EvR.opN; (· exact tP))) | (first | (apply EvR.opSF; (· exact tG); (· first | rfl | (simp only [] <;> with_reducible rfl))) | (apply EvR.opNF; (· exact tG); (· first | rfl | (simp only [] <;> with_reducible rfl)))) | (first | (apply EvR.movTT; (· exact tG); (· first | rfl | (simp only [] <;> with_reducible rfl)); (· exact tG)) | (apply EvR.opST; (· exact tG); (· first | rfl | (simp only [] <;> with_reducible rfl)); (· exact tP)) | (apply EvR.opNT; (· exact tG); (· first | rfl | (simp only [] <;> with_reducible rfl)); (· exact tP))) | (apply EvR.opSU; (· exact tG)) | (apply EvR.opNU; (· exact tG)) | (refine EvR.nil ?_; try dsimp only) | (apply Ev.kp; (· simp only [push_cast, Nat.reduceEqDiff, reduceIte, Nat.reduceAdd, Nat.reduceLeDiff] <;> with_reducible rfl)) | (refine Ev.seq ?_) | (refine Ev.region ?_) | (apply Ev.regionQ; (· kernel_rfl); (· exact trivial)) | (apply Ev.condT; (· exact tP)) | (apply Ev.condF; (· exact tP)) | (refine Ev.skip ?_; try dsimp only) | (refine Ev.exit ?_; try dsimp only) | (refine Ev.block ?_) | (refine Ev.ret ?_; try dsimp only))
      ((first | apply Ev.retE | apply atEnd_ret | apply atEnd_normal); (· simp only [push_cast, Nat.reduceEqDiff, reduceIte, Nat.reduceAdd, Nat.reduceLeDiff] <;> with_reducible rfl))
      exact end_mod rfl (fun _ _ => .inl rfl) rfl ⟨rfl, rfl⟩
  · have hlt : b < σ.length := (List.getElem?_eq_some_iff.1 hb).1
    have hat : ∀ X : AObj, (σ.set b X ++ [])[b]? = some X := fun X => by rw [List.append_nil, List.getElem?_set_self hlt]
    refine ret_gc rfl rfl ?_
    repeat (first | (first | (apply EvR.movT; (· exact tG)) | (apply EvR.opS; (· exact tP)) | (apply EvR.opN; (· exact tP))) | (first | (apply EvR.opSF; (· exact tG); (· first | rfl | (simp only [] <;> with_reducible rfl))) | (apply EvR.opNF; (· exact tG); (· first | rfl | (simp only [] <;> with_reducible rfl)))) | (first | (apply EvR.movTT; (· exact tG); (· first | rfl | (simp only [] <;> with_reducible rfl)); (· exact tG)) | (apply EvR.opST; (· exact tG); (· first | rfl | (simp only [] <;> with_reducible rfl)); (· exact tP)) | (apply EvR.opNT; (· exact tG); (· first | rfl | (simp only [] <;> with_reducible rfl)); (· exact tP))) | (apply EvR.opSU; (· exact tG)) | (apply EvR.opNU; (· exact tG)) | (refine EvR.nil ?_; try dsimp only) | (apply Ev.kp; (· simp only [push_cast, Nat.reduceEqDiff, reduceIte, Nat.reduceAdd, Nat.reduceLeDiff] <;> with_reducible rfl)) | (refine Ev.seq ?_) | (refine Ev.region ?_) | (apply Ev.regionQ; (· kernel_rfl); (· exact trivial)) | (apply Ev.condT; (· exact tP)) | (apply Ev.condF; (· exact tP)) | (refine Ev.skip ?_; try dsimp only) | (refine Ev.exit ?_; try dsimp only) | (refine Ev.block ?_) | (refine Ev.ret ?_; try dsimp only))
    refine Ev.mono (Q := fun o F' σ' => o = .exit 0 ∧ fkeep [1] F' = [(1, .int .i64 (k + xs.length))] ∧ σ' = σ.set b (rowO (marks k xs.length)) ++ [])
      (Ev.forUp (fun i => [(0, slV b xs.length), (1, .int .i64 (k + i)), (5, .int .i64 i)]) (fun i => σ.set b (rowO (marks k i ++ xs.drop i)) ++ []) (fun _ => True) xs.length 0 ?_ ?_ ?_ ?_ (Nat.zero_le _) trivial) ?_
    · intro i hi _
      have hlt2 : (i : Int) < xs.length := by omega
      have hlen : (f32s (marks k i ++ xs.drop i)).length = xs.length := by rw [f32s_length, List.length_append, marks_length, List.length_drop]; omega
      have e1 := idx_obj (k := .i64) (j := i) (hat (rowO (marks k i ++ xs.drop i))) (off := 0) (cap := xs.length) (len := xs.length) (by rw [hlen]; omega) (by omega) (by omega) hlt2 (Nat.le_refl _)
      have e2 := store1_obj (off := i) (c := xs.length) (v := .float .f32 (FloatKind.f32.nearest (k + i))) (hat (rowO (marks k i ++ xs.drop i))) hlen (by omega) hi rfl
      have e3 : (σ.set b (rowO (marks k i ++ xs.drop i)) ++ []).set b ⟨(f32s (marks k i ++ xs.drop i)).set i (.float .f32 (FloatKind.f32.nearest (k + i))), 1, true⟩ = σ.set b (rowO (marks k (i + 1) ++ xs.drop (i + 1))) ++ [] := by
        rw [List.append_nil, List.append_nil, List.set_set, f32s_set, marks_step _ _ _ hi]
      rw [e3] at e2
      simp only [Int.toNat_natCast, Nat.zero_add, Nat.mul_one] at e1
      repeat (first | (first | (apply EvR.movT; (· exact tG)) | (apply EvR.opS; (· simp (disch := omega) only [push_cast, Nat.reduceEqDiff, reduceIte, Nat.reduceAdd, Nat.reduceLeDiff, hlt2, slV, e1, e2] <;> with_reducible rfl)) | (apply EvR.opN; (· simp (disch := omega) only [push_cast, Nat.reduceEqDiff, reduceIte, Nat.reduceAdd, Nat.reduceLeDiff, hlt2, slV, e1, e2] <;> with_reducible rfl))) | (first | (apply EvR.opSF; (· exact tG); (· first | rfl | (simp only [hlt2, slV, e1, e2] <;> with_reducible rfl))) | (apply EvR.opNF; (· exact tG); (· first | rfl | (simp only [hlt2, slV, e1, e2] <;> with_reducible rfl)))) | (first | (apply EvR.movTT; (· exact tG); (· first | rfl | (simp only [hlt2, slV, e1, e2] <;> with_reducible rfl)); (· exact tG)) | (apply EvR.opST; (· exact tG); (· first | rfl | (simp only [hlt2, slV, e1, e2] <;> with_reducible rfl)); (· simp (disch := omega) only [push_cast, Nat.reduceEqDiff, reduceIte, Nat.reduceAdd, Nat.reduceLeDiff, hlt2, slV, e1, e2] <;> with_reducible rfl)) | (apply EvR.opNT; (· exact tG); (· first | rfl | (simp only [hlt2, slV, e1, e2] <;> with_reducible rfl)); (· simp (disch := omega) only [push_cast, Nat.reduceEqDiff, reduceIte, Nat.reduceAdd, Nat.reduceLeDiff, hlt2, slV, e1, e2] <;> with_reducible rfl))) | (apply EvR.opSU; (· exact tG)) | (apply EvR.opNU; (· exact tG)) | (refine EvR.nil ?_; try dsimp only) | (apply Ev.kp; (· simp only [push_cast, Nat.reduceEqDiff, reduceIte, Nat.reduceAdd, Nat.reduceLeDiff] <;> with_reducible rfl)) | (refine Ev.seq ?_) | (refine Ev.region ?_) | (apply Ev.regionQ; (· kernel_rfl); (· exact trivial)) | (apply Ev.condT; (· simp (disch := omega) only [push_cast, Nat.reduceEqDiff, reduceIte, Nat.reduceAdd, Nat.reduceLeDiff, hlt2, slV, e1, e2] <;> with_reducible rfl)) | (apply Ev.condF; (· simp (disch := omega) only [push_cast, Nat.reduceEqDiff, reduceIte, Nat.reduceAdd, Nat.reduceLeDiff, hlt2, slV, e1, e2] <;> with_reducible rfl)) | (refine Ev.skip ?_; try dsimp only) | (refine Ev.exit ?_; try dsimp only) | (refine Ev.block ?_) | (refine Ev.ret ?_; try dsimp only))
      refine ⟨?_, rfl, trivial⟩
      simp only [push_cast, Nat.reduceEqDiff, reduceIte, Nat.reduceAdd, Nat.reduceLeDiff, Int.add_assoc] <;> rfl
    · intro _
      repeat (first | (first | (apply EvR.movT; (· exact tG)) | (apply EvR.opS; (· simp (disch := omega) only [push_cast, Nat.reduceEqDiff, reduceIte, Nat.reduceAdd, Nat.reduceLeDiff, slV] <;> with_reducible rfl)) | (apply EvR.opN; (· simp (disch := omega) only [push_cast, Nat.reduceEqDiff, reduceIte, Nat.reduceAdd, Nat.reduceLeDiff, slV] <;> with_reducible rfl))) | (first | (apply EvR.opSF; (· exact tG); (· first | rfl | (simp only [slV] <;> with_reducible rfl))) | (apply EvR.opNF; (· exact tG); (· first | rfl | (simp only [slV] <;> with_reducible rfl)))) | (first | (apply EvR.movTT; (· exact tG); (· first | rfl | (simp only [slV] <;> with_reducible rfl)); (· exact tG)) | (apply EvR.opST; (· exact tG); (· first | rfl | (simp only [slV] <;> with_reducible rfl)); (· simp (disch := omega) only [push_cast, Nat.reduceEqDiff, reduceIte, Nat.reduceAdd, Nat.reduceLeDiff, slV] <;> with_reducible rfl)) | (apply EvR.opNT; (· exact tG); (· first | rfl | (simp only [slV] <;> with_reducible rfl)); (· simp (disch := omega) only [push_cast, Nat.reduceEqDiff, reduceIte, Nat.reduceAdd, Nat.reduceLeDiff, slV] <;> with_reducible rfl))) | (apply EvR.opSU; (· exact tG)) | (apply EvR.opNU; (· exact tG)) | (refine EvR.nil ?_; try dsimp only) | (apply Ev.kp; (· simp only [push_cast, Nat.reduceEqDiff, reduceIte, Nat.reduceAdd, Nat.reduceLeDiff] <;> with_reducible rfl)) | (refine Ev.seq ?_) | (refine Ev.region ?_) | (apply Ev.regionQ; (· kernel_rfl); (· exact trivial)) | (apply Ev.condT; (· simp (disch := omega) only [push_cast, Nat.reduceEqDiff, reduceIte, Nat.reduceAdd, Nat.reduceLeDiff, slV] <;> with_reducible rfl)) | (apply Ev.condF; (· simp (disch := omega) only [push_cast, Nat.reduceEqDiff, reduceIte, Nat.reduceAdd, Nat.reduceLeDiff, slV] <;> with_reducible rfl)) | (refine Ev.skip ?_; try dsimp only) | (refine Ev.exit ?_; try dsimp only) | (refine Ev.block ?_) | (refine Ev.ret ?_; try dsimp only))
      refine ⟨rfl, by simp only [push_cast, Nat.reduceEqDiff, reduceIte, Nat.reduceAdd, Nat.reduceLeDiff] <;> rfl, ?_⟩
      simp
    · simp only [push_cast, Nat.reduceEqDiff, reduceIte, Nat.reduceAdd, Nat.reduceLeDiff, Int.add_zero] <;> rfl
    · rw [List.append_nil, List.append_nil]
      have : rowO (marks k 0 ++ xs.drop 0) = rowO xs := by simp [marks]
      rw [this]
      obtain ⟨hl, he⟩ := List.getElem?_eq_some_iff.1 hb
      rw [← he]
      exact (List.set_getElem_self hl).symm
    · rintro _ _ _ ⟨rfl, hF, rfl⟩
      dsimp only
      refine Ev.kp hF ?_
      repeat (first | (first | (apply EvR.movT; (· exact tG)) | (apply EvR.opS; (· exact tP)) | (apply EvR.opN; (· exact tP))) | (first | (apply EvR.opSF; (· exact tG); (· first | rfl | (simp only [] <;> with_reducible rfl))) | (apply EvR.opNF; (· exact tG); (· first | rfl | (simp only [] <;> with_reducible rfl)))) | (first | (apply EvR.movTT; (· exact tG); (· first | rfl | (simp only [] <;> with_reducible rfl)); (· exact tG)) | (apply EvR.opST; (· exact tG); (· first | rfl | (simp only [] <;> with_reducible rfl)); (· exact tP)) | (apply EvR.opNT; (· exact tG); (· first | rfl | (simp only [] <;> with_reducible rfl)); (· exact tP))) | (apply EvR.opSU; (· exact tG)) | (apply EvR.opNU; (· exact tG)) | (refine EvR.nil ?_; try dsimp only) | (apply Ev.kp; (· simp only [push_cast, Nat.reduceEqDiff, reduceIte, Nat.reduceAdd, Nat.reduceLeDiff] <;> with_reducible rfl)) | (refine Ev.seq ?_) | (refine Ev.region ?_) | (apply Ev.regionQ; (· kernel_rfl); (· exact trivial)) | (apply Ev.condT; (· exact tP)) | (apply Ev.condF; (· exact tP)) | (refine Ev.skip ?_; try dsimp only) | (refine Ev.exit ?_; try dsimp only) | (refine Ev.block ?_) | (refine Ev.ret ?_; try dsimp only))
      ((first | apply Ev.retE | apply atEnd_ret | apply atEnd_normal); (· simp only [push_cast, Nat.reduceEqDiff, reduceIte, Nat.reduceAdd, Nat.reduceLeDiff] <;> with_reducible rfl))
      exact end_mod (by simp) (set_old (f32s_const _ _)) rfl ⟨rfl, rfl⟩

/-- A held row tells what marks wrote. -/
def laws_heldFloat32S_ok (c : Contract) : Prop :=
  ∀ (σ : Heap) (v : Value) (n : Nat) (k : Int), Row σ 1 v n (f32s (marks k n)) → n ≤ 1048576 → 0 ≤ k → k ≤ 1000000000000 → Ret c [v, .int .i64 k] σ fun v σ' => v = .int .i64 (k + n) ∧ σ' = σ
theorem laws_heldFloat32S_law {C : Ctab} : laws_heldFloat32S_ok (gcC C laws_heldFloat32S true) := by
  intro σ v n k hr hn k0 k1
  have hl := hr.len
  have hx := hr.idxE
  have hv := hr.loadFE
  refine ret_gc rfl rfl ?_
  repeat (first | (first | (apply EvR.movT; (· exact tG)) | (apply EvR.opS; (· exact tP)) | (apply EvR.opN; (· exact tP))) | (first | (apply EvR.opSF; (· exact tG); (· first | rfl | (simp only [] <;> with_reducible rfl))) | (apply EvR.opNF; (· exact tG); (· first | rfl | (simp only [] <;> with_reducible rfl)))) | (first | (apply EvR.movTT; (· exact tG); (· first | rfl | (simp only [] <;> with_reducible rfl)); (· exact tG)) | (apply EvR.opST; (· exact tG); (· first | rfl | (simp only [] <;> with_reducible rfl)); (· exact tP)) | (apply EvR.opNT; (· exact tG); (· first | rfl | (simp only [] <;> with_reducible rfl)); (· exact tP))) | (apply EvR.opSU; (· exact tG)) | (apply EvR.opNU; (· exact tG)) | (refine EvR.nil ?_; try dsimp only) | (apply Ev.kp; (· simp only [push_cast, Nat.reduceEqDiff, reduceIte, Nat.reduceAdd, Nat.reduceLeDiff] <;> with_reducible rfl)) | (refine Ev.seq ?_) | (refine Ev.region ?_) | (apply Ev.regionQ; (· kernel_rfl); (· exact trivial)) | (apply Ev.condT; (· exact tP)) | (apply Ev.condF; (· exact tP)) | (refine Ev.skip ?_; try dsimp only) | (refine Ev.exit ?_; try dsimp only) | (refine Ev.block ?_) | (refine Ev.ret ?_; try dsimp only))
  refine Ev.mono (Q := fun o F' σ' => o = .exit 0 ∧ fkeep [1] F' = [(1, .int .i64 (k + n))] ∧ σ' = σ ++ [])
    (Ev.forUp (fun i => [(0, v), (1, .int .i64 (k + i)), (5, .int .i64 i)]) (fun i => σ ++ []) (fun _ => True) n 0 ?_ ?_ ?_ rfl (Nat.zero_le _) trivial) ?_
  · intro i hi _
    have hlt2 : (i : Int) < n := by omega
    have hg := marks_get k n i hi
    repeat (first | (first | (apply EvR.movT; (· exact tG)) | (apply EvR.opS; (· simp (disch := omega) only [push_cast, Nat.reduceEqDiff, reduceIte, Nat.reduceAdd, Nat.reduceLeDiff, hl, hlt2, hx, hv, hg, feq_nearest] <;> with_reducible rfl)) | (apply EvR.opN; (· simp (disch := omega) only [push_cast, Nat.reduceEqDiff, reduceIte, Nat.reduceAdd, Nat.reduceLeDiff, hl, hlt2, hx, hv, hg, feq_nearest] <;> with_reducible rfl))) | (first | (apply EvR.opSF; (· exact tG); (· first | rfl | (simp only [hl, hlt2, hx, hv, hg, feq_nearest] <;> with_reducible rfl))) | (apply EvR.opNF; (· exact tG); (· first | rfl | (simp only [hl, hlt2, hx, hv, hg, feq_nearest] <;> with_reducible rfl)))) | (first | (apply EvR.movTT; (· exact tG); (· first | rfl | (simp only [hl, hlt2, hx, hv, hg, feq_nearest] <;> with_reducible rfl)); (· exact tG)) | (apply EvR.opST; (· exact tG); (· first | rfl | (simp only [hl, hlt2, hx, hv, hg, feq_nearest] <;> with_reducible rfl)); (· simp (disch := omega) only [push_cast, Nat.reduceEqDiff, reduceIte, Nat.reduceAdd, Nat.reduceLeDiff, hl, hlt2, hx, hv, hg, feq_nearest] <;> with_reducible rfl)) | (apply EvR.opNT; (· exact tG); (· first | rfl | (simp only [hl, hlt2, hx, hv, hg, feq_nearest] <;> with_reducible rfl)); (· simp (disch := omega) only [push_cast, Nat.reduceEqDiff, reduceIte, Nat.reduceAdd, Nat.reduceLeDiff, hl, hlt2, hx, hv, hg, feq_nearest] <;> with_reducible rfl))) | (apply EvR.opSU; (· exact tG)) | (apply EvR.opNU; (· exact tG)) | (refine EvR.nil ?_; try dsimp only) | (apply Ev.kp; (· simp only [push_cast, Nat.reduceEqDiff, reduceIte, Nat.reduceAdd, Nat.reduceLeDiff] <;> with_reducible rfl)) | (refine Ev.seq ?_) | (refine Ev.region ?_) | (apply Ev.regionQ; (· kernel_rfl); (· exact trivial)) | (apply Ev.condT; (· simp (disch := omega) only [push_cast, Nat.reduceEqDiff, reduceIte, Nat.reduceAdd, Nat.reduceLeDiff, hl, hlt2, hx, hv, hg, feq_nearest] <;> with_reducible rfl)) | (apply Ev.condF; (· simp (disch := omega) only [push_cast, Nat.reduceEqDiff, reduceIte, Nat.reduceAdd, Nat.reduceLeDiff, hl, hlt2, hx, hv, hg, feq_nearest] <;> with_reducible rfl)) | (refine Ev.skip ?_; try dsimp only) | (refine Ev.exit ?_; try dsimp only) | (refine Ev.block ?_) | (refine Ev.ret ?_; try dsimp only))
    refine ⟨?_, rfl, trivial⟩
    simp only [push_cast, Nat.reduceEqDiff, reduceIte, Nat.reduceAdd, Nat.reduceLeDiff, Int.add_assoc] <;> rfl
  · intro _
    repeat (first | (first | (apply EvR.movT; (· exact tG)) | (apply EvR.opS; (· simp (disch := omega) only [push_cast, Nat.reduceEqDiff, reduceIte, Nat.reduceAdd, Nat.reduceLeDiff, hl] <;> with_reducible rfl)) | (apply EvR.opN; (· simp (disch := omega) only [push_cast, Nat.reduceEqDiff, reduceIte, Nat.reduceAdd, Nat.reduceLeDiff, hl] <;> with_reducible rfl))) | (first | (apply EvR.opSF; (· exact tG); (· first | rfl | (simp only [hl] <;> with_reducible rfl))) | (apply EvR.opNF; (· exact tG); (· first | rfl | (simp only [hl] <;> with_reducible rfl)))) | (first | (apply EvR.movTT; (· exact tG); (· first | rfl | (simp only [hl] <;> with_reducible rfl)); (· exact tG)) | (apply EvR.opST; (· exact tG); (· first | rfl | (simp only [hl] <;> with_reducible rfl)); (· simp (disch := omega) only [push_cast, Nat.reduceEqDiff, reduceIte, Nat.reduceAdd, Nat.reduceLeDiff, hl] <;> with_reducible rfl)) | (apply EvR.opNT; (· exact tG); (· first | rfl | (simp only [hl] <;> with_reducible rfl)); (· simp (disch := omega) only [push_cast, Nat.reduceEqDiff, reduceIte, Nat.reduceAdd, Nat.reduceLeDiff, hl] <;> with_reducible rfl))) | (apply EvR.opSU; (· exact tG)) | (apply EvR.opNU; (· exact tG)) | (refine EvR.nil ?_; try dsimp only) | (apply Ev.kp; (· simp only [push_cast, Nat.reduceEqDiff, reduceIte, Nat.reduceAdd, Nat.reduceLeDiff] <;> with_reducible rfl)) | (refine Ev.seq ?_) | (refine Ev.region ?_) | (apply Ev.regionQ; (· kernel_rfl); (· exact trivial)) | (apply Ev.condT; (· simp (disch := omega) only [push_cast, Nat.reduceEqDiff, reduceIte, Nat.reduceAdd, Nat.reduceLeDiff, hl] <;> with_reducible rfl)) | (apply Ev.condF; (· simp (disch := omega) only [push_cast, Nat.reduceEqDiff, reduceIte, Nat.reduceAdd, Nat.reduceLeDiff, hl] <;> with_reducible rfl)) | (refine Ev.skip ?_; try dsimp only) | (refine Ev.exit ?_; try dsimp only) | (refine Ev.block ?_) | (refine Ev.ret ?_; try dsimp only))
    exact ⟨rfl, by simp only [push_cast, Nat.reduceEqDiff, reduceIte, Nat.reduceAdd, Nat.reduceLeDiff] <;> rfl, rfl⟩
  · simp only [push_cast, Nat.reduceEqDiff, reduceIte, Nat.reduceAdd, Nat.reduceLeDiff, Int.add_zero] <;> rfl
  · rintro _ _ _ ⟨rfl, hF, rfl⟩
    dsimp only
    refine Ev.kp hF ?_
    repeat (first | (first | (apply EvR.movT; (· exact tG)) | (apply EvR.opS; (· exact tP)) | (apply EvR.opN; (· exact tP))) | (first | (apply EvR.opSF; (· exact tG); (· first | rfl | (simp only [] <;> with_reducible rfl))) | (apply EvR.opNF; (· exact tG); (· first | rfl | (simp only [] <;> with_reducible rfl)))) | (first | (apply EvR.movTT; (· exact tG); (· first | rfl | (simp only [] <;> with_reducible rfl)); (· exact tG)) | (apply EvR.opST; (· exact tG); (· first | rfl | (simp only [] <;> with_reducible rfl)); (· exact tP)) | (apply EvR.opNT; (· exact tG); (· first | rfl | (simp only [] <;> with_reducible rfl)); (· exact tP))) | (apply EvR.opSU; (· exact tG)) | (apply EvR.opNU; (· exact tG)) | (refine EvR.nil ?_; try dsimp only) | (apply Ev.kp; (· simp only [push_cast, Nat.reduceEqDiff, reduceIte, Nat.reduceAdd, Nat.reduceLeDiff] <;> with_reducible rfl)) | (refine Ev.seq ?_) | (refine Ev.region ?_) | (apply Ev.regionQ; (· kernel_rfl); (· exact trivial)) | (apply Ev.condT; (· exact tP)) | (apply Ev.condF; (· exact tP)) | (refine Ev.skip ?_; try dsimp only) | (refine Ev.exit ?_; try dsimp only) | (refine Ev.block ?_) | (refine Ev.ret ?_; try dsimp only))
    ((first | apply Ev.retE | apply atEnd_ret | apply atEnd_normal); (· simp only [push_cast, Nat.reduceEqDiff, reduceIte, Nat.reduceAdd, Nat.reduceLeDiff] <;> with_reducible rfl)); refine end_scalar rfl ?_
    exact ⟨rfl, rfl⟩

def impl_copyOf_ok (c : Contract) : Prop := ∀ (σ : Heap) (v : Value) (xs : List Nat), Row σ 1 v xs.length (f32s xs) → xs.length ≤ 1048576 → Ret c [v] σ fun v' σ' => v' = slV σ.length xs.length ∧ σ' = σ ++ [rowO xs]
theorem impl_copyOf_law {C : Ctab} : impl_copyOf_ok (gcC C impl_copyOf true) := by
  intro σ v xs hr hn
  refine ret_gc rfl rfl ?_
  repeat (first | (first | (apply EvR.movT; (· exact tG)) | (apply EvR.opS; (· simp (disch := omega) only [push_cast, Nat.reduceEqDiff, reduceIte, Nat.reduceAdd, Nat.reduceLeDiff, build0_app] <;> with_reducible rfl)) | (apply EvR.opN; (· simp (disch := omega) only [push_cast, Nat.reduceEqDiff, reduceIte, Nat.reduceAdd, Nat.reduceLeDiff, build0_app] <;> with_reducible rfl))) | (first | (apply EvR.opSF; (· exact tG); (· first | rfl | (simp only [build0_app] <;> with_reducible rfl))) | (apply EvR.opNF; (· exact tG); (· first | rfl | (simp only [build0_app] <;> with_reducible rfl)))) | (first | (apply EvR.movTT; (· exact tG); (· first | rfl | (simp only [build0_app] <;> with_reducible rfl)); (· exact tG)) | (apply EvR.opST; (· exact tG); (· first | rfl | (simp only [build0_app] <;> with_reducible rfl)); (· simp (disch := omega) only [push_cast, Nat.reduceEqDiff, reduceIte, Nat.reduceAdd, Nat.reduceLeDiff, build0_app] <;> with_reducible rfl)) | (apply EvR.opNT; (· exact tG); (· first | rfl | (simp only [build0_app] <;> with_reducible rfl)); (· simp (disch := omega) only [push_cast, Nat.reduceEqDiff, reduceIte, Nat.reduceAdd, Nat.reduceLeDiff, build0_app] <;> with_reducible rfl))) | (apply EvR.opSU; (· exact tG)) | (apply EvR.opNU; (· exact tG)) | (refine EvR.nil ?_; try dsimp only) | (apply Ev.kp; (· simp only [push_cast, Nat.reduceEqDiff, reduceIte, Nat.reduceAdd, Nat.reduceLeDiff] <;> with_reducible rfl)) | (refine Ev.seq ?_) | (refine Ev.region ?_) | (apply Ev.regionQ; (· kernel_rfl); (· exact trivial)) | (apply Ev.condT; (· simp (disch := omega) only [push_cast, Nat.reduceEqDiff, reduceIte, Nat.reduceAdd, Nat.reduceLeDiff, build0_app] <;> with_reducible rfl)) | (apply Ev.condF; (· simp (disch := omega) only [push_cast, Nat.reduceEqDiff, reduceIte, Nat.reduceAdd, Nat.reduceLeDiff, build0_app] <;> with_reducible rfl)) | (refine Ev.skip ?_; try dsimp only) | (refine Ev.exit ?_; try dsimp only) | (refine Ev.block ?_) | (refine Ev.ret ?_; try dsimp only))
  (apply EvR.opS; (· simp only [push_cast, Nat.reduceEqDiff, reduceIte]; exact append_new _ _ 0 4 _ _ rfl (hr.ext _).app (by omega) (by omega) (f32s_ok _))); simp only [List.set_cons_zero, List.set_cons_succ]
  repeat (first | (first | (apply EvR.movT; (· exact tG)) | (apply EvR.opS; (· exact tP)) | (apply EvR.opN; (· exact tP))) | (first | (apply EvR.opSF; (· exact tG); (· first | rfl | (simp only [] <;> with_reducible rfl))) | (apply EvR.opNF; (· exact tG); (· first | rfl | (simp only [] <;> with_reducible rfl)))) | (first | (apply EvR.movTT; (· exact tG); (· first | rfl | (simp only [] <;> with_reducible rfl)); (· exact tG)) | (apply EvR.opST; (· exact tG); (· first | rfl | (simp only [] <;> with_reducible rfl)); (· exact tP)) | (apply EvR.opNT; (· exact tG); (· first | rfl | (simp only [] <;> with_reducible rfl)); (· exact tP))) | (apply EvR.opSU; (· exact tG)) | (apply EvR.opNU; (· exact tG)) | (refine EvR.nil ?_; try dsimp only) | (apply Ev.kp; (· simp only [push_cast, Nat.reduceEqDiff, reduceIte, Nat.reduceAdd, Nat.reduceLeDiff] <;> with_reducible rfl)) | (refine Ev.seq ?_) | (refine Ev.region ?_) | (apply Ev.regionQ; (· kernel_rfl); (· exact trivial)) | (apply Ev.condT; (· exact tP)) | (apply Ev.condF; (· exact tP)) | (refine Ev.skip ?_; try dsimp only) | (refine Ev.exit ?_; try dsimp only) | (refine Ev.block ?_) | (refine Ev.ret ?_; try dsimp only))
  ((first | apply Ev.retE | apply atEnd_ret | apply atEnd_normal); (· simp only [push_cast, Nat.reduceEqDiff, reduceIte, Nat.reduceAdd, Nat.reduceLeDiff] <;> with_reducible rfl))
  refine end_rows [rowO xs] [0] ?_ rfl (by decide) ?_ ⟨rfl, rfl⟩
  · simp [gcTop, gcVal, gcLeaf, gcLeaves, gcVals, constOk, gc_lt, gc_lt0]
  · simp [allConst, f32s, constOk]

/-- The value of a sheet whose rows are own, or of none. -/
def laws_markSheet_ok (c : Contract) : Prop :=
  (∀ (σ : Heap) (w h : Int) (wr : Bool) (k : Int), Ret c [shV w h wr (.slice none 0 0) (.slice none 0 0), .int .i64 k] σ fun v σ' => v = .int .i64 k ∧ σ' = σ) ∧
  ∀ (σ : Heap) (w h : Int) (wr : Bool) (bs bl : Nat) (sp lo : List Nat) (k : Int), bs ≠ bl → σ[bs]? = some (rowO sp) → σ[bl]? = some (rowO lo) → sp.length ≤ 1048576 → lo.length ≤ 1048576 → 0 ≤ k → k ≤ 1000000000 →
    Ret c [shV w h wr (slV bs sp.length) (slV bl lo.length), .int .i64 k] σ fun v σ' => v = .int .i64 (k + sp.length + lo.length) ∧ σ' = (σ.set bs (rowO (marks k sp.length))).set bl (rowO (marks (k + sp.length) lo.length))
theorem laws_markSheet_law {C : Ctab} {i : FuncId} {c : Contract} (h1 : HasW C i c laws_markFloat32S_ok) : laws_markSheet_ok (gcC C (laws_markSheet i) false) := by
  refine ⟨fun σ w h wr k => ?_, fun σ w h wr bs bl sp lo k hne hs hl hn1 hn2 k0 k1 => ?_⟩
  · refine ret_gc rfl rfl ?_
    repeat (first | (first | (apply EvR.movT; (· exact tG)) | (apply EvR.opS; (· simp (disch := omega) only [push_cast, Nat.reduceEqDiff, reduceIte, Nat.reduceAdd, Nat.reduceLeDiff, shV] <;> with_reducible rfl)) | (apply EvR.opN; (· simp (disch := omega) only [push_cast, Nat.reduceEqDiff, reduceIte, Nat.reduceAdd, Nat.reduceLeDiff, shV] <;> with_reducible rfl))) | (first | (apply EvR.opSF; (· exact tG); (· first | rfl | (simp only [shV] <;> with_reducible rfl))) | (apply EvR.opNF; (· exact tG); (· first | rfl | (simp only [shV] <;> with_reducible rfl)))) | (first | (apply EvR.movTT; (· exact tG); (· first | rfl | (simp only [shV] <;> with_reducible rfl)); (· exact tG)) | (apply EvR.opST; (· exact tG); (· first | rfl | (simp only [shV] <;> with_reducible rfl)); (· simp (disch := omega) only [push_cast, Nat.reduceEqDiff, reduceIte, Nat.reduceAdd, Nat.reduceLeDiff, shV] <;> with_reducible rfl)) | (apply EvR.opNT; (· exact tG); (· first | rfl | (simp only [shV] <;> with_reducible rfl)); (· simp (disch := omega) only [push_cast, Nat.reduceEqDiff, reduceIte, Nat.reduceAdd, Nat.reduceLeDiff, shV] <;> with_reducible rfl))) | (apply EvR.opSU; (· exact tG)) | (apply EvR.opNU; (· exact tG)) | (refine EvR.nil ?_; try dsimp only) | (apply Ev.kp; (· simp only [push_cast, Nat.reduceEqDiff, reduceIte, Nat.reduceAdd, Nat.reduceLeDiff] <;> with_reducible rfl)) | (refine Ev.seq ?_) | (refine Ev.region ?_) | (apply Ev.regionQ; (· kernel_rfl); (· exact trivial)) | (apply Ev.condT; (· simp (disch := omega) only [push_cast, Nat.reduceEqDiff, reduceIte, Nat.reduceAdd, Nat.reduceLeDiff, shV] <;> with_reducible rfl)) | (apply Ev.condF; (· simp (disch := omega) only [push_cast, Nat.reduceEqDiff, reduceIte, Nat.reduceAdd, Nat.reduceLeDiff, shV] <;> with_reducible rfl)) | (refine Ev.skip ?_; try dsimp only) | (refine Ev.exit ?_; try dsimp only) | (refine Ev.block ?_) | (refine Ev.ret ?_; try dsimp only))
    (apply EvR.callF h1.at_; (· simp only [push_cast, Nat.reduceEqDiff, reduceIte, Nat.reduceAdd, Nat.reduceLeDiff] <;> with_reducible rfl); (· exact  h1.ok.1 _ _); (· intro _; simp only [push_cast, Nat.reduceEqDiff, reduceIte, Nat.reduceAdd, Nat.reduceLeDiff] <;> with_reducible rfl); rintro _ _ ⟨rfl, rfl⟩; try dsimp only)
    repeat (first | (first | (apply EvR.movT; (· exact tG)) | (apply EvR.opS; (· exact tP)) | (apply EvR.opN; (· exact tP))) | (first | (apply EvR.opSF; (· exact tG); (· first | rfl | (simp only [] <;> with_reducible rfl))) | (apply EvR.opNF; (· exact tG); (· first | rfl | (simp only [] <;> with_reducible rfl)))) | (first | (apply EvR.movTT; (· exact tG); (· first | rfl | (simp only [] <;> with_reducible rfl)); (· exact tG)) | (apply EvR.opST; (· exact tG); (· first | rfl | (simp only [] <;> with_reducible rfl)); (· exact tP)) | (apply EvR.opNT; (· exact tG); (· first | rfl | (simp only [] <;> with_reducible rfl)); (· exact tP))) | (apply EvR.opSU; (· exact tG)) | (apply EvR.opNU; (· exact tG)) | (refine EvR.nil ?_; try dsimp only) | (apply Ev.kp; (· simp only [push_cast, Nat.reduceEqDiff, reduceIte, Nat.reduceAdd, Nat.reduceLeDiff] <;> with_reducible rfl)) | (refine Ev.seq ?_) | (refine Ev.region ?_) | (apply Ev.regionQ; (· kernel_rfl); (· exact trivial)) | (apply Ev.condT; (· exact tP)) | (apply Ev.condF; (· exact tP)) | (refine Ev.skip ?_; try dsimp only) | (refine Ev.exit ?_; try dsimp only) | (refine Ev.block ?_) | (refine Ev.ret ?_; try dsimp only))
    (apply EvR.callF h1.at_; (· simp only [push_cast, Nat.reduceEqDiff, reduceIte, Nat.reduceAdd, Nat.reduceLeDiff] <;> with_reducible rfl); (· exact  h1.ok.1 _ _); (· intro _; simp only [push_cast, Nat.reduceEqDiff, reduceIte, Nat.reduceAdd, Nat.reduceLeDiff] <;> with_reducible rfl); rintro _ _ ⟨rfl, rfl⟩; try dsimp only)
    repeat (first | (first | (apply EvR.movT; (· exact tG)) | (apply EvR.opS; (· exact tP)) | (apply EvR.opN; (· exact tP))) | (first | (apply EvR.opSF; (· exact tG); (· first | rfl | (simp only [] <;> with_reducible rfl))) | (apply EvR.opNF; (· exact tG); (· first | rfl | (simp only [] <;> with_reducible rfl)))) | (first | (apply EvR.movTT; (· exact tG); (· first | rfl | (simp only [] <;> with_reducible rfl)); (· exact tG)) | (apply EvR.opST; (· exact tG); (· first | rfl | (simp only [] <;> with_reducible rfl)); (· exact tP)) | (apply EvR.opNT; (· exact tG); (· first | rfl | (simp only [] <;> with_reducible rfl)); (· exact tP))) | (apply EvR.opSU; (· exact tG)) | (apply EvR.opNU; (· exact tG)) | (refine EvR.nil ?_; try dsimp only) | (apply Ev.kp; (· simp only [push_cast, Nat.reduceEqDiff, reduceIte, Nat.reduceAdd, Nat.reduceLeDiff] <;> with_reducible rfl)) | (refine Ev.seq ?_) | (refine Ev.region ?_) | (apply Ev.regionQ; (· kernel_rfl); (· exact trivial)) | (apply Ev.condT; (· exact tP)) | (apply Ev.condF; (· exact tP)) | (refine Ev.skip ?_; try dsimp only) | (refine Ev.exit ?_; try dsimp only) | (refine Ev.block ?_) | (refine Ev.ret ?_; try dsimp only))
    ((first | apply Ev.retE | apply atEnd_ret | apply atEnd_normal); (· simp only [push_cast, Nat.reduceEqDiff, reduceIte, Nat.reduceAdd, Nat.reduceLeDiff] <;> with_reducible rfl))
    exact end_mod rfl (fun _ _ => .inl rfl) rfl ⟨rfl, rfl⟩
  · have hlt1 : bs < σ.length := (List.getElem?_eq_some_iff.1 hs).1
    have hlt2 : bl < σ.length := (List.getElem?_eq_some_iff.1 hl).1
    have app : ∀ (l : Heap) (X : AObj), (σ ++ l).set bs X = σ.set bs X ++ l := fun l X => List.set_append_left _ _ hlt1
    have app2 : ∀ (l : Heap) (Y X : AObj), (σ.set bs Y ++ l).set bl X = (σ.set bs Y).set bl X ++ l := fun l Y X => List.set_append_left _ _ (by simpa using hlt2)
    refine ret_gc rfl rfl ?_
    repeat (first | (first | (apply EvR.movT; (· exact tG)) | (apply EvR.opS; (· simp (disch := omega) only [push_cast, Nat.reduceEqDiff, reduceIte, Nat.reduceAdd, Nat.reduceLeDiff, shV] <;> with_reducible rfl)) | (apply EvR.opN; (· simp (disch := omega) only [push_cast, Nat.reduceEqDiff, reduceIte, Nat.reduceAdd, Nat.reduceLeDiff, shV] <;> with_reducible rfl))) | (first | (apply EvR.opSF; (· exact tG); (· first | rfl | (simp only [shV] <;> with_reducible rfl))) | (apply EvR.opNF; (· exact tG); (· first | rfl | (simp only [shV] <;> with_reducible rfl)))) | (first | (apply EvR.movTT; (· exact tG); (· first | rfl | (simp only [shV] <;> with_reducible rfl)); (· exact tG)) | (apply EvR.opST; (· exact tG); (· first | rfl | (simp only [shV] <;> with_reducible rfl)); (· simp (disch := omega) only [push_cast, Nat.reduceEqDiff, reduceIte, Nat.reduceAdd, Nat.reduceLeDiff, shV] <;> with_reducible rfl)) | (apply EvR.opNT; (· exact tG); (· first | rfl | (simp only [shV] <;> with_reducible rfl)); (· simp (disch := omega) only [push_cast, Nat.reduceEqDiff, reduceIte, Nat.reduceAdd, Nat.reduceLeDiff, shV] <;> with_reducible rfl))) | (apply EvR.opSU; (· exact tG)) | (apply EvR.opNU; (· exact tG)) | (refine EvR.nil ?_; try dsimp only) | (apply Ev.kp; (· simp only [push_cast, Nat.reduceEqDiff, reduceIte, Nat.reduceAdd, Nat.reduceLeDiff] <;> with_reducible rfl)) | (refine Ev.seq ?_) | (refine Ev.region ?_) | (apply Ev.regionQ; (· kernel_rfl); (· exact trivial)) | (apply Ev.condT; (· simp (disch := omega) only [push_cast, Nat.reduceEqDiff, reduceIte, Nat.reduceAdd, Nat.reduceLeDiff, shV] <;> with_reducible rfl)) | (apply Ev.condF; (· simp (disch := omega) only [push_cast, Nat.reduceEqDiff, reduceIte, Nat.reduceAdd, Nat.reduceLeDiff, shV] <;> with_reducible rfl)) | (refine Ev.skip ?_; try dsimp only) | (refine Ev.exit ?_; try dsimp only) | (refine Ev.block ?_) | (refine Ev.ret ?_; try dsimp only))
    (apply EvR.callF h1.at_; (· simp only [push_cast, Nat.reduceEqDiff, reduceIte, Nat.reduceAdd, Nat.reduceLeDiff] <;> with_reducible rfl); (· exact  h1.ok.2 _ bs sp _ (by rw [List.getElem?_append_left hlt1]; exact hs) hn1 k0 (by omega)); (· intro _; simp only [push_cast, Nat.reduceEqDiff, reduceIte, Nat.reduceAdd, Nat.reduceLeDiff] <;> with_reducible rfl); rintro _ _ ⟨rfl, rfl⟩; try dsimp only)
    rw [app]
    obtain ⟨σ1, h1'⟩ : ∃ s, s = σ.set bs (rowO (marks k sp.length)) := ⟨_, rfl⟩
    have hL : σ.length = σ1.length := by rw [h1', List.length_set]
    have hl' : σ1[bl]? = some (rowO lo) := by rw [h1', List.getElem?_set_ne hne]; exact hl
    rw [← h1', hL]
    repeat (first | (first | (apply EvR.movT; (· exact tG)) | (apply EvR.opS; (· exact tP)) | (apply EvR.opN; (· exact tP))) | (first | (apply EvR.opSF; (· exact tG); (· first | rfl | (simp only [] <;> with_reducible rfl))) | (apply EvR.opNF; (· exact tG); (· first | rfl | (simp only [] <;> with_reducible rfl)))) | (first | (apply EvR.movTT; (· exact tG); (· first | rfl | (simp only [] <;> with_reducible rfl)); (· exact tG)) | (apply EvR.opST; (· exact tG); (· first | rfl | (simp only [] <;> with_reducible rfl)); (· exact tP)) | (apply EvR.opNT; (· exact tG); (· first | rfl | (simp only [] <;> with_reducible rfl)); (· exact tP))) | (apply EvR.opSU; (· exact tG)) | (apply EvR.opNU; (· exact tG)) | (refine EvR.nil ?_; try dsimp only) | (apply Ev.kp; (· simp only [push_cast, Nat.reduceEqDiff, reduceIte, Nat.reduceAdd, Nat.reduceLeDiff] <;> with_reducible rfl)) | (refine Ev.seq ?_) | (refine Ev.region ?_) | (apply Ev.regionQ; (· kernel_rfl); (· exact trivial)) | (apply Ev.condT; (· exact tP)) | (apply Ev.condF; (· exact tP)) | (refine Ev.skip ?_; try dsimp only) | (refine Ev.exit ?_; try dsimp only) | (refine Ev.block ?_) | (refine Ev.ret ?_; try dsimp only))
    (apply EvR.callF h1.at_; (· simp only [push_cast, Nat.reduceEqDiff, reduceIte, Nat.reduceAdd, Nat.reduceLeDiff] <;> with_reducible rfl); (· exact  h1.ok.2 _ bl lo _ (by rw [List.getElem?_append_left (by omega)]; exact hl') hn2 (by omega) (by omega)); (· intro _; simp only [push_cast, Nat.reduceEqDiff, reduceIte, Nat.reduceAdd, Nat.reduceLeDiff] <;> with_reducible rfl); rintro _ _ ⟨rfl, rfl⟩; try dsimp only)
    rw [List.set_append_left _ _ (by omega)]
    repeat (first | (first | (apply EvR.movT; (· exact tG)) | (apply EvR.opS; (· exact tP)) | (apply EvR.opN; (· exact tP))) | (first | (apply EvR.opSF; (· exact tG); (· first | rfl | (simp only [] <;> with_reducible rfl))) | (apply EvR.opNF; (· exact tG); (· first | rfl | (simp only [] <;> with_reducible rfl)))) | (first | (apply EvR.movTT; (· exact tG); (· first | rfl | (simp only [] <;> with_reducible rfl)); (· exact tG)) | (apply EvR.opST; (· exact tG); (· first | rfl | (simp only [] <;> with_reducible rfl)); (· exact tP)) | (apply EvR.opNT; (· exact tG); (· first | rfl | (simp only [] <;> with_reducible rfl)); (· exact tP))) | (apply EvR.opSU; (· exact tG)) | (apply EvR.opNU; (· exact tG)) | (refine EvR.nil ?_; try dsimp only) | (apply Ev.kp; (· simp only [push_cast, Nat.reduceEqDiff, reduceIte, Nat.reduceAdd, Nat.reduceLeDiff] <;> with_reducible rfl)) | (refine Ev.seq ?_) | (refine Ev.region ?_) | (apply Ev.regionQ; (· kernel_rfl); (· exact trivial)) | (apply Ev.condT; (· exact tP)) | (apply Ev.condF; (· exact tP)) | (refine Ev.skip ?_; try dsimp only) | (refine Ev.exit ?_; try dsimp only) | (refine Ev.block ?_) | (refine Ev.ret ?_; try dsimp only))
    ((first | apply Ev.retE | apply atEnd_ret | apply atEnd_normal); (· simp only [push_cast, Nat.reduceEqDiff, reduceIte, Nat.reduceAdd, Nat.reduceLeDiff] <;> with_reducible rfl))
    rw [← hL]
    refine end_mod (by rw [List.length_set, hL]) ?_ rfl ⟨rfl, by rw [h1']⟩
    intro o ho
    by_cases h2 : bl = o
    · subst h2
      right
      intro obj hobj
      rw [List.getElem?_set_self (by omega)] at hobj
      cases hobj; exact f32s_const _ _
    · rw [List.getElem?_set_ne h2, h1']
      exact set_old (f32s_const _ _) o ho

def laws_heldSheet_ok (c : Contract) : Prop := ∀ (σ : Heap) (w h : Int) (wr : Bool) (sv lv : Value) (n m : Nat) (k : Int), Row σ 1 sv n (f32s (marks k n)) → Row σ 1 lv m (f32s (marks (k + n) m)) → n ≤ 1048576 → m ≤ 1048576 → 0 ≤ k → k ≤ 1000000000 →
    Ret c [shV w h wr sv lv, .int .i64 k] σ fun v σ' => v = .int .i64 (k + n + m) ∧ σ' = σ
theorem laws_heldSheet_law {C : Ctab} {i : FuncId} {c : Contract} (h1 : Has C i c laws_heldFloat32S_ok) : laws_heldSheet_ok (gcC C (laws_heldSheet i) true) := by
  intro σ w h wr sv lv n m k hr1 hr2 hn1 hn2 k0 kk
  have k1 := hr1.ok
  have k2 := hr2.ok
  have o1 := hr1.one
  have o2 := hr2.one
  have g1 : decide (k + (n : Int) < 0) = false := decide_eq_false (by omega)
  have g2 : decide (k + (n : Int) + m < 0) = false := decide_eq_false (by omega)
  refine ret_gc rfl rfl ?_
  repeat (first | (first | (apply EvR.movT; (· exact tG)) | (apply EvR.opS; (· simp (disch := omega) only [push_cast, Nat.reduceEqDiff, reduceIte, Nat.reduceAdd, Nat.reduceLeDiff, shV, k1, k2, o1, o2] <;> with_reducible rfl)) | (apply EvR.opN; (· simp (disch := omega) only [push_cast, Nat.reduceEqDiff, reduceIte, Nat.reduceAdd, Nat.reduceLeDiff, shV, k1, k2, o1, o2] <;> with_reducible rfl))) | (first | (apply EvR.opSF; (· exact tG); (· first | rfl | (simp only [shV, k1, k2, o1, o2] <;> with_reducible rfl))) | (apply EvR.opNF; (· exact tG); (· first | rfl | (simp only [shV, k1, k2, o1, o2] <;> with_reducible rfl)))) | (first | (apply EvR.movTT; (· exact tG); (· first | rfl | (simp only [shV, k1, k2, o1, o2] <;> with_reducible rfl)); (· exact tG)) | (apply EvR.opST; (· exact tG); (· first | rfl | (simp only [shV, k1, k2, o1, o2] <;> with_reducible rfl)); (· simp (disch := omega) only [push_cast, Nat.reduceEqDiff, reduceIte, Nat.reduceAdd, Nat.reduceLeDiff, shV, k1, k2, o1, o2] <;> with_reducible rfl)) | (apply EvR.opNT; (· exact tG); (· first | rfl | (simp only [shV, k1, k2, o1, o2] <;> with_reducible rfl)); (· simp (disch := omega) only [push_cast, Nat.reduceEqDiff, reduceIte, Nat.reduceAdd, Nat.reduceLeDiff, shV, k1, k2, o1, o2] <;> with_reducible rfl))) | (apply EvR.opSU; (· exact tG)) | (apply EvR.opNU; (· exact tG)) | (refine EvR.nil ?_; try dsimp only) | (apply Ev.kp; (· simp only [push_cast, Nat.reduceEqDiff, reduceIte, Nat.reduceAdd, Nat.reduceLeDiff] <;> with_reducible rfl)) | (refine Ev.seq ?_) | (refine Ev.region ?_) | (apply Ev.regionQ; (· kernel_rfl); (· exact trivial)) | (apply Ev.condT; (· simp (disch := omega) only [push_cast, Nat.reduceEqDiff, reduceIte, Nat.reduceAdd, Nat.reduceLeDiff, shV, k1, k2, o1, o2] <;> with_reducible rfl)) | (apply Ev.condF; (· simp (disch := omega) only [push_cast, Nat.reduceEqDiff, reduceIte, Nat.reduceAdd, Nat.reduceLeDiff, shV, k1, k2, o1, o2] <;> with_reducible rfl)) | (refine Ev.skip ?_; try dsimp only) | (refine Ev.exit ?_; try dsimp only) | (refine Ev.block ?_) | (refine Ev.ret ?_; try dsimp only))
  (apply EvR.callF h1.at_; (· simp only [push_cast, Nat.reduceEqDiff, reduceIte, Nat.reduceAdd, Nat.reduceLeDiff] <;> with_reducible rfl); (· exact  h1.ok _ _ n k (hr1.ext _) hn1 k0 (by omega)); (· intro _; simp only [push_cast, Nat.reduceEqDiff, reduceIte, Nat.reduceAdd, Nat.reduceLeDiff] <;> with_reducible rfl); rintro _ _ ⟨rfl, rfl⟩; try dsimp only)
  repeat (first | (first | (apply EvR.movT; (· exact tG)) | (apply EvR.opS; (· simp (disch := omega) only [push_cast, Nat.reduceEqDiff, reduceIte, Nat.reduceAdd, Nat.reduceLeDiff, g1] <;> with_reducible rfl)) | (apply EvR.opN; (· simp (disch := omega) only [push_cast, Nat.reduceEqDiff, reduceIte, Nat.reduceAdd, Nat.reduceLeDiff, g1] <;> with_reducible rfl))) | (first | (apply EvR.opSF; (· exact tG); (· first | rfl | (simp only [g1] <;> with_reducible rfl))) | (apply EvR.opNF; (· exact tG); (· first | rfl | (simp only [g1] <;> with_reducible rfl)))) | (first | (apply EvR.movTT; (· exact tG); (· first | rfl | (simp only [g1] <;> with_reducible rfl)); (· exact tG)) | (apply EvR.opST; (· exact tG); (· first | rfl | (simp only [g1] <;> with_reducible rfl)); (· simp (disch := omega) only [push_cast, Nat.reduceEqDiff, reduceIte, Nat.reduceAdd, Nat.reduceLeDiff, g1] <;> with_reducible rfl)) | (apply EvR.opNT; (· exact tG); (· first | rfl | (simp only [g1] <;> with_reducible rfl)); (· simp (disch := omega) only [push_cast, Nat.reduceEqDiff, reduceIte, Nat.reduceAdd, Nat.reduceLeDiff, g1] <;> with_reducible rfl))) | (apply EvR.opSU; (· exact tG)) | (apply EvR.opNU; (· exact tG)) | (refine EvR.nil ?_; try dsimp only) | (apply Ev.kp; (· simp only [push_cast, Nat.reduceEqDiff, reduceIte, Nat.reduceAdd, Nat.reduceLeDiff] <;> with_reducible rfl)) | (refine Ev.seq ?_) | (refine Ev.region ?_) | (apply Ev.regionQ; (· kernel_rfl); (· exact trivial)) | (apply Ev.condT; (· simp (disch := omega) only [push_cast, Nat.reduceEqDiff, reduceIte, Nat.reduceAdd, Nat.reduceLeDiff, g1] <;> with_reducible rfl)) | (apply Ev.condF; (· simp (disch := omega) only [push_cast, Nat.reduceEqDiff, reduceIte, Nat.reduceAdd, Nat.reduceLeDiff, g1] <;> with_reducible rfl)) | (refine Ev.skip ?_; try dsimp only) | (refine Ev.exit ?_; try dsimp only) | (refine Ev.block ?_) | (refine Ev.ret ?_; try dsimp only))
  (apply EvR.callF h1.at_; (· simp only [push_cast, Nat.reduceEqDiff, reduceIte, Nat.reduceAdd, Nat.reduceLeDiff] <;> with_reducible rfl); (· exact  h1.ok _ _ m (k + n) (hr2.ext _) hn2 (by omega) (by omega)); (· intro _; simp only [push_cast, Nat.reduceEqDiff, reduceIte, Nat.reduceAdd, Nat.reduceLeDiff] <;> with_reducible rfl); rintro _ _ ⟨rfl, rfl⟩; try dsimp only)
  repeat (first | (first | (apply EvR.movT; (· exact tG)) | (apply EvR.opS; (· simp (disch := omega) only [push_cast, Nat.reduceEqDiff, reduceIte, Nat.reduceAdd, Nat.reduceLeDiff, g2] <;> with_reducible rfl)) | (apply EvR.opN; (· simp (disch := omega) only [push_cast, Nat.reduceEqDiff, reduceIte, Nat.reduceAdd, Nat.reduceLeDiff, g2] <;> with_reducible rfl))) | (first | (apply EvR.opSF; (· exact tG); (· first | rfl | (simp only [g2] <;> with_reducible rfl))) | (apply EvR.opNF; (· exact tG); (· first | rfl | (simp only [g2] <;> with_reducible rfl)))) | (first | (apply EvR.movTT; (· exact tG); (· first | rfl | (simp only [g2] <;> with_reducible rfl)); (· exact tG)) | (apply EvR.opST; (· exact tG); (· first | rfl | (simp only [g2] <;> with_reducible rfl)); (· simp (disch := omega) only [push_cast, Nat.reduceEqDiff, reduceIte, Nat.reduceAdd, Nat.reduceLeDiff, g2] <;> with_reducible rfl)) | (apply EvR.opNT; (· exact tG); (· first | rfl | (simp only [g2] <;> with_reducible rfl)); (· simp (disch := omega) only [push_cast, Nat.reduceEqDiff, reduceIte, Nat.reduceAdd, Nat.reduceLeDiff, g2] <;> with_reducible rfl))) | (apply EvR.opSU; (· exact tG)) | (apply EvR.opNU; (· exact tG)) | (refine EvR.nil ?_; try dsimp only) | (apply Ev.kp; (· simp only [push_cast, Nat.reduceEqDiff, reduceIte, Nat.reduceAdd, Nat.reduceLeDiff] <;> with_reducible rfl)) | (refine Ev.seq ?_) | (refine Ev.region ?_) | (apply Ev.regionQ; (· kernel_rfl); (· exact trivial)) | (apply Ev.condT; (· simp (disch := omega) only [push_cast, Nat.reduceEqDiff, reduceIte, Nat.reduceAdd, Nat.reduceLeDiff, g2] <;> with_reducible rfl)) | (apply Ev.condF; (· simp (disch := omega) only [push_cast, Nat.reduceEqDiff, reduceIte, Nat.reduceAdd, Nat.reduceLeDiff, g2] <;> with_reducible rfl)) | (refine Ev.skip ?_; try dsimp only) | (refine Ev.exit ?_; try dsimp only) | (refine Ev.block ?_) | (refine Ev.ret ?_; try dsimp only))
  ((first | apply Ev.retE | apply atEnd_ret | apply atEnd_normal); (· simp only [push_cast, Nat.reduceEqDiff, reduceIte, Nat.reduceAdd, Nat.reduceLeDiff] <;> with_reducible rfl)); refine end_scalar rfl ?_
  exact ⟨rfl, rfl⟩
end Go.Abs

