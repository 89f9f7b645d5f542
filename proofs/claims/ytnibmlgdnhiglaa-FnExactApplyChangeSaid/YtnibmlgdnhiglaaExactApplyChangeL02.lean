/- Laws of single functions: sheets. Conditions: the laws of what they call. -/
import Derived.Test.YtnibmlgdnhiglaaExactApplyChangeL01
namespace Go.Abs
set_option linter.unusedSimpArgs false
set_option linter.unusedVariables false
set_option maxHeartbeats 8000000
/- loop.example/g01201/laws.toFloat32S -/
def laws_toFloat32S_r0 : List SOper := [
  ⟨(some 2), none, .mov (.const (.slice none 0 0)), 0⟩]
def laws_toFloat32S_r1 : List SOper := [
  ⟨(some 5), none, .mov (.tmp 0), 0⟩,
  ⟨(some 6), none, .len false (.tmp 5), 1⟩,
  ⟨(some 7), none, .makeSlice 1 4 [(.float .f32 0)] (.tmp 6) (.tmp 6), 3⟩,
  ⟨(some 3), none, .mov (.tmp 7), 7⟩]
def laws_toFloat32S_r2 : List SOper := [
  ⟨(some 4), none, .mov (.const (.int .i64 0)), 0⟩]
def laws_toFloat32S_r3 : List SOper := [
  ⟨(some 8), none, .mov (.tmp 4), 0⟩,
  ⟨(some 9), none, .mov (.tmp 0), 0⟩,
  ⟨(some 10), none, .len false (.tmp 9), 2⟩,
  ⟨(some 11), none, .bin .lss .other (.tmp 8) (.tmp 10), 7⟩]
def laws_toFloat32S_r4 : List SOper := [
  ⟨(some 14), none, .mov (.tmp 3), 0⟩,
  ⟨(some 15), none, .mov (.tmp 4), 0⟩,
  ⟨(some 16), none, .mov (.tmp 0), 0⟩,
  ⟨(some 17), none, .mov (.tmp 4), 0⟩,
  ⟨(some 18), none, .indexAddrS 1 (.tmp 16) (.tmp 17), 12⟩,
  ⟨(some 19), none, .load1 (.tmp 18), 28⟩,
  ⟨(some 20), none, .indexAddrS 1 (.tmp 14) (.tmp 15), 63⟩,
  ⟨none, none, .store 1 (.tmp 20) (.tmp 19), 127⟩]
def laws_toFloat32S_r5 : List SOper := [
  ⟨(some 12), none, .mov (.tmp 4), 0⟩,
  ⟨(some 13), none, .bin .add .other (.tmp 12) (.const (.int .i64 1)), 1⟩,
  ⟨(some 4), none, .mov (.tmp 13), 3⟩]
def laws_toFloat32S_l6 : SCode := (.kp [0, 3, 4] (.seq (.seq (.region laws_toFloat32S_r3 false) (.kp [0, 3, 4, 11] (.cond (.tmp 11) .skip (.exit 0)))) (.kp [0, 3, 4] (.seq (.block 1 (.region laws_toFloat32S_r4 false)) (.kp [0, 3, 4] (.region laws_toFloat32S_r5 false))))))
def laws_toFloat32S_r7 : List SOper := [
  ⟨(some 21), none, .mov (.tmp 3), 0⟩,
  ⟨(some 2), none, .mov (.tmp 21), 1⟩]
def laws_toFloat32S : SFunc := ⟨22, [.tmp 2], (.kp [0] (.seq (.region laws_toFloat32S_r0 false) (.kp [0] (.seq (.region laws_toFloat32S_r1 false) (.kp [0, 3] (.seq (.seq (.region laws_toFloat32S_r2 false) (.kp [0, 3, 4] (.block 0 (.loop laws_toFloat32S_l6)))) (.kp [3] (.seq (.region laws_toFloat32S_r7 false) .ret))))))))⟩
/- loop.example/g01201/impl.within -/
def impl_within_r0 : List SOper := [
  ⟨(some 6), none, .mov (.const (.bool false)), 0⟩]
def impl_within_r1 : List SOper := [
  ⟨(some 7), none, .mov (.tmp 0), 0⟩,
  ⟨(some 8), none, .mov (.tmp 1), 0⟩,
  ⟨(some 9), none, .bin .geq .other (.tmp 7) (.tmp 8), 3⟩,
  ⟨(some 10), none, .mov (.tmp 9), 7⟩,
  ⟨(some 11), (some (10, true)), .mov (.tmp 0), 15⟩,
  ⟨(some 12), (some (10, true)), .mov (.tmp 2), 15⟩,
  ⟨(some 13), (some (10, true)), .bin .leq .other (.tmp 11) (.tmp 12), 63⟩,
  ⟨(some 14), none, .pick (.tmp 10) (.tmp 13) (.const (.bool false)), 127⟩,
  ⟨(some 6), none, .mov (.tmp 14), 255⟩]
def impl_within : SFunc := ⟨15, [.tmp 6], (.kp [0, 1, 2] (.seq (.region impl_within_r0 false) (.kp [0, 1, 2] (.seq (.region impl_within_r1 false) .ret))))⟩
def inR (n lo hi : Int) : Bool := decide (lo ≤ n) && decide (n ≤ hi)
def inR_ok (c : Contract) : Prop := ∀ (σ : Heap) (n lo hi : Int), Ret c [.int .i64 n, .int .i64 lo, .int .i64 hi] σ fun v σ' => v = .bool (inR n lo hi) ∧ σ' = σ
abbrev impl_within_ok := inR_ok
theorem impl_within_law {C : Ctab} : impl_within_ok (gcC C impl_within true) := by
  intro σ n lo hi
  refine ret_gc rfl rfl ?_
  unfold inR
  cases h : decide (lo ≤ n)
  all_goals
    repeat (first | (first | (apply EvR.movT; (· simp only [fget_cons, Nat.reduceEqDiff, reduceIte] <;> with_reducible rfl)) | (apply EvR.opS; (· simp (disch := omega) only [push_cast, Nat.reduceEqDiff, reduceIte, Nat.reduceAdd, Nat.reduceLeDiff, h] <;> with_reducible rfl)) | (apply EvR.opN; (· simp (disch := omega) only [push_cast, Nat.reduceEqDiff, reduceIte, Nat.reduceAdd, Nat.reduceLeDiff, h] <;> with_reducible rfl))) | (first | (apply EvR.opSF; (· simp only [fget_cons, Nat.reduceEqDiff, reduceIte] <;> with_reducible rfl); (· first | rfl | (simp only [h] <;> with_reducible rfl))) | (apply EvR.opNF; (· simp only [fget_cons, Nat.reduceEqDiff, reduceIte] <;> with_reducible rfl); (· first | rfl | (simp only [h] <;> with_reducible rfl)))) | (first | (apply EvR.movTT; (· simp only [fget_cons, Nat.reduceEqDiff, reduceIte] <;> with_reducible rfl); (· first | rfl | (simp only [h] <;> with_reducible rfl)); (· simp only [fget_cons, Nat.reduceEqDiff, reduceIte] <;> with_reducible rfl)) | (apply EvR.opST; (· simp only [fget_cons, Nat.reduceEqDiff, reduceIte] <;> with_reducible rfl); (· first | rfl | (simp only [h] <;> with_reducible rfl)); (· simp (disch := omega) only [push_cast, Nat.reduceEqDiff, reduceIte, Nat.reduceAdd, Nat.reduceLeDiff, h] <;> with_reducible rfl)) | (apply EvR.opNT; (· simp only [fget_cons, Nat.reduceEqDiff, reduceIte] <;> with_reducible rfl); (· first | rfl | (simp only [h] <;> with_reducible rfl)); (· simp (disch := omega) only [push_cast, Nat.reduceEqDiff, reduceIte, Nat.reduceAdd, Nat.reduceLeDiff, h] <;> with_reducible rfl))) | (apply EvR.opSU; (· simp only [fget_cons, Nat.reduceEqDiff, reduceIte] <;> with_reducible rfl)) | (apply EvR.opNU; (· simp only [fget_cons, Nat.reduceEqDiff, reduceIte] <;> with_reducible rfl)) | (refine EvR.nil ?_; try dsimp only) | (apply Ev.kp; (· simp only [push_cast, Nat.reduceEqDiff, reduceIte, Nat.reduceAdd, Nat.reduceLeDiff] <;> with_reducible rfl)) | (refine Ev.seq ?_) | (refine Ev.region ?_) | (apply Ev.regionQ; (· kernel_rfl); (· exact trivial)) | (apply Ev.condT; (· simp (disch := omega) only [push_cast, Nat.reduceEqDiff, reduceIte, Nat.reduceAdd, Nat.reduceLeDiff, h] <;> with_reducible rfl)) | (apply Ev.condF; (· simp (disch := omega) only [push_cast, Nat.reduceEqDiff, reduceIte, Nat.reduceAdd, Nat.reduceLeDiff, h] <;> with_reducible rfl)) | (refine Ev.skip ?_; try dsimp only) | (refine Ev.exit ?_; try dsimp only) | (refine Ev.block ?_) | (refine Ev.ret ?_; try dsimp only))
    ((first | apply Ev.retE | apply atEnd_ret | apply atEnd_normal); (· simp only [push_cast, Nat.reduceEqDiff, reduceIte, Nat.reduceAdd, Nat.reduceLeDiff] <;> with_reducible rfl)); refine end_scalar rfl ?_
    exact ⟨rfl, rfl⟩

/-- A row that is an object's whole. -/
abbrev slV (b n : Nat) : Value := .slice (some ⟨b, 0, none⟩) n n
abbrev rowO (xs : List Nat) : AObj := ⟨f32s xs, 1, true⟩

def laws_toFloat32S_ok (c : Contract) : Prop := ∀ (σ : Heap) (v : Value) (xs : List Nat), Row σ 1 v xs.length (f32s xs) → xs.length ≤ 1048576 →
    Ret c [v] σ fun v' σ' => v' = slV σ.length xs.length ∧ σ' = σ ++ [rowO xs]
theorem laws_toFloat32S_law {C : Ctab} : laws_toFloat32S_ok (gcC C laws_toFloat32S true) := by
  intro σ v xs hr hn
  have hl := hr.len
  have hx := hr.idxE
  have hv := hr.loadFE
  refine ret_gc rfl rfl ?_
  repeat (first | (first | (apply EvR.movT; (· simp only [fget_cons, Nat.reduceEqDiff, reduceIte] <;> with_reducible rfl)) | (apply EvR.opS; (· simp (disch := omega) only [push_cast, Nat.reduceEqDiff, reduceIte, Nat.reduceAdd, Nat.reduceLeDiff, hl] <;> with_reducible rfl)) | (apply EvR.opN; (· simp (disch := omega) only [push_cast, Nat.reduceEqDiff, reduceIte, Nat.reduceAdd, Nat.reduceLeDiff, hl] <;> with_reducible rfl))) | (first | (apply EvR.opSF; (· simp only [fget_cons, Nat.reduceEqDiff, reduceIte] <;> with_reducible rfl); (· first | rfl | (simp only [hl] <;> with_reducible rfl))) | (apply EvR.opNF; (· simp only [fget_cons, Nat.reduceEqDiff, reduceIte] <;> with_reducible rfl); (· first | rfl | (simp only [hl] <;> with_reducible rfl)))) | (first | (apply EvR.movTT; (· simp only [fget_cons, Nat.reduceEqDiff, reduceIte] <;> with_reducible rfl); (· first | rfl | (simp only [hl] <;> with_reducible rfl)); (· simp only [fget_cons, Nat.reduceEqDiff, reduceIte] <;> with_reducible rfl)) | (apply EvR.opST; (· simp only [fget_cons, Nat.reduceEqDiff, reduceIte] <;> with_reducible rfl); (· first | rfl | (simp only [hl] <;> with_reducible rfl)); (· simp (disch := omega) only [push_cast, Nat.reduceEqDiff, reduceIte, Nat.reduceAdd, Nat.reduceLeDiff, hl] <;> with_reducible rfl)) | (apply EvR.opNT; (· simp only [fget_cons, Nat.reduceEqDiff, reduceIte] <;> with_reducible rfl); (· first | rfl | (simp only [hl] <;> with_reducible rfl)); (· simp (disch := omega) only [push_cast, Nat.reduceEqDiff, reduceIte, Nat.reduceAdd, Nat.reduceLeDiff, hl] <;> with_reducible rfl))) | (apply EvR.opSU; (· simp only [fget_cons, Nat.reduceEqDiff, reduceIte] <;> with_reducible rfl)) | (apply EvR.opNU; (· simp only [fget_cons, Nat.reduceEqDiff, reduceIte] <;> with_reducible rfl)) | (refine EvR.nil ?_; try dsimp only) | (apply Ev.kp; (· simp only [push_cast, Nat.reduceEqDiff, reduceIte, Nat.reduceAdd, Nat.reduceLeDiff] <;> with_reducible rfl)) | (refine Ev.seq ?_) | (refine Ev.region ?_) | (apply Ev.regionQ; (· kernel_rfl); (· exact trivial)) | (apply Ev.condT; (· simp (disch := omega) only [push_cast, Nat.reduceEqDiff, reduceIte, Nat.reduceAdd, Nat.reduceLeDiff, hl] <;> with_reducible rfl)) | (apply Ev.condF; (· simp (disch := omega) only [push_cast, Nat.reduceEqDiff, reduceIte, Nat.reduceAdd, Nat.reduceLeDiff, hl] <;> with_reducible rfl)) | (refine Ev.skip ?_; try dsimp only) | (refine Ev.exit ?_; try dsimp only) | (refine Ev.block ?_) | (refine Ev.ret ?_; try dsimp only))
  refine Ev.mono (Q := fun o F' σ' => o = .exit 0 ∧ fkeep [3] F' = [(3, slV (σ.length + 0) xs.length)] ∧ σ' = σ ++ [rowO xs])
    (Ev.forUp (fun i => [(0, v), (3, slV (σ.length + 0) xs.length), (4, .int .i64 i)]) (fun i => σ ++ [rowO (xs.take i ++ List.replicate (xs.length - i) 0)]) (fun _ => True) xs.length 0 ?_ ?_ ?_ ?_ (Nat.zero_le _) trivial) ?_
  · intro i hi _
    have hlt : (i : Int) < xs.length := by omega
    have e1 := idx_app σ [rowO (xs.take i ++ List.replicate (xs.length - i) 0)] 1 0 0 xs.length xs.length .i64 i rfl (by rw [f32s_length]; simp; omega) (by omega) (by omega) hlt (Nat.le_refl _)
    have e2 := store1_elem σ [rowO (xs.take i ++ List.replicate (xs.length - i) 0)] 0 i xs.length (.float .f32 (xs.getD i 0)) rfl (by rw [f32s_length]; simp; omega) (by omega) hi rfl
    simp only [Int.toNat_natCast, Nat.zero_add, Nat.mul_one] at e1
    repeat (first | (first | (apply EvR.movT; (· simp only [fget_cons, Nat.reduceEqDiff, reduceIte] <;> with_reducible rfl)) | (apply EvR.opS; (· simp (disch := omega) only [push_cast, Nat.reduceEqDiff, reduceIte, Nat.reduceAdd, Nat.reduceLeDiff, hl, hlt, decide_true, hx, hv, Int.toNat_natCast, e1, e2, f32s_set, fill_step] <;> with_reducible rfl)) | (apply EvR.opN; (· simp (disch := omega) only [push_cast, Nat.reduceEqDiff, reduceIte, Nat.reduceAdd, Nat.reduceLeDiff, hl, hlt, decide_true, hx, hv, Int.toNat_natCast, e1, e2, f32s_set, fill_step] <;> with_reducible rfl))) | (first | (apply EvR.opSF; (· simp only [fget_cons, Nat.reduceEqDiff, reduceIte] <;> with_reducible rfl); (· first | rfl | (simp only [hl, hlt, decide_true, hx, hv, Int.toNat_natCast, e1, e2, f32s_set, fill_step] <;> with_reducible rfl))) | (apply EvR.opNF; (· simp only [fget_cons, Nat.reduceEqDiff, reduceIte] <;> with_reducible rfl); (· first | rfl | (simp only [hl, hlt, decide_true, hx, hv, Int.toNat_natCast, e1, e2, f32s_set, fill_step] <;> with_reducible rfl)))) | (first | (apply EvR.movTT; (· simp only [fget_cons, Nat.reduceEqDiff, reduceIte] <;> with_reducible rfl); (· first | rfl | (simp only [hl, hlt, decide_true, hx, hv, Int.toNat_natCast, e1, e2, f32s_set, fill_step] <;> with_reducible rfl)); (· simp only [fget_cons, Nat.reduceEqDiff, reduceIte] <;> with_reducible rfl)) | (apply EvR.opST; (· simp only [fget_cons, Nat.reduceEqDiff, reduceIte] <;> with_reducible rfl); (· first | rfl | (simp only [hl, hlt, decide_true, hx, hv, Int.toNat_natCast, e1, e2, f32s_set, fill_step] <;> with_reducible rfl)); (· simp (disch := omega) only [push_cast, Nat.reduceEqDiff, reduceIte, Nat.reduceAdd, Nat.reduceLeDiff, hl, hlt, decide_true, hx, hv, Int.toNat_natCast, e1, e2, f32s_set, fill_step] <;> with_reducible rfl)) | (apply EvR.opNT; (· simp only [fget_cons, Nat.reduceEqDiff, reduceIte] <;> with_reducible rfl); (· first | rfl | (simp only [hl, hlt, decide_true, hx, hv, Int.toNat_natCast, e1, e2, f32s_set, fill_step] <;> with_reducible rfl)); (· simp (disch := omega) only [push_cast, Nat.reduceEqDiff, reduceIte, Nat.reduceAdd, Nat.reduceLeDiff, hl, hlt, decide_true, hx, hv, Int.toNat_natCast, e1, e2, f32s_set, fill_step] <;> with_reducible rfl))) | (apply EvR.opSU; (· simp only [fget_cons, Nat.reduceEqDiff, reduceIte] <;> with_reducible rfl)) | (apply EvR.opNU; (· simp only [fget_cons, Nat.reduceEqDiff, reduceIte] <;> with_reducible rfl)) | (refine EvR.nil ?_; try dsimp only) | (apply Ev.kp; (· simp only [push_cast, Nat.reduceEqDiff, reduceIte, Nat.reduceAdd, Nat.reduceLeDiff] <;> with_reducible rfl)) | (refine Ev.seq ?_) | (refine Ev.region ?_) | (apply Ev.regionQ; (· kernel_rfl); (· exact trivial)) | (apply Ev.condT; (· simp (disch := omega) only [push_cast, Nat.reduceEqDiff, reduceIte, Nat.reduceAdd, Nat.reduceLeDiff, hl, hlt, decide_true, hx, hv, Int.toNat_natCast, e1, e2, f32s_set, fill_step] <;> with_reducible rfl)) | (apply Ev.condF; (· simp (disch := omega) only [push_cast, Nat.reduceEqDiff, reduceIte, Nat.reduceAdd, Nat.reduceLeDiff, hl, hlt, decide_true, hx, hv, Int.toNat_natCast, e1, e2, f32s_set, fill_step] <;> with_reducible rfl)) | (refine Ev.skip ?_; try dsimp only) | (refine Ev.exit ?_; try dsimp only) | (refine Ev.block ?_) | (refine Ev.ret ?_; try dsimp only))
    exact ⟨by simp only [push_cast, Nat.reduceEqDiff, reduceIte, Nat.reduceAdd, Nat.reduceLeDiff, Int.natCast_add, Int.natCast_one] <;> rfl, rfl, trivial⟩
  · intro _
    repeat (first | (first | (apply EvR.movT; (· simp only [fget_cons, Nat.reduceEqDiff, reduceIte] <;> with_reducible rfl)) | (apply EvR.opS; (· simp (disch := omega) only [push_cast, Nat.reduceEqDiff, reduceIte, Nat.reduceAdd, Nat.reduceLeDiff, hl, Int.lt_irrefl, decide_false] <;> with_reducible rfl)) | (apply EvR.opN; (· simp (disch := omega) only [push_cast, Nat.reduceEqDiff, reduceIte, Nat.reduceAdd, Nat.reduceLeDiff, hl, Int.lt_irrefl, decide_false] <;> with_reducible rfl))) | (first | (apply EvR.opSF; (· simp only [fget_cons, Nat.reduceEqDiff, reduceIte] <;> with_reducible rfl); (· first | rfl | (simp only [hl, Int.lt_irrefl, decide_false] <;> with_reducible rfl))) | (apply EvR.opNF; (· simp only [fget_cons, Nat.reduceEqDiff, reduceIte] <;> with_reducible rfl); (· first | rfl | (simp only [hl, Int.lt_irrefl, decide_false] <;> with_reducible rfl)))) | (first | (apply EvR.movTT; (· simp only [fget_cons, Nat.reduceEqDiff, reduceIte] <;> with_reducible rfl); (· first | rfl | (simp only [hl, Int.lt_irrefl, decide_false] <;> with_reducible rfl)); (· simp only [fget_cons, Nat.reduceEqDiff, reduceIte] <;> with_reducible rfl)) | (apply EvR.opST; (· simp only [fget_cons, Nat.reduceEqDiff, reduceIte] <;> with_reducible rfl); (· first | rfl | (simp only [hl, Int.lt_irrefl, decide_false] <;> with_reducible rfl)); (· simp (disch := omega) only [push_cast, Nat.reduceEqDiff, reduceIte, Nat.reduceAdd, Nat.reduceLeDiff, hl, Int.lt_irrefl, decide_false] <;> with_reducible rfl)) | (apply EvR.opNT; (· simp only [fget_cons, Nat.reduceEqDiff, reduceIte] <;> with_reducible rfl); (· first | rfl | (simp only [hl, Int.lt_irrefl, decide_false] <;> with_reducible rfl)); (· simp (disch := omega) only [push_cast, Nat.reduceEqDiff, reduceIte, Nat.reduceAdd, Nat.reduceLeDiff, hl, Int.lt_irrefl, decide_false] <;> with_reducible rfl))) | (apply EvR.opSU; (· simp only [fget_cons, Nat.reduceEqDiff, reduceIte] <;> with_reducible rfl)) | (apply EvR.opNU; (· simp only [fget_cons, Nat.reduceEqDiff, reduceIte] <;> with_reducible rfl)) | (refine EvR.nil ?_; try dsimp only) | (apply Ev.kp; (· simp only [push_cast, Nat.reduceEqDiff, reduceIte, Nat.reduceAdd, Nat.reduceLeDiff] <;> with_reducible rfl)) | (refine Ev.seq ?_) | (refine Ev.region ?_) | (apply Ev.regionQ; (· kernel_rfl); (· exact trivial)) | (apply Ev.condT; (· simp (disch := omega) only [push_cast, Nat.reduceEqDiff, reduceIte, Nat.reduceAdd, Nat.reduceLeDiff, hl, Int.lt_irrefl, decide_false] <;> with_reducible rfl)) | (apply Ev.condF; (· simp (disch := omega) only [push_cast, Nat.reduceEqDiff, reduceIte, Nat.reduceAdd, Nat.reduceLeDiff, hl, Int.lt_irrefl, decide_false] <;> with_reducible rfl)) | (refine Ev.skip ?_; try dsimp only) | (refine Ev.exit ?_; try dsimp only) | (refine Ev.block ?_) | (refine Ev.ret ?_; try dsimp only))
    refine ⟨rfl, by simp only [push_cast, Nat.reduceEqDiff, reduceIte, Nat.reduceAdd, Nat.reduceLeDiff] <;> rfl, ?_⟩
    simp
  · simp only [push_cast, Nat.reduceEqDiff, reduceIte, Nat.reduceAdd, Nat.reduceLeDiff] <;> rfl
  · simp [f32s_replicate]
  · rintro _ _ _ ⟨rfl, hF, rfl⟩
    dsimp only
    refine Ev.kp hF ?_
    repeat (first | (first | (apply EvR.movT; (· simp only [fget_cons, Nat.reduceEqDiff, reduceIte] <;> with_reducible rfl)) | (apply EvR.opS; (· simp (disch := omega) only [push_cast, Nat.reduceEqDiff, reduceIte, Nat.reduceAdd, Nat.reduceLeDiff] <;> with_reducible rfl)) | (apply EvR.opN; (· simp (disch := omega) only [push_cast, Nat.reduceEqDiff, reduceIte, Nat.reduceAdd, Nat.reduceLeDiff] <;> with_reducible rfl))) | (first | (apply EvR.opSF; (· simp only [fget_cons, Nat.reduceEqDiff, reduceIte] <;> with_reducible rfl); (· first | rfl | (simp only [] <;> with_reducible rfl))) | (apply EvR.opNF; (· simp only [fget_cons, Nat.reduceEqDiff, reduceIte] <;> with_reducible rfl); (· first | rfl | (simp only [] <;> with_reducible rfl)))) | (first | (apply EvR.movTT; (· simp only [fget_cons, Nat.reduceEqDiff, reduceIte] <;> with_reducible rfl); (· first | rfl | (simp only [] <;> with_reducible rfl)); (· simp only [fget_cons, Nat.reduceEqDiff, reduceIte] <;> with_reducible rfl)) | (apply EvR.opST; (· simp only [fget_cons, Nat.reduceEqDiff, reduceIte] <;> with_reducible rfl); (· first | rfl | (simp only [] <;> with_reducible rfl)); (· simp (disch := omega) only [push_cast, Nat.reduceEqDiff, reduceIte, Nat.reduceAdd, Nat.reduceLeDiff] <;> with_reducible rfl)) | (apply EvR.opNT; (· simp only [fget_cons, Nat.reduceEqDiff, reduceIte] <;> with_reducible rfl); (· first | rfl | (simp only [] <;> with_reducible rfl)); (· simp (disch := omega) only [push_cast, Nat.reduceEqDiff, reduceIte, Nat.reduceAdd, Nat.reduceLeDiff] <;> with_reducible rfl))) | (apply EvR.opSU; (· simp only [fget_cons, Nat.reduceEqDiff, reduceIte] <;> with_reducible rfl)) | (apply EvR.opNU; (· simp only [fget_cons, Nat.reduceEqDiff, reduceIte] <;> with_reducible rfl)) | (refine EvR.nil ?_; try dsimp only) | (apply Ev.kp; (· simp only [push_cast, Nat.reduceEqDiff, reduceIte, Nat.reduceAdd, Nat.reduceLeDiff] <;> with_reducible rfl)) | (refine Ev.seq ?_) | (refine Ev.region ?_) | (apply Ev.regionQ; (· kernel_rfl); (· exact trivial)) | (apply Ev.condT; (· simp (disch := omega) only [push_cast, Nat.reduceEqDiff, reduceIte, Nat.reduceAdd, Nat.reduceLeDiff] <;> with_reducible rfl)) | (apply Ev.condF; (· simp (disch := omega) only [push_cast, Nat.reduceEqDiff, reduceIte, Nat.reduceAdd, Nat.reduceLeDiff] <;> with_reducible rfl)) | (refine Ev.skip ?_; try dsimp only) | (refine Ev.exit ?_; try dsimp only) | (refine Ev.block ?_) | (refine Ev.ret ?_; try dsimp only))
    ((first | apply Ev.retE | apply atEnd_ret | apply atEnd_normal); (· simp only [push_cast, Nat.reduceEqDiff, reduceIte, Nat.reduceAdd, Nat.reduceLeDiff] <;> with_reducible rfl))
    refine end_rows [rowO xs] [0] ?_ rfl (by decide) ?_ ⟨rfl, rfl⟩
    · simp [gcTop, gcVal, gcLeaf, gcLeaves, gcVals, constOk, gc_lt, gc_lt0]
    · simp [allConst, f32s, constOk]

end Go.Abs

