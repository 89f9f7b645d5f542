/- Laws of functions: fields that are scaled and added. Conditions: the laws of what they call. -/
import Derived.Test.YtdlicidmkakooaaOutlinedL53
namespace Go.Abs

set_option linter.unusedSimpArgs false
set_option linter.unusedVariables false
set_option maxHeartbeats 8000000
set_option maxRecDepth 20000
/- loop.example/g01201/impl.both -/
def impl_both_r0 : List SOper := [
 ⟨some 6, none, .mov (.const (.slice none 0 0)), 0⟩]
def impl_both_r1 : List SOper := [
 ⟨some 10, none, .buildSlice 1 0 [] [], 0⟩,
 ⟨some 7, none, .mov (.tmp 10), 1⟩]
def impl_both_r2 : List SOper := [
 ⟨some 11, none, .mov (.tmp 0), 0⟩,
 ⟨some 12, none, .len false (.tmp 11), 1⟩,
 ⟨some 13, none, .mov (.const (.int .i64 0)), 0⟩]
def impl_both_r3 : List SOper := [
 ⟨some 14, none, .bin .lss .other (.tmp 13) (.tmp 12), 0⟩]
def impl_both_r4 : List SOper := [
 ⟨some 15, none, .mov (.tmp 13), 0⟩,
 ⟨some 16, none, .indexAddrS 1 (.tmp 11) (.tmp 13), 0⟩,
 ⟨some 17, none, .load1 (.tmp 16), 2⟩,
 ⟨some 8, none, .mov (.tmp 15), 7⟩,
 ⟨some 9, none, .mov (.tmp 17), 15⟩]
def impl_both_r5 : List SOper := [
 ⟨some 18, none, .mov (.tmp 7), 0⟩,
 ⟨some 19, none, .mov (.tmp 2), 0⟩,
 ⟨some 20, none, .mov (.tmp 9), 0⟩,
 ⟨some 21, none, .mov (.tmp 1), 0⟩,
 ⟨some 22, none, .mov (.tmp 8), 0⟩,
 ⟨some 23, none, .indexAddrS 1 (.tmp 21) (.tmp 22), 24⟩,
 ⟨some 24, none, .load1 (.tmp 23), 56⟩,
 ⟨some 25, none, .call (.tmp 19) [(.tmp 20), (.tmp 24)], 126⟩,
 ⟨some 26, none, .buildSlice 1 1 [(.float .f32 0)] [(0, 1, (.tmp 25))], 254⟩,
 ⟨some 27, none, .append 1 4 (.tmp 18) (.tmp 26), 511⟩,
 ⟨some 7, none, .mov (.tmp 27), 1023⟩]
def impl_both_r6 : List SOper := [
 ⟨some 28, none, .bin .add .other (.tmp 13) (.const (.int .i64 1)), 0⟩,
 ⟨some 13, none, .mov (.tmp 28), 1⟩]
def impl_both_l7 : SCode := (.kp [1,2,7,11,12,13] (.seq (.region impl_both_r3 false) (.kp [1,2,7,11,12,13,14] (.seq (.cond (.tmp 14) .skip (.exit 0)) (.kp [1,2,7,11,12,13] (.seq (.block 1 (.seq (.region impl_both_r4 false) (.kp [1,2,7,8,9,11,12,13] (.region impl_both_r5 false)))) (.kp [1,2,7,11,12,13] (.region impl_both_r6 false))))))))
def impl_both_r8 : List SOper := [
 ⟨some 29, none, .mov (.tmp 7), 0⟩,
 ⟨some 6, none, .mov (.tmp 29), 1⟩]
def impl_both : SFunc := ⟨30, [.tmp 6], (.kp [0,1,2] (.seq (.region impl_both_r0 false) (.kp [0,1,2] (.seq (.region impl_both_r1 false) (.kp [0,1,2,7] (.seq (.seq (.region impl_both_r2 false) (.kp [1,2,7,11,12,13] (.block 0 (.loop impl_both_l7)))) (.kp [7] (.seq (.region impl_both_r8 false) .ret))))))))⟩

/- loop.example/g01201/impl.ScaleField$1 -/
def impl_ScaleFieldC1_r0 : List SOper := [
 ⟨some 5, none, .mov (.const (.float .f32 0)), 0⟩]
def impl_ScaleFieldC1_r1 : List SOper := [
 ⟨some 6, none, .mov (.tmp 0), 0⟩,
 ⟨some 7, none, .load1 (.tmp 2), 0⟩,
 ⟨some 8, none, .bin .mul .other (.tmp 6) (.tmp 7), 3⟩,
 ⟨some 5, none, .mov (.tmp 8), 7⟩]
def impl_ScaleFieldC1 : SFunc := ⟨9, [.tmp 5], (.kp [0,2] (.seq (.region impl_ScaleFieldC1_r0 false) (.kp [0,2] (.seq (.region impl_ScaleFieldC1_r1 false) .ret))))⟩

/- loop.example/g01201/impl.ScaleField -/
def impl_ScaleField_r0 : List SOper := [
 ⟨some 3, none, .box (.tmp 0), 0⟩,
 ⟨some 4, none, .box (.tmp 1), 0⟩,
 ⟨some 5, none, .box (.tmp 2), 0⟩,
 ⟨some 6, none, .alloc [(.slice none 0 0), (.slice none 0 0), (.slice none 0 0)], 0⟩,
 ⟨some 7, none, .mov (.const (.bool false)), 0⟩]
def impl_ScaleField_r1 (i_impl_IsField : FuncId) : List SOper := [
 ⟨some 9, none, .loadN 5 (.tmp 3), 0⟩,
 ⟨some 10, none, .loadN 3 (.tmp 4), 0⟩,
 ⟨some 11, none, .call (.func i_impl_IsField) [(.tmp 9), (.tmp 10)], 3⟩,
 ⟨some 12, none, .un .not (.tmp 11), 7⟩]
def impl_ScaleField_r2 : List SOper := [
 ⟨some 13, none, .build [(.slice none 0 0), (.slice none 0 0), (.slice none 0 0)] [], 0⟩,
 ⟨none, none, .store 3 (.tmp 6) (.tmp 13), 1⟩,
 ⟨some 7, none, .mov (.const (.bool false)), 3⟩]
def impl_ScaleField_r3 (i_impl_ScaleFieldC1 : FuncId) : List SOper := [
 ⟨some 14, none, .makeFunc i_impl_ScaleFieldC1 [] [(.tmp 5)], 0⟩,
 ⟨some 8, none, .mov (.tmp 14), 1⟩]
def impl_ScaleField_r4 (i_impl_both i_impl_validField : FuncId) : List SOper := [
 ⟨some 15, none, .loadN 5 (.tmp 3), 0⟩,
 ⟨some 16, none, .fieldAddr 0 (.tmp 4), 0⟩,
 ⟨some 17, none, .load1 (.tmp 16), 2⟩,
 ⟨some 18, none, .fieldAddr 0 (.tmp 4), 0⟩,
 ⟨some 19, none, .load1 (.tmp 18), 8⟩,
 ⟨some 20, none, .mov (.tmp 8), 0⟩,
 ⟨some 21, none, .call (.func i_impl_both) [(.tmp 17), (.tmp 19), (.tmp 20)], 62⟩,
 ⟨some 22, none, .fieldAddr 1 (.tmp 4), 0⟩,
 ⟨some 23, none, .load1 (.tmp 22), 128⟩,
 ⟨some 24, none, .fieldAddr 1 (.tmp 4), 0⟩,
 ⟨some 25, none, .load1 (.tmp 24), 512⟩,
 ⟨some 26, none, .mov (.tmp 8), 0⟩,
 ⟨some 27, none, .call (.func i_impl_both) [(.tmp 23), (.tmp 25), (.tmp 26)], 4094⟩,
 ⟨some 28, none, .fieldAddr 2 (.tmp 4), 0⟩,
 ⟨some 29, none, .load1 (.tmp 28), 8192⟩,
 ⟨some 30, none, .fieldAddr 2 (.tmp 4), 0⟩,
 ⟨some 31, none, .load1 (.tmp 30), 32768⟩,
 ⟨some 32, none, .mov (.tmp 8), 0⟩,
 ⟨some 33, none, .call (.func i_impl_both) [(.tmp 29), (.tmp 31), (.tmp 32)], 262142⟩,
 ⟨some 34, none, .build [(.slice none 0 0), (.slice none 0 0), (.slice none 0 0)] [(0, 1, (.tmp 21)), (1, 1, (.tmp 27)), (2, 1, (.tmp 33))], 524286⟩,
 ⟨some 35, none, .call (.func i_impl_validField) [(.tmp 15), (.tmp 34)], 1048575⟩,
 ⟨some 36, none, .extract (.tmp 35) 0, 2097151⟩,
 ⟨some 37, none, .extract (.tmp 35) 1, 2097151⟩,
 ⟨none, none, .store 3 (.tmp 6) (.tmp 36), 8388607⟩,
 ⟨some 7, none, .mov (.tmp 37), 16777215⟩]
def impl_ScaleField (i_impl_IsField i_impl_ScaleFieldC1 i_impl_both i_impl_validField : FuncId) : SFunc := ⟨38, [.cellN 6 3, .tmp 7], (.kp [0,1,2] (.seq (.region impl_ScaleField_r0 false) (.kp [3,4,5,6] (.seq (.seq (.region (impl_ScaleField_r1 i_impl_IsField) false) (.kp [3,4,5,6,12] (.cond (.tmp 12) (.seq (.region impl_ScaleField_r2 false) .ret) .skip))) (.kp [3,4,5,6] (.seq (.region (impl_ScaleField_r3 i_impl_ScaleFieldC1) false) (.kp [3,4,6,8] (.seq (.region (impl_ScaleField_r4 i_impl_both i_impl_validField) true) .ret))))))))⟩
theorem impl_ScaleField_r4_dr {i_impl_both i_impl_validField : FuncId} : drawOkW wStat (impl_ScaleField_r4 i_impl_both i_impl_validField) = true := by kernel_rfl
attribute [push_cast] impl_ScaleField_r4_dr
/- loop.example/g01201/impl.AddFields$1 -/
def impl_AddFieldsC1_r0 : List SOper := [
 ⟨some 4, none, .mov (.const (.float .f32 0)), 0⟩]
def impl_AddFieldsC1_r1 : List SOper := [
 ⟨some 5, none, .mov (.tmp 0), 0⟩,
 ⟨some 6, none, .mov (.tmp 1), 0⟩,
 ⟨some 7, none, .bin .add .other (.tmp 5) (.tmp 6), 3⟩,
 ⟨some 4, none, .mov (.tmp 7), 7⟩]
def impl_AddFieldsC1 : SFunc := ⟨8, [.tmp 4], (.kp [0,1] (.seq (.region impl_AddFieldsC1_r0 false) (.kp [0,1] (.seq (.region impl_AddFieldsC1_r1 false) .ret))))⟩

/- loop.example/g01201/impl.AddFields -/
def impl_AddFields_r0 : List SOper := [
 ⟨some 3, none, .box (.tmp 0), 0⟩,
 ⟨some 4, none, .box (.tmp 1), 0⟩,
 ⟨some 5, none, .box (.tmp 2), 0⟩,
 ⟨some 6, none, .alloc [(.slice none 0 0), (.slice none 0 0), (.slice none 0 0)], 0⟩,
 ⟨some 7, none, .mov (.const (.bool false)), 0⟩]
def impl_AddFields_r1 (i_impl_IsField : FuncId) : List SOper := [
 ⟨some 9, none, .loadN 5 (.tmp 3), 0⟩,
 ⟨some 10, none, .loadN 3 (.tmp 4), 0⟩,
 ⟨some 11, none, .call (.func i_impl_IsField) [(.tmp 9), (.tmp 10)], 3⟩,
 ⟨some 12, none, .un .not (.tmp 11), 7⟩,
 ⟨some 13, none, .mov (.tmp 12), 15⟩,
  ⟨(some 14), (some (13, false)), .loadN 5 (.tmp 3), 31⟩,
  ⟨(some 15), (some (13, false)), .loadN 3 (.tmp 5), 31⟩,
  ⟨(some 16), (some (13, false)), .call (.func i_impl_IsField) [(.tmp 14), (.tmp 15)], 127⟩,
  ⟨(some 17), (some (13, false)), .un .not (.tmp 16), 255⟩,
 ⟨some 18, none, .pick (.tmp 13) (.const (.bool true)) (.tmp 17), 511⟩]
def impl_AddFields_r2 : List SOper := [
 ⟨some 19, none, .build [(.slice none 0 0), (.slice none 0 0), (.slice none 0 0)] [], 0⟩,
 ⟨none, none, .store 3 (.tmp 6) (.tmp 19), 1⟩,
 ⟨some 7, none, .mov (.const (.bool false)), 3⟩]
def impl_AddFields_r3 (i_impl_AddFieldsC1 : FuncId) : List SOper := [
 ⟨some 8, none, .mov (.func i_impl_AddFieldsC1), 0⟩]
def impl_AddFields_r4 (i_impl_both i_impl_validField : FuncId) : List SOper := [
 ⟨some 20, none, .loadN 5 (.tmp 3), 0⟩,
 ⟨some 21, none, .fieldAddr 0 (.tmp 4), 0⟩,
 ⟨some 22, none, .load1 (.tmp 21), 2⟩,
 ⟨some 23, none, .fieldAddr 0 (.tmp 5), 0⟩,
 ⟨some 24, none, .load1 (.tmp 23), 8⟩,
 ⟨some 25, none, .mov (.tmp 8), 0⟩,
 ⟨some 26, none, .call (.func i_impl_both) [(.tmp 22), (.tmp 24), (.tmp 25)], 62⟩,
 ⟨some 27, none, .fieldAddr 1 (.tmp 4), 0⟩,
 ⟨some 28, none, .load1 (.tmp 27), 128⟩,
 ⟨some 29, none, .fieldAddr 1 (.tmp 5), 0⟩,
 ⟨some 30, none, .load1 (.tmp 29), 512⟩,
 ⟨some 31, none, .mov (.tmp 8), 0⟩,
 ⟨some 32, none, .call (.func i_impl_both) [(.tmp 28), (.tmp 30), (.tmp 31)], 4094⟩,
 ⟨some 33, none, .fieldAddr 2 (.tmp 4), 0⟩,
 ⟨some 34, none, .load1 (.tmp 33), 8192⟩,
 ⟨some 35, none, .fieldAddr 2 (.tmp 5), 0⟩,
 ⟨some 36, none, .load1 (.tmp 35), 32768⟩,
 ⟨some 37, none, .mov (.tmp 8), 0⟩,
 ⟨some 38, none, .call (.func i_impl_both) [(.tmp 34), (.tmp 36), (.tmp 37)], 262142⟩,
 ⟨some 39, none, .build [(.slice none 0 0), (.slice none 0 0), (.slice none 0 0)] [(0, 1, (.tmp 26)), (1, 1, (.tmp 32)), (2, 1, (.tmp 38))], 524286⟩,
 ⟨some 40, none, .call (.func i_impl_validField) [(.tmp 20), (.tmp 39)], 1048575⟩,
 ⟨some 41, none, .extract (.tmp 40) 0, 2097151⟩,
 ⟨some 42, none, .extract (.tmp 40) 1, 2097151⟩,
 ⟨none, none, .store 3 (.tmp 6) (.tmp 41), 8388607⟩,
 ⟨some 7, none, .mov (.tmp 42), 16777215⟩]
def impl_AddFields (i_impl_IsField i_impl_AddFieldsC1 i_impl_both i_impl_validField : FuncId) : SFunc := ⟨43, [.cellN 6 3, .tmp 7], (.kp [0,1,2] (.seq (.region impl_AddFields_r0 false) (.kp [3,4,5,6] (.seq (.seq (.region (impl_AddFields_r1 i_impl_IsField) false) (.kp [3,4,5,6,18] (.cond (.tmp 18) (.seq (.region impl_AddFields_r2 false) .ret) .skip))) (.kp [3,4,5,6] (.seq (.region (impl_AddFields_r3 i_impl_AddFieldsC1) false) (.kp [3,4,5,6,8] (.seq (.region (impl_AddFields_r4 i_impl_both i_impl_validField) true) .ret))))))))⟩
theorem impl_AddFields_r4_dr {i_impl_both i_impl_validField : FuncId} : drawOkW wStat (impl_AddFields_r4 i_impl_both i_impl_validField) = true := by kernel_rfl
attribute [push_cast] impl_AddFields_r4_dr
abbrev scaleL (by_ : Nat) (xs : List Nat) : List Nat := newM (fun i => fbin .mul .f32 (xs.getD i 0) by_) xs
abbrev addL (a b : List Nat) : List Nat := newM (fun i => fbin .add .f32 (a.getD i 0) (b.getD i 0)) a
theorem newM_succ (g : Nat → Nat) (j : Nat) : (List.range (j + 1)).map g = (List.range j).map g ++ [g j] := by rw [List.range_succ, List.map_append]; rfl

def impl_both_ok (k : FuncId) (ck : Contract) (c : Contract) : Prop := ∀ (σ : Heap) (va vb : Value) (a b : List Nat) (capt : Array Value) (g : Nat → Nat), Row σ 1 va a.length (f32s a) → Row σ 1 vb b.length (f32s b) → b.length = a.length → a.length ≤ 1048576 →
    (∀ (i : Nat), i < a.length → ∀ τ, Ret ck ([.float .f32 (a.getD i 0), .float .f32 (b.getD i 0)] ++ capt.toList) (σ ++ τ) fun v σ' => v = .float .f32 (g i) ∧ σ' = σ ++ τ) →
    Ret c [va, vb, .func (.func k) #[] capt] σ fun v σ' => v = slV σ.length a.length ∧ σ' = σ ++ [rowO (newM g a)]
theorem impl_both_law {C : Ctab} {k : FuncId} {ck : Contract} (hk : C k = some ck) : impl_both_ok k ck (gcC C impl_both true) := by
  intro σ va vb a b capt g r1 r2 hl hn hstep
  have k1 := r1.ok
  have k2 := r2.ok
  refine ret_gc rfl rfl ?_
  repeat' (first | refine ff ?_ | ((first | refine sR ?_ ?_ | refine sC ?_ ?_) <;> (intro hb; (try rw [hb]); (try simp only [bb] at hb); (try (exfalso; first | omega | exact hb trivial)))) | (apply endS trivial; rotate_left; (· exact eva); (· rfl); try refine ⟨?_, rfl⟩) | fail)
  refine Ev.whlH (S := Nat × Heap) (fun st => a.length - st.1) (fun st => [(7, .slice (some ⟨σ.length + 0, 0, none⟩) st.1 st.1), (13, .int .i64 st.1)]) (fun st => σ ++ (rowO ((List.range st.1).map g) :: st.2)) (fun st => st.1 ≤ a.length) (0, []) (by exact tF) rfl (Nat.zero_le _) ?_
  rintro ⟨i, rub⟩ F hF hi
  dsimp only at hF hi ⊢
  (simp only [List.cons_append, List.nil_append, ↓fget_cons, fkeep_cons, fkeep_nil, Nat.reduceEqDiff, reduceIte] at hF; subst hF)
  by_cases hlt : i < a.length
  · have e := newM_succ g i
    repeat' (first | refine ff ?_ | ((first | refine sR ?_ ?_ | refine sC ?_ ?_) <;> (intro hb; (try rw [hb]); (try simp only [bb] at hb); (try (exfalso; first | omega | exact hb trivial)))) | (apply endS trivial; rotate_left; (· exact eva); (· rfl); try refine ⟨?_, rfl⟩) | fail)
    (apply EvR.aDyn hk; (· exact rfl); (· exact eva); (· exact  hstep i hlt _); (rintro _ _ ⟨rfl, rfl⟩; refine EvR.nrm ?_))
    repeat' (first | refine ff ?_ | ((first | refine sR ?_ ?_ | refine sC ?_ ?_) <;> (intro hb; (try rw [hb]); (try simp only [bb] at hb); (try (exfalso; first | omega | exact hb trivial)))) | (apply endS trivial; rotate_left; (· exact eva); (· rfl); try refine ⟨?_, rfl⟩) | fail)
    refine ⟨(i + 1, rub ++ [rowO [g i]]), by dsimp only; omega, by exact tF, ?_, by dsimp only; omega⟩
    dsimp only
    rw [e]
    simp [f32s]
  · obtain rfl : i = a.length := by omega
    repeat' (first | refine ff ?_ | ((first | refine sR ?_ ?_ | refine sC ?_ ?_) <;> (intro hb; (try rw [hb]); (try simp only [bb] at hb); (try (exfalso; first | omega | exact hb trivial)))) | (apply endS trivial; rotate_left; (· exact eva); (· rfl); try refine ⟨?_, rfl⟩) | fail)
    show atEnd _ _ _ _ (σ ++ rowO (newM g a) :: rub)
    (apply endR [0] trivial ⟨rfl, rfl⟩; (· exact eva); (· simp [gcTop, gcVal, gcLeaf, gcLeaves, gcVals, constOk, gc_lt, gc_lt0]); (· rfl); (· decide); (· simp [allConst, f32s, i64s, b8s, bools, constOk]))

def impl_ScaleFieldC1_ok (c : Contract) : Prop := ∀ (σ : Heap) (p x y b : Nat) (r : Bool), σ[p]? = some ⟨[.float .f32 b], 0, r⟩ → Ret c [.float .f32 x, .float .f32 y, .pointer (some ⟨p, 0, none⟩)] σ fun v σ' => v = .float .f32 (fbin .mul .f32 x b) ∧ σ' = σ
theorem impl_ScaleFieldC1_law {C : Ctab} : impl_ScaleFieldC1_ok (gcC C impl_ScaleFieldC1 true) := by
  intro σ p x y b r hp
  have p1 := PtAt.whole hp
  refine ret_gc rfl rfl ?_
  repeat' (first | refine ff ?_ | ((first | refine sR ?_ ?_ | refine sC ?_ ?_) <;> (intro hb; (try rw [hb]); (try simp only [bb] at hb); (try (exfalso; first | omega | exact hb trivial)))) | (apply endS trivial; rotate_left; (· exact eva); (· rfl); try refine ⟨?_, rfl⟩) | fail)
  all_goals rfl
def impl_AddFieldsC1_ok (c : Contract) : Prop := ∀ (σ : Heap) (x y : Nat), Ret c [.float .f32 x, .float .f32 y] σ fun v σ' => v = .float .f32 (fbin .add .f32 x y) ∧ σ' = σ
theorem impl_AddFieldsC1_law {C : Ctab} : impl_AddFieldsC1_ok (gcC C impl_AddFieldsC1 true) := by
  intro σ x y
  refine ret_gc rfl rfl ?_
  repeat' (first | refine ff ?_ | ((first | refine sR ?_ ?_ | refine sC ?_ ?_) <;> (intro hb; (try rw [hb]); (try simp only [bb] at hb); (try (exfalso; first | omega | exact hb trivial)))) | (apply endS trivial; rotate_left; (· exact eva); (· rfl); try refine ⟨?_, rfl⟩) | fail)
  all_goals rfl

def scOk (w h : Int) (wr : Bool) (sp lo e x y : List Nat) (b : Nat) : Bool := isField w h wr sp lo e x y && isField w h wr sp lo (scaleL b e) (scaleL b x) (scaleL b y)
def ScaleField_ok (c : Contract) : Prop := ∀ (σ : Heap) (w h : Int) (wr : Bool) (sv lv : Value) (sp lo : List Nat) (ev xv yv : Value) (e x y : List Nat) (b : Nat), ShR σ sv lv sp lo → sp.length ≤ 1048576 → lo.length ≤ 1048576 → FlR σ ev xv yv e x y → e.length ≤ 1048576 → x.length ≤ 1048576 → y.length ≤ 1048576 →
    Ret c [shV w h wr sv lv, fV ev xv yv, .float .f32 b] σ fun v σ' => v = flRes (scOk w h wr sp lo e x y b) σ.length (scaleL b e) (scaleL b x) (scaleL b y) ∧ σ' = σ ++ flRows (scOk w h wr sp lo e x y b) (scaleL b e) (scaleL b x) (scaleL b y)
abbrev impl_ScaleField_ok := ScaleField_ok
def adOk (w h : Int) (wr : Bool) (sp lo e x y e' x' y' : List Nat) : Bool := isField w h wr sp lo e x y && isField w h wr sp lo e' x' y' && isField w h wr sp lo (addL e e') (addL x x') (addL y y')
def AddFields_ok (c : Contract) : Prop := ∀ (σ : Heap) (w h : Int) (wr : Bool) (sv lv : Value) (sp lo : List Nat) (ev xv yv : Value) (e x y : List Nat) (ev' xv' yv' : Value) (e' x' y' : List Nat), ShR σ sv lv sp lo → sp.length ≤ 1048576 → lo.length ≤ 1048576 → FlR σ ev xv yv e x y → e.length ≤ 1048576 → x.length ≤ 1048576 → y.length ≤ 1048576 →
    FlR σ ev' xv' yv' e' x' y' → e'.length ≤ 1048576 → x'.length ≤ 1048576 → y'.length ≤ 1048576 →
    Ret c [shV w h wr sv lv, fV ev xv yv, fV ev' xv' yv'] σ fun v σ' => v = flRes (adOk w h wr sp lo e x y e' x' y') σ.length (addL e e') (addL x x') (addL y y') ∧ σ' = σ ++ flRows (adOk w h wr sp lo e x y e' x' y') (addL e e') (addL x x') (addL y y')
abbrev impl_AddFields_ok := AddFields_ok
theorem impl_ScaleField_law {C : Ctab} {i1 i2 i3 i4 : FuncId} {c1 c2 c3 c4 : Contract} (h1 : Has C i1 c1 impl_IsField_ok) (h2 : impl_ScaleFieldC1_ok c2) (h3 : Has C i3 c3 (impl_both_ok i2 c2)) (h4 : Has C i4 c4 impl_validField_ok) : impl_ScaleField_ok (gcC C (impl_ScaleField i1 i2 i3 i4) true) := by
  intro σ w h wr sv lv sp lo ev xv yv e x y b ⟨r1, r2⟩ n1 n2 ⟨r3, r4, r5⟩ m1 m2 m3
  have l1 : (scaleL b e).length = e.length := newM_length
  have l2 : (scaleL b x).length = x.length := newM_length
  have l3 : (scaleL b y).length = y.length := newM_length
  cases hFi : isField w h wr sp lo e x y
  · rw [show scOk w h wr sp lo e x y b = false from by unfold scOk; rw [hFi]; rfl, flRes_f, flRows_f]
    refine ret_gc rfl rfl ?_
    repeat' (first | refine ff ?_ | (apply EvR.aCall h1.at_; (· exact eva); (· apply h1.ok <;> exact sid); (rintro _ _ ⟨rfl, rfl⟩; refine EvR.nrm ?_; try simp only [hFi])) | ((first | refine sR ?_ ?_ | refine sC ?_ ?_) <;> (intro hb; (try rw [hb]); (try simp only [bb] at hb); (try (exfalso; first | omega | exact hb trivial)))) | (apply endS trivial; rotate_left; (· exact eva); (· rfl); try refine ⟨?_, rfl⟩) | fail)
    all_goals simp
  have hC : ∀ (xs : List Nat) (τ : Heap), ∀ i, i < xs.length → ∀ τ', Ret c2 ([.float .f32 (xs.getD i 0), .float .f32 (xs.getD i 0)] ++ (#[Value.pointer (some ⟨σ.length + 2, 0, none⟩)] : Array Value).toList) (σ ++ (⟨[.int .i64 w, .int .i64 h, .bool wr, sv, lv], 0, true⟩ :: ⟨[ev, xv, yv], 0, true⟩ :: ⟨[.float .f32 b], 0, true⟩ :: τ) ++ τ') fun v σ' => v = .float .f32 (fbin .mul .f32 (xs.getD i 0) b) ∧ σ' = σ ++ (⟨[.int .i64 w, .int .i64 h, .bool wr, sv, lv], 0, true⟩ :: ⟨[ev, xv, yv], 0, true⟩ :: ⟨[.float .f32 b], 0, true⟩ :: τ) ++ τ' := by
    intro xs τ i hi τ'
    exact h2 _ (σ.length + 2) _ _ b true (by rw [List.append_assoc, hget]; rfl)
  refine ret_gc rfl rfl ?_
  repeat' (first | refine ff ?_ | (apply EvR.aCall h1.at_; (· exact eva); (· apply h1.ok <;> exact sid); (rintro _ _ ⟨rfl, rfl⟩; refine EvR.nrm ?_; try simp only [hFi])) | ((first | refine sR ?_ ?_ | refine sC ?_ ?_) <;> (intro hb; (try rw [hb]); (try simp only [bb] at hb); (try (exfalso; first | omega | exact hb trivial)))) | (apply endS trivial; rotate_left; (· exact eva); (· rfl); try refine ⟨?_, rfl⟩) | fail)
  (apply EvR.aCall h3.at_; (· exact eva); (· exact  h3.ok _ ev ev e e _ (fun i => fbin .mul .f32 (e.getD i 0) b) (r3.ext _) (r3.ext _) rfl m1 (hC e _)); (rintro _ _ ⟨rfl, rfl⟩; refine EvR.nrm ?_))
  repeat' (first | refine ff ?_ | ((first | refine sR ?_ ?_ | refine sC ?_ ?_) <;> (intro hb; (try rw [hb]); (try simp only [bb] at hb); (try (exfalso; first | omega | exact hb trivial)))) | (apply endS trivial; rotate_left; (· exact eva); (· rfl); try refine ⟨?_, rfl⟩) | fail)
  (apply EvR.aCall h3.at_; (· exact eva); (· exact  h3.ok _ xv xv x x _ (fun i => fbin .mul .f32 (x.getD i 0) b) (r4.ext _) (r4.ext _) rfl m2 (hC x _)); (rintro _ _ ⟨rfl, rfl⟩; refine EvR.nrm ?_))
  repeat' (first | refine ff ?_ | ((first | refine sR ?_ ?_ | refine sC ?_ ?_) <;> (intro hb; (try rw [hb]); (try simp only [bb] at hb); (try (exfalso; first | omega | exact hb trivial)))) | (apply endS trivial; rotate_left; (· exact eva); (· rfl); try refine ⟨?_, rfl⟩) | fail)
  (apply EvR.aCall h3.at_; (· exact eva); (· exact  h3.ok _ yv yv y y _ (fun i => fbin .mul .f32 (y.getD i 0) b) (r5.ext _) (r5.ext _) rfl m3 (hC y _)); (rintro _ _ ⟨rfl, rfl⟩; refine EvR.nrm ?_))
  repeat' (first | refine ff ?_ | ((first | refine sR ?_ ?_ | refine sC ?_ ?_) <;> (intro hb; (try rw [hb]); (try simp only [bb] at hb); (try (exfalso; first | omega | exact hb trivial)))) | (apply endS trivial; rotate_left; (· exact eva); (· rfl); try refine ⟨?_, rfl⟩) | fail)
  (apply EvR.aCall h4.at_; (· exact eva); (· exact  h4.ok _ w h wr sv lv sp lo (σ.length + 4) (σ.length + 5) (σ.length + 6) (scaleL b e) (scaleL b x) (scaleL b y) e.length x.length y.length l1 l2 l3 ⟨r1.ext _, r2.ext _⟩ n1 n2 (hget _ _ 4) (hget _ _ 5) (hget _ _ 6) m1 m2 m3); (rintro _ _ ⟨rfl, rfl⟩; refine EvR.nrm ?_))
  cases hV : isField w h wr sp lo (scaleL b e) (scaleL b x) (scaleL b y)
  · rw [if_neg (by simp), show scOk w h wr sp lo e x y b = false from by unfold scOk; rw [hV]; simp, flRes_f, flRows_f]
    repeat' (first | refine ff ?_ | ((first | refine sR ?_ ?_ | refine sC ?_ ?_) <;> (intro hb; (try rw [hb]); (try simp only [bb] at hb); (try (exfalso; first | omega | exact hb trivial)))) | (apply endS trivial; rotate_left; (· exact eva); (· rfl); try refine ⟨?_, rfl⟩) | fail)
    all_goals simp
  · rw [if_pos rfl, show scOk w h wr sp lo e x y b = true from by unfold scOk; rw [hV, hFi]; rfl, flRes_t, flRows_t, l1, l2, l3]
    repeat' (first | refine ff ?_ | ((first | refine sR ?_ ?_ | refine sC ?_ ?_) <;> (intro hb; (try rw [hb]); (try simp only [bb] at hb); (try (exfalso; first | omega | exact hb trivial)))) | (apply endS trivial; rotate_left; (· exact eva); (· rfl); try refine ⟨?_, rfl⟩) | fail)
    (apply endR [4, 5, 6] trivial ⟨rfl, rfl⟩; (· exact eva); (· simp [gcTop, gcVal, gcLeaf, gcLeaves, gcVals, constOk, gc_lt, gc_lt0]); (· rfl); (· decide); (· simp [allConst, f32s, i64s, b8s, bools, constOk]))

theorem impl_AddFields_law {C : Ctab} {i1 i2 i3 i4 : FuncId} {c1 c2 c3 c4 : Contract} (h1 : Has C i1 c1 impl_IsField_ok) (h2 : impl_AddFieldsC1_ok c2) (h3 : Has C i3 c3 (impl_both_ok i2 c2)) (h4 : Has C i4 c4 impl_validField_ok) : impl_AddFields_ok (gcC C (impl_AddFields i1 i2 i3 i4) true) := by
  intro σ w h wr sv lv sp lo ev xv yv e x y ev' xv' yv' e' x' y' ⟨r1, r2⟩ n1 n2 ⟨r3, r4, r5⟩ m1 m2 m3 ⟨s3, s4, s5⟩ u1 u2 u3
  have l1 : (addL e e').length = e.length := newM_length
  have l2 : (addL x x').length = x.length := newM_length
  have l3 : (addL y y').length = y.length := newM_length
  cases hFi : isField w h wr sp lo e x y
  · rw [show adOk w h wr sp lo e x y e' x' y' = false from by unfold adOk; rw [hFi]; rfl, flRes_f, flRows_f]
    refine ret_gc rfl rfl ?_
    repeat' (first | refine ff ?_ | (apply EvR.aCall h1.at_; (· exact eva); (· apply h1.ok <;> exact sid); (rintro _ _ ⟨rfl, rfl⟩; refine EvR.nrm ?_; try simp only [hFi])) | ((first | refine sR ?_ ?_ | refine sC ?_ ?_) <;> (intro hb; (try rw [hb]); (try simp only [bb] at hb); (try (exfalso; first | omega | exact hb trivial)))) | (apply endS trivial; rotate_left; (· exact eva); (· rfl); try refine ⟨?_, rfl⟩) | fail)
    all_goals simp
  cases hFj : isField w h wr sp lo e' x' y'
  · rw [show adOk w h wr sp lo e x y e' x' y' = false from by unfold adOk; rw [hFj]; simp, flRes_f, flRows_f]
    refine ret_gc rfl rfl ?_
    repeat' (first | refine ff ?_ | (apply EvR.aCall h1.at_; (· exact eva); (· apply h1.ok <;> exact sid); (rintro _ _ ⟨rfl, rfl⟩; refine EvR.nrm ?_; try simp only [hFi, hFj])) | ((first | refine sR ?_ ?_ | refine sC ?_ ?_) <;> (intro hb; (try rw [hb]); (try simp only [bb] at hb); (try (exfalso; first | omega | exact hb trivial)))) | (apply endS trivial; rotate_left; (· exact eva); (· rfl); try refine ⟨?_, rfl⟩) | fail)
    all_goals simp
  obtain ⟨hs, t1, t2, t3⟩ := isField_len hFi
  obtain ⟨_, t4, t5, t6⟩ := isField_len hFj
  have hC : ∀ (xs ys : List Nat) (τ : Heap), ∀ i, i < xs.length → ∀ τ', Ret c2 ([.float .f32 (xs.getD i 0), .float .f32 (ys.getD i 0)] ++ (#[] : Array Value).toList) (τ ++ τ') fun v σ' => v = .float .f32 (fbin .add .f32 (xs.getD i 0) (ys.getD i 0)) ∧ σ' = τ ++ τ' := by
    intro xs ys τ i hi τ'
    exact h2 _ _ _
  refine ret_gc rfl rfl ?_
  repeat' (first | refine ff ?_ | (apply EvR.aCall h1.at_; (· exact eva); (· apply h1.ok <;> exact sid); (rintro _ _ ⟨rfl, rfl⟩; refine EvR.nrm ?_; try simp only [hFi, hFj])) | ((first | refine sR ?_ ?_ | refine sC ?_ ?_) <;> (intro hb; (try rw [hb]); (try simp only [bb] at hb); (try (exfalso; first | omega | exact hb trivial)))) | (apply endS trivial; rotate_left; (· exact eva); (· rfl); try refine ⟨?_, rfl⟩) | fail)
  (apply EvR.aCall h3.at_; (· exact eva); (· exact  h3.ok _ ev ev' e e' _ (fun i => fbin .add .f32 (e.getD i 0) (e'.getD i 0)) (r3.ext _) (s3.ext _) (by omega) m1 (hC e e' _)); (rintro _ _ ⟨rfl, rfl⟩; refine EvR.nrm ?_))
  repeat' (first | refine ff ?_ | ((first | refine sR ?_ ?_ | refine sC ?_ ?_) <;> (intro hb; (try rw [hb]); (try simp only [bb] at hb); (try (exfalso; first | omega | exact hb trivial)))) | (apply endS trivial; rotate_left; (· exact eva); (· rfl); try refine ⟨?_, rfl⟩) | fail)
  (apply EvR.aCall h3.at_; (· exact eva); (· exact  h3.ok _ xv xv' x x' _ (fun i => fbin .add .f32 (x.getD i 0) (x'.getD i 0)) (r4.ext _) (s4.ext _) (by omega) m2 (hC x x' _)); (rintro _ _ ⟨rfl, rfl⟩; refine EvR.nrm ?_))
  repeat' (first | refine ff ?_ | ((first | refine sR ?_ ?_ | refine sC ?_ ?_) <;> (intro hb; (try rw [hb]); (try simp only [bb] at hb); (try (exfalso; first | omega | exact hb trivial)))) | (apply endS trivial; rotate_left; (· exact eva); (· rfl); try refine ⟨?_, rfl⟩) | fail)
  (apply EvR.aCall h3.at_; (· exact eva); (· exact  h3.ok _ yv yv' y y' _ (fun i => fbin .add .f32 (y.getD i 0) (y'.getD i 0)) (r5.ext _) (s5.ext _) (by omega) m3 (hC y y' _)); (rintro _ _ ⟨rfl, rfl⟩; refine EvR.nrm ?_))
  repeat' (first | refine ff ?_ | ((first | refine sR ?_ ?_ | refine sC ?_ ?_) <;> (intro hb; (try rw [hb]); (try simp only [bb] at hb); (try (exfalso; first | omega | exact hb trivial)))) | (apply endS trivial; rotate_left; (· exact eva); (· rfl); try refine ⟨?_, rfl⟩) | fail)
  (apply EvR.aCall h4.at_; (· exact eva); (· exact  h4.ok _ w h wr sv lv sp lo (σ.length + 4) (σ.length + 5) (σ.length + 6) (addL e e') (addL x x') (addL y y') e.length x.length y.length l1 l2 l3 ⟨r1.ext _, r2.ext _⟩ n1 n2 (hget _ _ 4) (hget _ _ 5) (hget _ _ 6) m1 m2 m3); (rintro _ _ ⟨rfl, rfl⟩; refine EvR.nrm ?_))
  cases hV : isField w h wr sp lo (addL e e') (addL x x') (addL y y')
  · rw [if_neg (by simp), show adOk w h wr sp lo e x y e' x' y' = false from by unfold adOk; rw [hV]; simp, flRes_f, flRows_f]
    repeat' (first | refine ff ?_ | ((first | refine sR ?_ ?_ | refine sC ?_ ?_) <;> (intro hb; (try rw [hb]); (try simp only [bb] at hb); (try (exfalso; first | omega | exact hb trivial)))) | (apply endS trivial; rotate_left; (· exact eva); (· rfl); try refine ⟨?_, rfl⟩) | fail)
    all_goals simp
  · rw [if_pos rfl, show adOk w h wr sp lo e x y e' x' y' = true from by unfold adOk; rw [hV, hFi, hFj]; rfl, flRes_t, flRows_t, l1, l2, l3]
    repeat' (first | refine ff ?_ | ((first | refine sR ?_ ?_ | refine sC ?_ ?_) <;> (intro hb; (try rw [hb]); (try simp only [bb] at hb); (try (exfalso; first | omega | exact hb trivial)))) | (apply endS trivial; rotate_left; (· exact eva); (· rfl); try refine ⟨?_, rfl⟩) | fail)
    (apply endR [4, 5, 6] trivial ⟨rfl, rfl⟩; (· exact eva); (· simp [gcTop, gcVal, gcLeaf, gcLeaves, gcVals, constOk, gc_lt, gc_lt0]); (· rfl); (· decide); (· simp [allConst, f32s, i64s, b8s, bools, constOk]))
end Go.Abs

