/- Laws of single functions: fields that are copied, marked and held; strips. Conditions: the laws of what they call. -/
import Derived.Test.YtdlicidmkakooaaOutlinedL13
import Derived.Test.YtdlicidmkakooaaOutlinedL08
import Derived.Test.YtdlicidmkakooaaOutlinedWvH3
namespace Go.Abs

set_option linter.unusedSimpArgs false
set_option linter.unusedVariables false
set_option maxHeartbeats 8000000
/- loop.example/g01201/impl.copyField -/
def impl_copyField_r0 : List SOper := [
 ⟨some 1, none, .box (.tmp 0), 0⟩,
 ⟨some 2, none, .alloc [(.slice none 0 0), (.slice none 0 0), (.slice none 0 0)], 0⟩]
def impl_copyField_r1 (i_impl_copyOf : FuncId) : List SOper := [
 ⟨some 3, none, .fieldAddr 0 (.tmp 1), 0⟩,
 ⟨some 4, none, .load1 (.tmp 3), 1⟩,
 ⟨some 5, none, .call (.func i_impl_copyOf) [(.tmp 4)], 3⟩,
 ⟨some 6, none, .fieldAddr 1 (.tmp 1), 0⟩,
 ⟨some 7, none, .load1 (.tmp 6), 8⟩,
 ⟨some 8, none, .call (.func i_impl_copyOf) [(.tmp 7)], 31⟩,
 ⟨some 9, none, .fieldAddr 2 (.tmp 1), 0⟩,
 ⟨some 10, none, .load1 (.tmp 9), 64⟩,
 ⟨some 11, none, .call (.func i_impl_copyOf) [(.tmp 10)], 255⟩,
 ⟨some 12, none, .build [(.slice none 0 0), (.slice none 0 0), (.slice none 0 0)] [(0, 1, (.tmp 5)), (1, 1, (.tmp 8)), (2, 1, (.tmp 11))], 511⟩,
 ⟨none, none, .store 3 (.tmp 2) (.tmp 12), 1023⟩]
def impl_copyField (i_impl_copyOf : FuncId) : SFunc := ⟨13, [.cellN 2 3], (.kp [0] (.seq (.region impl_copyField_r0 false) (.kp [1,2] (.seq (.region (impl_copyField_r1 i_impl_copyOf) true) .ret))))⟩
theorem impl_copyField_r1_dr {i_impl_copyOf : FuncId} : drawOkW wStat (impl_copyField_r1 i_impl_copyOf) = true := by kernel_rfl
attribute [push_cast] impl_copyField_r1_dr
/- loop.example/g01201/impl.validField -/
def impl_validField_r0 : List SOper := [
 ⟨some 2, none, .box (.tmp 0), 0⟩,
 ⟨some 3, none, .box (.tmp 1), 0⟩,
 ⟨some 4, none, .alloc [(.slice none 0 0), (.slice none 0 0), (.slice none 0 0)], 0⟩,
 ⟨some 5, none, .mov (.const (.bool false)), 0⟩]
def impl_validField_r1 (i_impl_IsField : FuncId) : List SOper := [
 ⟨some 6, none, .loadN 5 (.tmp 2), 0⟩,
 ⟨some 7, none, .loadN 3 (.tmp 3), 0⟩,
 ⟨some 8, none, .call (.func i_impl_IsField) [(.tmp 6), (.tmp 7)], 3⟩,
 ⟨some 9, none, .un .not (.tmp 8), 7⟩]
def impl_validField_r2 : List SOper := [
 ⟨some 10, none, .build [(.slice none 0 0), (.slice none 0 0), (.slice none 0 0)] [], 0⟩,
 ⟨none, none, .store 3 (.tmp 4) (.tmp 10), 1⟩,
 ⟨some 5, none, .mov (.const (.bool false)), 3⟩]
def impl_validField_r3 : List SOper := [
 ⟨some 11, none, .loadN 3 (.tmp 3), 0⟩,
 ⟨none, none, .store 3 (.tmp 4) (.tmp 11), 1⟩,
 ⟨some 5, none, .mov (.const (.bool true)), 3⟩]
def impl_validField (i_impl_IsField : FuncId) : SFunc := ⟨12, [.cellN 4 3, .tmp 5], (.kp [0,1] (.seq (.region impl_validField_r0 false) (.kp [2,3,4] (.seq (.seq (.region (impl_validField_r1 i_impl_IsField) false) (.kp [3,4,9] (.cond (.tmp 9) (.seq (.region impl_validField_r2 false) .ret) .skip))) (.kp [3,4] (.seq (.region impl_validField_r3 false) .ret))))))⟩

def impl_copyField_ok (c : Contract) : Prop := ∀ (σ : Heap) (ev xv yv : Value) (e x y : List Nat), FlR σ ev xv yv e x y → e.length ≤ 1048576 → x.length ≤ 1048576 → y.length ≤ 1048576 →
    Ret c [fV ev xv yv] σ fun v σ' => v = fV (slV σ.length e.length) (slV (σ.length + 1) x.length) (slV (σ.length + 2) y.length) ∧ σ' = σ ++ [rowO e, rowO x, rowO y]
theorem impl_copyField_law {C : Ctab} {i : FuncId} {c : Contract} (h1 : Has C i c impl_copyOf_ok) : impl_copyField_ok (gcC C (impl_copyField i) true) := by
  intro σ ev xv yv e x y hr hn1 hn2 hn3
  obtain ⟨r1, r2, r3⟩ := hr
  refine ret_gc rfl rfl ?_
  repeat' (first | refine ff ?_ | (apply EvR.aCall h1.at_; (· exact eva); (· apply h1.ok <;> exact sid); (rintro _ _ ⟨rfl, rfl⟩; refine EvR.nrm ?_)) | ((first | refine sR ?_ ?_ | refine sC ?_ ?_) <;> (intro hb; (try rw [hb]); (try simp only [bb] at hb); (try (exfalso; first | omega | exact hb trivial)))) | (apply endS trivial; rotate_left; (· exact eva); (· rfl); try refine ⟨?_, rfl⟩) | fail)
  (apply endR [2, 3, 4] trivial ⟨rfl, rfl⟩; (· exact eva); (· simp [gcTop, gcVal, gcLeaf, gcLeaves, gcVals, constOk, gc_lt, gc_lt0]); (· rfl); (· decide); (· simp [allConst, f32s, i64s, b8s, bools, constOk]))

/-- No field. -/
abbrev noField : Value := fV (.slice none 0 0) (.slice none 0 0) (.slice none 0 0)
def impl_validField_ok (c : Contract) : Prop := ∀ (σ : Heap) (w h : Int) (wr : Bool) (sv lv : Value) (sp lo : List Nat) (a b d : Nat) (e x y : List Nat) (n1 n2 n3 : Nat), e.length = n1 → x.length = n2 → y.length = n3 → ShR σ sv lv sp lo → sp.length ≤ 1048576 → lo.length ≤ 1048576 → σ[a]? = some (rowO e) → σ[b]? = some (rowO x) → σ[d]? = some (rowO y) → n1 ≤ 1048576 → n2 ≤ 1048576 → n3 ≤ 1048576 →
    Ret c [shV w h wr sv lv, fV (slV a n1) (slV b n2) (slV d n3)] σ fun v σ' => v = (if isField w h wr sp lo e x y = true then .tuple #[fV (slV a n1) (slV b n2) (slV d n3), .bool true] else .tuple #[noField, .bool false]) ∧ σ' = σ
theorem impl_validField_law {C : Ctab} {i : FuncId} {c : Contract} (h1 : Has C i c impl_IsField_ok) : impl_validField_ok (gcC C (impl_validField i) true) := by
  intro σ w h wr sv lv sp lo a b d e x y n1 n2 n3 e1 e2 e3 hr hn1 hn2 ha hb hd hm1 hm2 hm3
  subst e1 e2 e3
  have l1 : a < σ.length := (List.getElem?_eq_some_iff.1 ha).1
  have l2 : b < σ.length := (List.getElem?_eq_some_iff.1 hb).1
  have l3 : d < σ.length := (List.getElem?_eq_some_iff.1 hd).1
  obtain ⟨r1, r2⟩ := hr
  have r3 : Row σ 1 (slV a e.length) e.length (f32s e) := Row.whole ha (by omega) (by rw [f32s_length]; omega)
  have r4 : Row σ 1 (slV b x.length) x.length (f32s x) := Row.whole hb (by omega) (by rw [f32s_length]; omega)
  have r5 : Row σ 1 (slV d y.length) y.length (f32s y) := Row.whole hd (by omega) (by rw [f32s_length]; omega)
  cases hv : isField w h wr sp lo e x y
  · rw [if_neg (by simp)]
    refine ret_gc rfl rfl ?_
    repeat' (first | refine ff ?_ | (apply EvR.aCall h1.at_; (· exact eva); (· apply h1.ok <;> exact sid); (rintro _ _ ⟨rfl, rfl⟩; refine EvR.nrm ?_; try simp only [hv])) | ((first | refine sR ?_ ?_ | refine sC ?_ ?_) <;> (intro hb; (try rw [hb]); (try simp only [bb] at hb); (try (exfalso; first | omega | exact hb trivial)))) | (apply endS trivial; rotate_left; (· exact eva); (· rfl); try refine ⟨?_, rfl⟩) | fail)
    all_goals rfl
  · rw [if_pos rfl]
    refine ret_gc rfl rfl ?_
    repeat' (first | refine ff ?_ | (apply EvR.aCall h1.at_; (· exact eva); (· apply h1.ok <;> exact sid); (rintro _ _ ⟨rfl, rfl⟩; refine EvR.nrm ?_; try simp only [hv])) | ((first | refine sR ?_ ?_ | refine sC ?_ ?_) <;> (intro hb; (try rw [hb]); (try simp only [bb] at hb); (try (exfalso; first | omega | exact hb trivial)))) | (apply endS trivial; rotate_left; (· exact eva); (· rfl); try refine ⟨?_, rfl⟩) | fail)
    apply endS trivial
    rotate_left
    · exact eva
    · simp [gcTop, gcVals, gcVal, gcLeaf, gcLeaves, constOk, l1, l2, l3]
    · exact ⟨rfl, rfl⟩

/-- Three objects of a heap are replaced. -/
def PH (σ : Heap) (a b c : Nat) (X Y Z : AObj) : Heap := ((σ.set a X).set b Y).set c Z
section
variable {σ : Heap} {a b c : Nat} {X Y Z : AObj}
theorem set_same (h : σ[a]? = some X) : σ.set a X = σ := by
  obtain ⟨hl, he⟩ := List.getElem?_eq_some_iff.1 h
  rw [← he]; exact List.set_getElem_self hl
theorem PH_self (ha : σ[a]? = some X) (hb : σ[b]? = some Y) (hc : σ[c]? = some Z) : PH σ a b c X Y Z = σ := by
  unfold PH; rw [set_same ha, set_same hb, set_same hc]
theorem PH_len : (PH σ a b c X Y Z).length = σ.length := by simp [PH]
theorem PH_a (h1 : a ≠ b) (h2 : a ≠ c) (hl : a < σ.length) : (PH σ a b c X Y Z)[a]? = some X := by
  unfold PH; rw [List.getElem?_set_ne (Ne.symm h2), List.getElem?_set_ne (Ne.symm h1), List.getElem?_set_self hl]
theorem PH_b (h2 : b ≠ c) (hl : b < σ.length) : (PH σ a b c X Y Z)[b]? = some Y := by
  unfold PH; rw [List.getElem?_set_ne (Ne.symm h2), List.getElem?_set_self (by simpa using hl)]
theorem PH_c (hl : c < σ.length) : (PH σ a b c X Y Z)[c]? = some Z := by
  unfold PH; rw [List.getElem?_set_self (by simpa using hl)]
theorem PH_o {o : Nat} (h1 : a ≠ o) (h2 : b ≠ o) (h3 : c ≠ o) : (PH σ a b c X Y Z)[o]? = σ[o]? := by
  unfold PH; rw [List.getElem?_set_ne h3, List.getElem?_set_ne h2, List.getElem?_set_ne h1]
theorem PH_setb {Y' : AObj} (h2 : b ≠ c) : (PH σ a b c X Y Z).set b Y' = PH σ a b c X Y' Z := by
  unfold PH; rw [List.set_comm _ _ (Ne.symm h2), List.set_set]
theorem PH_setc {Z' : AObj} : (PH σ a b c X Y Z).set c Z' = PH σ a b c X Y Z' := by
  unfold PH; rw [List.set_set]
theorem PH_old (hX : allConst X = true) (hY : allConst Y = true) (hZ : allConst Z = true) : ∀ o, o < σ.length → (PH σ a b c X Y Z)[o]? = σ[o]? ∨ ∀ obj, (PH σ a b c X Y Z)[o]? = some obj → allConst obj = true := by
  intro o ho
  unfold PH
  rcases set_old (σ := (σ.set a X).set b Y) (b := c) (x := Z) hZ o (by simpa using ho) with h1 | h1
  · rcases set_old (σ := σ.set a X) (b := b) (x := Y) hY o (by simpa using ho) with h2 | h2
    · rcases set_old (σ := σ) (b := a) (x := X) hX o ho with h3 | h3
      · left; rw [h1, h2, h3]
      · right; intro obj ho2; exact h3 obj (by rw [← h2, ← h1]; exact ho2)
    · right; intro obj ho2; exact h2 obj (by rw [← h1]; exact ho2)
  · exact .inr h1
theorem PH_pt {o : Nat} {cs : List Value} (ha : ∃ s, σ[a]? = some (rowO s)) (hb : ∃ s, σ[b]? = some (rowO s)) (hc : ∃ s, σ[c]? = some (rowO s)) {r : Bool} (h : σ[o]? = some ⟨cs, 0, r⟩) : (PH σ a b c X Y Z)[o]? = some ⟨cs, 0, r⟩ := by
  have ne : ∀ i, (∃ s, σ[i]? = some (rowO s)) → i ≠ o := by
    rintro i ⟨s, hs⟩ rfl
    rw [h] at hs
    cases hs
  rw [PH_o (ne a ha) (ne b hb) (ne c hc)]; exact h
end

end Go.Abs

