/- Laws of single functions: fields that are copied, marked and held; strips. Conditions: the laws of what they call. -/
import Derived.Test.YtdlicidmkakooaaFilmPartsL13
import Derived.Test.YtdlicidmkakooaaFilmPartsL08
import Derived.Test.YtdlicidmkakooaaWvH3
namespace Go.Abs

set_option linter.unusedSimpArgs false
set_option linter.unusedVariables false
set_option maxHeartbeats 8000000
/- loop.example/g01201/impl.copyField -/
def impl_copyField_r0 : List SOper := [
  ⟨(some 1), none, .box (.tmp 0), 0⟩,
  ⟨(some 2), none, .alloc [(.slice none 0 0), (.slice none 0 0), (.slice none 0 0)], 0⟩]
def impl_copyField_r1 (i_impl_copyOf : FuncId) : List SOper := [
  ⟨(some 3), none, .fieldAddr 0 (.tmp 1), 0⟩,
  ⟨(some 4), none, .load1 (.tmp 3), 1⟩,
  ⟨(some 5), none, .call (.func i_impl_copyOf) [(.tmp 4)], 3⟩,
  ⟨(some 6), none, .fieldAddr 1 (.tmp 1), 0⟩,
  ⟨(some 7), none, .load1 (.tmp 6), 8⟩,
  ⟨(some 8), none, .call (.func i_impl_copyOf) [(.tmp 7)], 31⟩,
  ⟨(some 9), none, .fieldAddr 2 (.tmp 1), 0⟩,
  ⟨(some 10), none, .load1 (.tmp 9), 64⟩,
  ⟨(some 11), none, .call (.func i_impl_copyOf) [(.tmp 10)], 255⟩,
  ⟨(some 12), none, .build [(.slice none 0 0), (.slice none 0 0), (.slice none 0 0)] [(0, 1, (.tmp 5)), (1, 1, (.tmp 8)), (2, 1, (.tmp 11))], 511⟩,
  ⟨none, none, .store 3 (.tmp 2) (.tmp 12), 1023⟩]
def impl_copyField (i_impl_copyOf : FuncId) : SFunc := ⟨13, [.cellN 2 3], (.kp [0] (.seq (.region impl_copyField_r0 false) (.kp [1, 2] (.seq (.region (impl_copyField_r1 i_impl_copyOf) true) .ret))))⟩
theorem impl_copyField_r1_dr {i_impl_copyOf : FuncId} : drawOkW wStat (impl_copyField_r1 i_impl_copyOf) = true := by kernel_rfl
attribute [push_cast] impl_copyField_r1_dr
/- loop.example/g01201/spec.l02Own -/
def spec_l02Own_r0 : List SOper := [
  ⟨(some 2), none, .alloc [(.slice none 0 0), (.slice none 0 0), (.slice none 0 0)], 0⟩]
def spec_l02Own_r1 : List SOper := [
  ⟨(some 4), none, .buildSlice 1 0 [] [], 0⟩,
  ⟨(some 5), none, .mov (.tmp 0), 0⟩,
  ⟨(some 6), none, .nilCheck (.tmp 5), 2⟩,
  ⟨(some 7), none, .fieldAddr 0 (.tmp 6), 6⟩,
  ⟨(some 8), none, .load1 (.tmp 7), 14⟩,
  ⟨(some 9), none, .append 1 4 (.tmp 4) (.tmp 8), 31⟩,
  ⟨(some 10), none, .build [(.slice none 0 0), (.slice none 0 0), (.slice none 0 0)] [(0, 1, (.tmp 9))], 63⟩,
  ⟨(some 3), none, .alloc [(.slice none 0 0), (.slice none 0 0), (.slice none 0 0)], 0⟩,
  ⟨none, none, .store 3 (.tmp 3) (.tmp 10), 255⟩]
def spec_l02Own_r2 : List SOper := [
  ⟨(some 11), none, .buildSlice 1 0 [] [], 0⟩,
  ⟨(some 12), none, .mov (.tmp 0), 0⟩,
  ⟨(some 13), none, .nilCheck (.tmp 12), 2⟩,
  ⟨(some 14), none, .fieldAddr 1 (.tmp 13), 6⟩,
  ⟨(some 15), none, .load1 (.tmp 14), 14⟩,
  ⟨(some 16), none, .append 1 4 (.tmp 11) (.tmp 15), 31⟩,
  ⟨(some 17), none, .fieldAddr 1 (.tmp 3), 63⟩,
  ⟨none, none, .store 1 (.tmp 17) (.tmp 16), 127⟩]
def spec_l02Own_r3 : List SOper := [
  ⟨(some 18), none, .buildSlice 1 0 [] [], 0⟩,
  ⟨(some 19), none, .mov (.tmp 0), 0⟩,
  ⟨(some 20), none, .nilCheck (.tmp 19), 2⟩,
  ⟨(some 21), none, .fieldAddr 2 (.tmp 20), 6⟩,
  ⟨(some 22), none, .load1 (.tmp 21), 14⟩,
  ⟨(some 23), none, .append 1 4 (.tmp 18) (.tmp 22), 31⟩,
  ⟨(some 24), none, .fieldAddr 2 (.tmp 3), 63⟩,
  ⟨none, none, .store 1 (.tmp 24) (.tmp 23), 127⟩]
def spec_l02Own_r4 : List SOper := [
  ⟨(some 25), none, .loadN 3 (.tmp 3), 0⟩,
  ⟨none, none, .store 3 (.tmp 2) (.tmp 25), 1⟩]
def spec_l02Own : SFunc := ⟨26, [.cellN 2 3], (.kp [0] (.seq (.region spec_l02Own_r0 false) (.kp [0, 2] (.seq (.region spec_l02Own_r1 false) (.kp [0, 2, 3] (.seq (.region spec_l02Own_r2 false) (.kp [0, 2, 3] (.seq (.region spec_l02Own_r3 false) (.kp [2, 3] (.seq (.region spec_l02Own_r4 false) .ret))))))))))⟩

def impl_copyField_ok (c : Contract) : Prop := ∀ (σ : Heap) (ev xv yv : Value) (e x y : List Nat), FlR σ ev xv yv e x y → e.length ≤ 1048576 → x.length ≤ 1048576 → y.length ≤ 1048576 →
    Ret c [fV ev xv yv] σ fun v σ' => v = fV (slV σ.length e.length) (slV (σ.length + 1) x.length) (slV (σ.length + 2) y.length) ∧ σ' = σ ++ [rowO e, rowO x, rowO y]
theorem impl_copyField_law {C : Ctab} {i : FuncId} {c : Contract} (h1 : Has C i c impl_copyOf_ok) : impl_copyField_ok (gcC C (impl_copyField i) true) := by
  intro σ ev xv yv e x y hr hn1 hn2 hn3
  obtain ⟨r1, r2, r3⟩ := hr
  refine ret_gc rfl rfl ?_
  repeat' (first | refine ff ?_ | (apply EvR.aCall h1.at_; (· exact eva); (· apply h1.ok <;> exact sid); (rintro _ _ ⟨rfl, rfl⟩; refine EvR.nrm ?_)) | ((first | refine EvR.aSplB ?_ ?_ | refine Ev.aSplB ?_ ?_) <;> (intro hb; (try rw [hb]); (try simp only [Bool.not_eq_true', Bool.not_eq_false', Bool.not_eq_eq_eq_not, Bool.not_true, Bool.not_false, decide_eq_true_eq, decide_eq_false_iff_not, Bool.and_eq_true, Bool.and_eq_false_iff, Bool.or_eq_true, Bool.or_eq_false_iff] at hb); (try (exfalso; first | omega | exact hb trivial)))) | (apply endS trivial; rotate_left; (· exact eva); (· rfl); try refine ⟨?_, rfl⟩) | fail)
  (apply endR [2, 3, 4] trivial ⟨rfl, rfl⟩; (· exact eva); (· simp [gcTop, gcVal, gcLeaf, gcLeaves, gcVals, constOk, gc_lt, gc_lt0]); (· rfl); (· decide); (· simp [allConst, f32s, i64s, b8s, bools, constOk]))

def spec_l02Own_ok (c : Contract) : Prop := ∀ (σ : Heap) (p : Nat) (ev xv yv : Value) (e x y : List Nat), PtAt σ p 0 [ev, xv, yv] → FlR σ ev xv yv e x y → e.length ≤ 1048576 → x.length ≤ 1048576 → y.length ≤ 1048576 →
    Ret c [.pointer (some ⟨p, 0, none⟩)] σ fun v σ' => v = fV (slV σ.length e.length) (slV (σ.length + 1) x.length) (slV (σ.length + 2) y.length) ∧ σ' = σ ++ [rowO e, rowO x, rowO y]
theorem spec_l02Own_law {C : Ctab} : spec_l02Own_ok (gcC C spec_l02Own true) := by
  intro σ p ev xv yv e x y hp hr hn1 hn2 hn3
  obtain ⟨r1, r2, r3⟩ := hr
  refine ret_gc rfl rfl ?_
  repeat' (first | refine ff ?_ | ((first | refine EvR.aSplB ?_ ?_ | refine Ev.aSplB ?_ ?_) <;> (intro hb; (try rw [hb]); (try simp only [Bool.not_eq_true', Bool.not_eq_false', Bool.not_eq_eq_eq_not, Bool.not_true, Bool.not_false, decide_eq_true_eq, decide_eq_false_iff_not, Bool.and_eq_true, Bool.and_eq_false_iff, Bool.or_eq_true, Bool.or_eq_false_iff] at hb); (try (exfalso; first | omega | exact hb trivial)))) | (apply endS trivial; rotate_left; (· exact eva); (· rfl); try refine ⟨?_, rfl⟩) | fail)
  (apply endR [1, 3, 4] trivial ⟨rfl, rfl⟩; (· exact eva); (· simp [gcTop, gcVal, gcLeaf, gcLeaves, gcVals, constOk, gc_lt, gc_lt0]); (· rfl); (· decide); (· simp [allConst, f32s, i64s, b8s, bools, constOk]))

/-- No field. -/
abbrev noField : Value := fV (.slice none 0 0) (.slice none 0 0) (.slice none 0 0)
/-- Three objects of a heap are replaced. -/
def PH (σ : Heap) (a b c : Nat) (X Y Z : AObj) : Heap := ((σ.set a X).set b Y).set c Z
section
variable {σ : Heap} {a b c : Nat} {X Y Z : AObj}
theorem set_same (h : σ[a]? = some X) : σ.set a X = σ := by
  obtain ⟨hl, he⟩ := List.getElem?_eq_some_iff.1 h
  rw [← he]; exact List.set_getElem_self hl
theorem PH_self (ha : σ[a]? = some X) (hb : σ[b]? = some Y) (hc : σ[c]? = some Z) : PH σ a b c X Y Z = σ := by
  unfold PH; rw [set_same ha, set_same hb, set_same hc]
theorem PH_len : (PH σ a b c X Y Z).length = σ.length := by simp [PH]
theorem PH_a (h1 : a ≠ b) (h2 : a ≠ c) (hl : a < σ.length) : (PH σ a b c X Y Z)[a]? = some X := by
  unfold PH; rw [List.getElem?_set_ne (Ne.symm h2), List.getElem?_set_ne (Ne.symm h1), List.getElem?_set_self hl]
theorem PH_b (h2 : b ≠ c) (hl : b < σ.length) : (PH σ a b c X Y Z)[b]? = some Y := by
  unfold PH; rw [List.getElem?_set_ne (Ne.symm h2), List.getElem?_set_self (by simpa using hl)]
theorem PH_c (hl : c < σ.length) : (PH σ a b c X Y Z)[c]? = some Z := by
  unfold PH; rw [List.getElem?_set_self (by simpa using hl)]
theorem PH_o {o : Nat} (h1 : a ≠ o) (h2 : b ≠ o) (h3 : c ≠ o) : (PH σ a b c X Y Z)[o]? = σ[o]? := by
  unfold PH; rw [List.getElem?_set_ne h3, List.getElem?_set_ne h2, List.getElem?_set_ne h1]
theorem PH_setb {Y' : AObj} (h2 : b ≠ c) : (PH σ a b c X Y Z).set b Y' = PH σ a b c X Y' Z := by
  unfold PH; rw [List.set_comm _ _ (Ne.symm h2), List.set_set]
theorem PH_setc {Z' : AObj} : (PH σ a b c X Y Z).set c Z' = PH σ a b c X Y Z' := by
  unfold PH; rw [List.set_set]
theorem PH_old (hX : allConst X = true) (hY : allConst Y = true) (hZ : allConst Z = true) : ∀ o, o < σ.length → (PH σ a b c X Y Z)[o]? = σ[o]? ∨ ∀ obj, (PH σ a b c X Y Z)[o]? = some obj → allConst obj = true := by
  intro o ho
  unfold PH
  rcases set_old (σ := (σ.set a X).set b Y) (b := c) (x := Z) hZ o (by simpa using ho) with h1 | h1
  · rcases set_old (σ := σ.set a X) (b := b) (x := Y) hY o (by simpa using ho) with h2 | h2
    · rcases set_old (σ := σ) (b := a) (x := X) hX o ho with h3 | h3
      · left; rw [h1, h2, h3]
      · right; intro obj ho2; exact h3 obj (by rw [← h2, ← h1]; exact ho2)
    · right; intro obj ho2; exact h2 obj (by rw [← h1]; exact ho2)
  · exact .inr h1
theorem PH_pt {o : Nat} {cs : List Value} (ha : ∃ s, σ[a]? = some (rowO s)) (hb : ∃ s, σ[b]? = some (rowO s)) (hc : ∃ s, σ[c]? = some (rowO s)) {r : Bool} (h : σ[o]? = some ⟨cs, 0, r⟩) : (PH σ a b c X Y Z)[o]? = some ⟨cs, 0, r⟩ := by
  have ne : ∀ i, (∃ s, σ[i]? = some (rowO s)) → i ≠ o := by
    rintro i ⟨s, hs⟩ rfl
    rw [h] at hs
    cases hs
  rw [PH_o (ne a ha) (ne b hb) (ne c hc)]; exact h
end

end Go.Abs

