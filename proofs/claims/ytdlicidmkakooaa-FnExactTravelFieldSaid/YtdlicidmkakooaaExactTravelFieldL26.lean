/- Laws of single functions: fields that are copied, marked and held; strips. Conditions: the laws of what they call. -/
import Derived.Test.YtdlicidmkakooaaExactTravelFieldL05
import Derived.Test.YtdlicidmkakooaaExactTravelFieldL09
import Derived.Test.YtdlicidmkakooaaExactTravelFieldWvH3
namespace Go.Abs

set_option linter.unusedSimpArgs false
set_option linter.unusedVariables false
set_option maxHeartbeats 8000000
/- loop.example/g01201/laws.markField -/
def laws_markField_r0 : List SOper := [
 ⟨some 2, none, .box (.tmp 0), 0⟩,
 ⟨some 4, none, .mov (.const (.int .i64 0)), 0⟩]
def laws_markField_r1 (i_laws_markFloat32S : FuncId) : List SOper := [
 ⟨some 5, none, .fieldAddr 0 (.tmp 2), 0⟩,
 ⟨some 6, none, .load1 (.tmp 5), 1⟩,
 ⟨some 7, none, .mov (.tmp 1), 0⟩,
 ⟨some 8, none, .call (.func i_laws_markFloat32S) [(.tmp 6), (.tmp 7)], 7⟩,
 ⟨some 1, none, .mov (.tmp 8), 15⟩]
def laws_markField_r2 (i_laws_markFloat32S : FuncId) : List SOper := [
 ⟨some 9, none, .fieldAddr 1 (.tmp 2), 0⟩,
 ⟨some 10, none, .load1 (.tmp 9), 1⟩,
 ⟨some 11, none, .mov (.tmp 1), 0⟩,
 ⟨some 12, none, .call (.func i_laws_markFloat32S) [(.tmp 10), (.tmp 11)], 7⟩,
 ⟨some 1, none, .mov (.tmp 12), 15⟩]
def laws_markField_r3 (i_laws_markFloat32S : FuncId) : List SOper := [
 ⟨some 13, none, .fieldAddr 2 (.tmp 2), 0⟩,
 ⟨some 14, none, .load1 (.tmp 13), 1⟩,
 ⟨some 15, none, .mov (.tmp 1), 0⟩,
 ⟨some 16, none, .call (.func i_laws_markFloat32S) [(.tmp 14), (.tmp 15)], 7⟩,
 ⟨some 1, none, .mov (.tmp 16), 15⟩]
def laws_markField_r4 : List SOper := [
 ⟨some 17, none, .mov (.tmp 1), 0⟩,
 ⟨some 4, none, .mov (.tmp 17), 1⟩]
def laws_markField (i_laws_markFloat32S : FuncId) : SFunc := ⟨18, [.tmp 4], (.kp [0,1] (.seq (.region laws_markField_r0 false) (.kp [1,2] (.seq (.region (laws_markField_r1 i_laws_markFloat32S) false) (.kp [1,2] (.seq (.region (laws_markField_r2 i_laws_markFloat32S) false) (.kp [1,2] (.seq (.region (laws_markField_r3 i_laws_markFloat32S) false) (.kp [1] (.seq (.region laws_markField_r4 false) .ret))))))))))⟩

/- loop.example/g01201/laws.heldField -/
def laws_heldField_r0 : List SOper := [
 ⟨some 2, none, .box (.tmp 0), 0⟩,
 ⟨some 4, none, .mov (.const (.int .i64 0)), 0⟩]
def laws_heldField_r1 (i_laws_heldFloat32S : FuncId) : List SOper := [
 ⟨some 5, none, .fieldAddr 0 (.tmp 2), 0⟩,
 ⟨some 6, none, .load1 (.tmp 5), 1⟩,
 ⟨some 7, none, .mov (.tmp 1), 0⟩,
 ⟨some 8, none, .call (.func i_laws_heldFloat32S) [(.tmp 6), (.tmp 7)], 7⟩,
 ⟨some 1, none, .mov (.tmp 8), 15⟩]
def laws_heldField_r2 : List SOper := [
 ⟨some 9, none, .mov (.tmp 1), 0⟩,
 ⟨some 10, none, .bin .lss .other (.tmp 9) (.const (.int .i64 0)), 1⟩]
def laws_heldField_r3 : List SOper := [
 ⟨some 4, none, .mov (.const (.int .i64 (-1))), 0⟩]
def laws_heldField_r4 (i_laws_heldFloat32S : FuncId) : List SOper := [
 ⟨some 11, none, .fieldAddr 1 (.tmp 2), 0⟩,
 ⟨some 12, none, .load1 (.tmp 11), 1⟩,
 ⟨some 13, none, .mov (.tmp 1), 0⟩,
 ⟨some 14, none, .call (.func i_laws_heldFloat32S) [(.tmp 12), (.tmp 13)], 7⟩,
 ⟨some 1, none, .mov (.tmp 14), 15⟩]
def laws_heldField_r5 : List SOper := [
 ⟨some 15, none, .mov (.tmp 1), 0⟩,
 ⟨some 16, none, .bin .lss .other (.tmp 15) (.const (.int .i64 0)), 1⟩]
def laws_heldField_r6 : List SOper := [
 ⟨some 4, none, .mov (.const (.int .i64 (-1))), 0⟩]
def laws_heldField_r7 (i_laws_heldFloat32S : FuncId) : List SOper := [
 ⟨some 17, none, .fieldAddr 2 (.tmp 2), 0⟩,
 ⟨some 18, none, .load1 (.tmp 17), 1⟩,
 ⟨some 19, none, .mov (.tmp 1), 0⟩,
 ⟨some 20, none, .call (.func i_laws_heldFloat32S) [(.tmp 18), (.tmp 19)], 7⟩,
 ⟨some 1, none, .mov (.tmp 20), 15⟩]
def laws_heldField_r8 : List SOper := [
 ⟨some 21, none, .mov (.tmp 1), 0⟩,
 ⟨some 22, none, .bin .lss .other (.tmp 21) (.const (.int .i64 0)), 1⟩]
def laws_heldField_r9 : List SOper := [
 ⟨some 4, none, .mov (.const (.int .i64 (-1))), 0⟩]
def laws_heldField_r10 : List SOper := [
 ⟨some 23, none, .mov (.tmp 1), 0⟩,
 ⟨some 4, none, .mov (.tmp 23), 1⟩]
def laws_heldField (i_laws_heldFloat32S : FuncId) : SFunc := ⟨24, [.tmp 4], (.kp [0,1] (.seq (.region laws_heldField_r0 false) (.kp [1,2] (.seq (.region (laws_heldField_r1 i_laws_heldFloat32S) false) (.kp [1,2] (.seq (.seq (.region laws_heldField_r2 false) (.kp [1,2,10] (.cond (.tmp 10) (.seq (.region laws_heldField_r3 false) .ret) .skip))) (.kp [1,2] (.seq (.region (laws_heldField_r4 i_laws_heldFloat32S) false) (.kp [1,2] (.seq (.seq (.region laws_heldField_r5 false) (.kp [1,2,16] (.cond (.tmp 16) (.seq (.region laws_heldField_r6 false) .ret) .skip))) (.kp [1,2] (.seq (.region (laws_heldField_r7 i_laws_heldFloat32S) false) (.kp [1] (.seq (.seq (.region laws_heldField_r8 false) (.kp [1,22] (.cond (.tmp 22) (.seq (.region laws_heldField_r9 false) .ret) .skip))) (.kp [1] (.seq (.region laws_heldField_r10 false) .ret))))))))))))))))⟩


/-- No field. -/
abbrev noField : Value := fV (.slice none 0 0) (.slice none 0 0) (.slice none 0 0)
/-- Three objects of a heap are replaced. -/
def PH (σ : Heap) (a b c : Nat) (X Y Z : AObj) : Heap := ((σ.set a X).set b Y).set c Z
section
variable {σ : Heap} {a b c : Nat} {X Y Z : AObj}
theorem set_same (h : σ[a]? = some X) : σ.set a X = σ := by
  obtain ⟨hl, he⟩ := List.getElem?_eq_some_iff.1 h
  rw [← he]; exact List.set_getElem_self hl
theorem PH_len : (PH σ a b c X Y Z).length = σ.length := by simp [PH]
theorem PH_a (h1 : a ≠ b) (h2 : a ≠ c) (hl : a < σ.length) : (PH σ a b c X Y Z)[a]? = some X := by
  unfold PH; rw [List.getElem?_set_ne (Ne.symm h2), List.getElem?_set_ne (Ne.symm h1), List.getElem?_set_self hl]
theorem PH_b (h2 : b ≠ c) (hl : b < σ.length) : (PH σ a b c X Y Z)[b]? = some Y := by
  unfold PH; rw [List.getElem?_set_ne (Ne.symm h2), List.getElem?_set_self (by simpa using hl)]
theorem PH_c (hl : c < σ.length) : (PH σ a b c X Y Z)[c]? = some Z := by
  unfold PH; rw [List.getElem?_set_self (by simpa using hl)]
theorem PH_o {o : Nat} (h1 : a ≠ o) (h2 : b ≠ o) (h3 : c ≠ o) : (PH σ a b c X Y Z)[o]? = σ[o]? := by
  unfold PH; rw [List.getElem?_set_ne h3, List.getElem?_set_ne h2, List.getElem?_set_ne h1]
theorem PH_old (hX : allConst X = true) (hY : allConst Y = true) (hZ : allConst Z = true) : ∀ o, o < σ.length → (PH σ a b c X Y Z)[o]? = σ[o]? ∨ ∀ obj, (PH σ a b c X Y Z)[o]? = some obj → allConst obj = true := by
  intro o ho
  unfold PH
  rcases set_old (σ := (σ.set a X).set b Y) (b := c) (x := Z) hZ o (by simpa using ho) with h1 | h1
  · rcases set_old (σ := σ.set a X) (b := b) (x := Y) hY o (by simpa using ho) with h2 | h2
    · rcases set_old (σ := σ) (b := a) (x := X) hX o ho with h3 | h3
      · left; rw [h1, h2, h3]
      · right; intro obj ho2; exact h3 obj (by rw [← h2, ← h1]; exact ho2)
    · right; intro obj ho2; exact h2 obj (by rw [← h1]; exact ho2)
  · exact .inr h1
theorem PH_pt {o : Nat} {cs : List Value} (ha : ∃ s, σ[a]? = some (rowO s)) (hb : ∃ s, σ[b]? = some (rowO s)) (hc : ∃ s, σ[c]? = some (rowO s)) {r : Bool} (h : σ[o]? = some ⟨cs, 0, r⟩) : (PH σ a b c X Y Z)[o]? = some ⟨cs, 0, r⟩ := by
  have ne : ∀ i, (∃ s, σ[i]? = some (rowO s)) → i ≠ o := by
    rintro i ⟨s, hs⟩ rfl
    rw [h] at hs
    cases hs
  rw [PH_o (ne a ha) (ne b hb) (ne c hc)]; exact h
end

/-- The value of a field whose rows are own, or of none. -/
def laws_markField_ok (c : Contract) : Prop :=
  (∀ (σ : Heap) (k : Int), Ret c [noField, .int .i64 k] σ fun v σ' => v = .int .i64 k ∧ σ' = σ) ∧
  ∀ (σ : Heap) (a b d : Nat) (e x y : List Nat) (n1 n2 n3 : Nat) (k : Int), e.length = n1 → x.length = n2 → y.length = n3 → a ≠ b → a ≠ d → b ≠ d → σ[a]? = some (rowO e) → σ[b]? = some (rowO x) → σ[d]? = some (rowO y) → n1 ≤ 1048576 → n2 ≤ 1048576 → n3 ≤ 1048576 → 0 ≤ k → k ≤ 1000000000 →
    Ret c [fV (slV a n1) (slV b n2) (slV d n3), .int .i64 k] σ fun v σ' => v = .int .i64 (k + n1 + n2 + n3) ∧ σ' = ((σ.set a (rowO (marks k n1))).set b (rowO (marks (k + n1) n2))).set d (rowO (marks (k + n1 + n2) n3))
theorem laws_markField_law {C : Ctab} {i : FuncId} {c : Contract} (h1 : HasW C i c laws_markFloat32S_ok) : laws_markField_ok (gcC C (laws_markField i) false) := by
  refine ⟨fun σ k => ?_, fun σ a b d e x y n1 n2 n3 k e1 e2 e3 h2 h3 h4 ha hb hd hn1 hn2 hn3 k0 k1 => ?_⟩
  · refine ret_gc rfl rfl ?_
    repeat' (first | refine ff ?_ | ((first | refine sR ?_ ?_ | refine sC ?_ ?_) <;> (intro hb; (try rw [hb]); (try simp only [bb] at hb); (try (exfalso; first | omega | exact hb trivial)))) | (apply endS trivial; rotate_left; (· exact eva); (· rfl); try refine ⟨?_, rfl⟩) | fail)
    (apply EvR.aCall h1.at_; (· exact eva); (· exact  h1.ok.1 _ k); (rintro _ _ ⟨rfl, rfl⟩; refine EvR.nrm ?_))
    repeat' (first | refine ff ?_ | ((first | refine sR ?_ ?_ | refine sC ?_ ?_) <;> (intro hb; (try rw [hb]); (try simp only [bb] at hb); (try (exfalso; first | omega | exact hb trivial)))) | (apply endS trivial; rotate_left; (· exact eva); (· rfl); try refine ⟨?_, rfl⟩) | fail)
    (apply EvR.aCall h1.at_; (· exact eva); (· exact  h1.ok.1 _ k); (rintro _ _ ⟨rfl, rfl⟩; refine EvR.nrm ?_))
    repeat' (first | refine ff ?_ | ((first | refine sR ?_ ?_ | refine sC ?_ ?_) <;> (intro hb; (try rw [hb]); (try simp only [bb] at hb); (try (exfalso; first | omega | exact hb trivial)))) | (apply endS trivial; rotate_left; (· exact eva); (· rfl); try refine ⟨?_, rfl⟩) | fail)
    (apply EvR.aCall h1.at_; (· exact eva); (· exact  h1.ok.1 _ k); (rintro _ _ ⟨rfl, rfl⟩; refine EvR.nrm ?_))
    repeat' (first | refine ff ?_ | ((first | refine sR ?_ ?_ | refine sC ?_ ?_) <;> (intro hb; (try rw [hb]); (try simp only [bb] at hb); (try (exfalso; first | omega | exact hb trivial)))) | (apply endS trivial; rotate_left; (· exact eva); (· rfl); try refine ⟨?_, rfl⟩) | fail)
    all_goals rfl
  · subst e1 e2 e3
    have l1 : a < σ.length := (List.getElem?_eq_some_iff.1 ha).1
    have l2 : b < σ.length := (List.getElem?_eq_some_iff.1 hb).1
    have l3 : d < σ.length := (List.getElem?_eq_some_iff.1 hd).1
    have app : ∀ (o : Nat) (τ l : Heap) (X : AObj), o < τ.length → (τ ++ l).set o X = τ.set o X ++ l := fun o τ l X h => List.set_append_left _ _ h
    refine ret_gc rfl rfl ?_
    repeat' (first | refine ff ?_ | ((first | refine sR ?_ ?_ | refine sC ?_ ?_) <;> (intro hb; (try rw [hb]); (try simp only [bb] at hb); (try (exfalso; first | omega | exact hb trivial)))) | (apply endS trivial; rotate_left; (· exact eva); (· rfl); try refine ⟨?_, rfl⟩) | fail)
    apply EvR.aCall h1.at_; (· exact eva); (· exact h1.ok.2 _ a e k (by rw [List.getElem?_append_left l1]; exact ha) hn1 k0 (by omega)); rintro _ _ ⟨rfl, rfl⟩
    rw [app _ _ _ _ l1]
    obtain ⟨σ1, hσ1⟩ : ∃ s, s = σ.set a (rowO (marks k e.length)) := ⟨_, rfl⟩
    have hL : σ.length = σ1.length := by rw [hσ1, List.length_set]
    have hb' : σ1[b]? = some (rowO x) := by rw [hσ1, List.getElem?_set_ne h2]; exact hb
    have hd' : σ1[d]? = some (rowO y) := by rw [hσ1, List.getElem?_set_ne h3]; exact hd
    rw [← hσ1, hL]
    refine EvR.nrm ?_
    repeat' (first | refine ff ?_ | ((first | refine sR ?_ ?_ | refine sC ?_ ?_) <;> (intro hb; (try rw [hb]); (try simp only [bb] at hb); (try (exfalso; first | omega | exact hb trivial)))) | (apply endS trivial; rotate_left; (· exact eva); (· rfl); try refine ⟨?_, rfl⟩) | fail)
    apply EvR.aCall h1.at_; (· exact eva); (· exact h1.ok.2 _ b x _ (by rw [List.getElem?_append_left (by omega)]; exact hb') hn2 (by omega) (by omega)); rintro _ _ ⟨rfl, rfl⟩
    rw [app _ _ _ _ (by omega)]
    obtain ⟨σ2, hσ2⟩ : ∃ s, s = σ1.set b (rowO (marks (k + e.length) x.length)) := ⟨_, rfl⟩
    have hL2 : σ1.length = σ2.length := by rw [hσ2, List.length_set]
    have hd2 : σ2[d]? = some (rowO y) := by rw [hσ2, List.getElem?_set_ne h4]; exact hd'
    rw [← hσ2, hL2]
    refine EvR.nrm ?_
    repeat' (first | refine ff ?_ | ((first | refine sR ?_ ?_ | refine sC ?_ ?_) <;> (intro hb; (try rw [hb]); (try simp only [bb] at hb); (try (exfalso; first | omega | exact hb trivial)))) | (apply endS trivial; rotate_left; (· exact eva); (· rfl); try refine ⟨?_, rfl⟩) | fail)
    apply EvR.aCall h1.at_; (· exact eva); (· exact h1.ok.2 _ d y _ (by rw [List.getElem?_append_left (by omega)]; exact hd2) hn3 (by omega) (by omega)); rintro _ _ ⟨rfl, rfl⟩
    rw [app _ _ _ _ (by omega)]
    obtain ⟨σ3, hσ3⟩ : ∃ s, s = σ2.set d (rowO (marks (k + e.length + x.length) y.length)) := ⟨_, rfl⟩
    have hL3 : σ2.length = σ3.length := by rw [hσ3, List.length_set]
    have hPH : σ3 = PH σ a b d (rowO (marks k e.length)) (rowO (marks (k + e.length) x.length)) (rowO (marks (k + e.length + x.length) y.length)) := by rw [hσ3, hσ2, hσ1]; rfl
    rw [← hσ3, hL3]
    refine EvR.nrm ?_
    repeat' (first | refine ff ?_ | ((first | refine sR ?_ ?_ | refine sC ?_ ?_) <;> (intro hb; (try rw [hb]); (try simp only [bb] at hb); (try (exfalso; first | omega | exact hb trivial)))) | (apply endS trivial; rotate_left; (· exact eva); (· rfl); try refine ⟨?_, rfl⟩) | fail)
    rw [hPH, PH_len]
    apply atEnd_ret
    · exact eva
    · exact end_mod PH_len (PH_old (f32s_const _ _) (f32s_const _ _) (f32s_const _ _)) rfl ⟨rfl, rfl⟩

def laws_heldField_ok (c : Contract) : Prop := ∀ (σ : Heap) (ev xv yv : Value) (n1 n2 n3 : Nat) (k : Int), Row σ 1 ev n1 (f32s (marks k n1)) → Row σ 1 xv n2 (f32s (marks (k + n1) n2)) → Row σ 1 yv n3 (f32s (marks (k + n1 + n2) n3)) → n1 ≤ 1048576 → n2 ≤ 1048576 → n3 ≤ 1048576 → 0 ≤ k → k ≤ 1000000000 →
    Ret c [fV ev xv yv, .int .i64 k] σ fun v σ' => v = .int .i64 (k + n1 + n2 + n3) ∧ σ' = σ
theorem laws_heldField_law {C : Ctab} {i : FuncId} {c : Contract} (h1 : Has C i c laws_heldFloat32S_ok) : laws_heldField_ok (gcC C (laws_heldField i) true) := by
  intro σ ev xv yv n1 n2 n3 k r1 r2 r3 hn1 hn2 hn3 k0 kk
  refine ret_gc rfl rfl ?_
  repeat' (first | refine ff ?_ | ((first | refine sR ?_ ?_ | refine sC ?_ ?_) <;> (intro hb; (try rw [hb]); (try simp only [bb] at hb); (try (exfalso; first | omega | exact hb trivial)))) | (apply endS trivial; rotate_left; (· exact eva); (· rfl); try refine ⟨?_, rfl⟩) | fail)
  (apply EvR.aCall h1.at_; (· exact eva); (· exact  h1.ok _ _ n1 k (r1.ext _) hn1 k0 (by omega)); (rintro _ _ ⟨rfl, rfl⟩; refine EvR.nrm ?_))
  repeat' (first | refine ff ?_ | ((first | refine sR ?_ ?_ | refine sC ?_ ?_) <;> (intro hb; (try rw [hb]); (try simp only [bb] at hb); (try (exfalso; first | omega | exact hb trivial)))) | (apply endS trivial; rotate_left; (· exact eva); (· rfl); try refine ⟨?_, rfl⟩) | fail)
  (apply EvR.aCall h1.at_; (· exact eva); (· exact  h1.ok _ _ n2 (k + n1) (r2.ext _) hn2 (by omega) (by omega)); (rintro _ _ ⟨rfl, rfl⟩; refine EvR.nrm ?_))
  repeat' (first | refine ff ?_ | ((first | refine sR ?_ ?_ | refine sC ?_ ?_) <;> (intro hb; (try rw [hb]); (try simp only [bb] at hb); (try (exfalso; first | omega | exact hb trivial)))) | (apply endS trivial; rotate_left; (· exact eva); (· rfl); try refine ⟨?_, rfl⟩) | fail)
  (apply EvR.aCall h1.at_; (· exact eva); (· exact  h1.ok _ _ n3 (k + n1 + n2) (r3.ext _) hn3 (by omega) (by omega)); (rintro _ _ ⟨rfl, rfl⟩; refine EvR.nrm ?_))
  repeat' (first | refine ff ?_ | ((first | refine sR ?_ ?_ | refine sC ?_ ?_) <;> (intro hb; (try rw [hb]); (try simp only [bb] at hb); (try (exfalso; first | omega | exact hb trivial)))) | (apply endS trivial; rotate_left; (· exact eva); (· rfl); try refine ⟨?_, rfl⟩) | fail)
  all_goals rfl
end Go.Abs

