/- Laws of single functions: fields that are copied, marked and held; strips. Conditions: the laws of what they call. -/
import Derived.Test.YtaacdckenhnocaaExactRecoverFilmL13
import Derived.Test.YtaacdckenhnocaaExactRecoverFilmL07
import Derived.Test.YtaacdckenhnocaaExactRecoverFilmWvH3
namespace Go.Abs

set_option linter.unusedSimpArgs false
set_option linter.unusedVariables false
set_option maxHeartbeats 8000000
/-- Three objects of a heap are replaced. -/
def PH (σ : Heap) (a b c : Nat) (X Y Z : AObj) : Heap := ((σ.set a X).set b Y).set c Z
section
variable {σ : Heap} {a b c : Nat} {X Y Z : AObj}
theorem set_same (h : σ[a]? = some X) : σ.set a X = σ := by
  obtain ⟨hl, he⟩ := List.getElem?_eq_some_iff.1 h
  rw [← he]; exact List.set_getElem_self hl
theorem PH_len : (PH σ a b c X Y Z).length = σ.length := by simp [PH]
theorem PH_a (h1 : a ≠ b) (h2 : a ≠ c) (hl : a < σ.length) : (PH σ a b c X Y Z)[a]? = some X := by
  unfold PH; rw [List.getElem?_set_ne (Ne.symm h2), List.getElem?_set_ne (Ne.symm h1), List.getElem?_set_self hl]
theorem PH_b (h2 : b ≠ c) (hl : b < σ.length) : (PH σ a b c X Y Z)[b]? = some Y := by
  unfold PH; rw [List.getElem?_set_ne (Ne.symm h2), List.getElem?_set_self (by simpa using hl)]
theorem PH_c (hl : c < σ.length) : (PH σ a b c X Y Z)[c]? = some Z := by
  unfold PH; rw [List.getElem?_set_self (by simpa using hl)]
theorem PH_o {o : Nat} (h1 : a ≠ o) (h2 : b ≠ o) (h3 : c ≠ o) : (PH σ a b c X Y Z)[o]? = σ[o]? := by
  unfold PH; rw [List.getElem?_set_ne h3, List.getElem?_set_ne h2, List.getElem?_set_ne h1]
theorem PH_pt {o : Nat} {cs : List Value} (ha : ∃ s, σ[a]? = some (rowO s)) (hb : ∃ s, σ[b]? = some (rowO s)) (hc : ∃ s, σ[c]? = some (rowO s)) {r : Bool} (h : σ[o]? = some ⟨cs, 0, r⟩) : (PH σ a b c X Y Z)[o]? = some ⟨cs, 0, r⟩ := by
  have ne : ∀ i, (∃ s, σ[i]? = some (rowO s)) → i ≠ o := by
    rintro i ⟨s, hs⟩ rfl
    rw [h] at hs
    cases hs
  rw [PH_o (ne a ha) (ne b hb) (ne c hc)]; exact h
end

end Go.Abs

