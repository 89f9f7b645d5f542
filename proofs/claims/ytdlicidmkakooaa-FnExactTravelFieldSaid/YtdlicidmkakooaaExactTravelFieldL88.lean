/- Laws of functions, some texts put together. Conditions: the laws of what they call. -/
import Derived.Test.YtdlicidmkakooaaExactTravelFieldL36
import Derived.Test.YtdlicidmkakooaaExactTravelFieldL27
import Derived.Test.YtdlicidmkakooaaExactTravelFieldL69
import Derived.Test.YtdlicidmkakooaaExactTravelFieldL34
namespace Go.Abs

set_option linter.unusedSimpArgs false
set_option linter.unusedVariables false
set_option maxHeartbeats 8000000
set_option maxRecDepth 20000
theorem nanC : isNaN .f32 2143289344 = true := by decide +kernel
def SameNumberN_ok (c : Contract) : Prop := ∀ (σ : Heap) (a b : Nat), a < 4294967296 → b < 4294967296 → Ret c [.float .f32 a, .float .f32 b] σ fun v σ' => v = .bool (decide (bitsC a = bitsC b)) ∧ σ' = σ
abbrev impl_SameNumberN_ok := SameNumberN_ok
abbrev spec_l01SameN_ok := SameNumberN_ok
theorem bitsC_n {a : Nat} (h : isNaN .f32 a = true) : bitsC a = 2143289344 := by unfold bitsC; rw [if_pos h]
theorem bitsC_f {a : Nat} (h : isNaN .f32 a = false) : bitsC a = a := by unfold bitsC; rw [if_neg (by rw [h]; simp)]
theorem bitsC_ne {a : Nat} (h : isNaN .f32 a = false) : a ≠ 2143289344 := by rintro rfl; rw [nanC] at h; cases h
theorem impl_SameNumberN_law {C : Ctab} {i : FuncId} {c : Contract} (h1 : Has C i c math_Signbit_ok) : impl_SameNumberN_ok (gcC C (impl_SameNumber i) true) := by
  intro σ a b ha hb
  cases hna : isNaN .f32 a
  · have sa : feq .f32 a a = true := by rw [feq_self, hna]; rfl
    rw [bitsC_f hna]
    cases hnb : isNaN .f32 b
    · have sb : feq .f32 b b = true := by rw [feq_self, hnb]; rfl
      rw [bitsC_f hnb]
      obtain ⟨wa1, wa2, wa3⟩ := wide_sign ha hna
      obtain ⟨wb1, wb2, wb3⟩ := wide_sign hb hnb
      have hs := same_bits ha hb hna hnb
      rw [← wa2, ← wb2] at hs
      rw [← hs]
      refine ret_gc rfl rfl ?_
      repeat' (first | refine ff ?_ | (apply EvR.aCall h1.at_; (· exact eva); (· apply h1.ok <;> exact sid); (rintro _ _ ⟨rfl, rfl⟩; refine EvR.nrm ?_)) | ((first | refine sR ?_ ?_ | refine sC ?_ ?_) <;> (intro hb; (try rw [hb]); (try simp only [bb] at hb); (try (exfalso; first | omega | exact hb trivial)))) | (apply endS trivial; rotate_left; (· exact eva); (· rfl); try refine ⟨?_, rfl⟩) | fail)
      all_goals simp_all
    · have sb : feq .f32 b b = false := by rw [feq_self, hnb]; rfl
      rw [bitsC_n hnb, decide_eq_false (bitsC_ne hna)]
      refine ret_gc rfl rfl ?_
      repeat' (first | refine ff ?_ | ((first | refine sR ?_ ?_ | refine sC ?_ ?_) <;> (intro hb; (try rw [hb]); (try simp only [bb] at hb); (try (exfalso; first | omega | exact hb trivial)))) | (apply endS trivial; rotate_left; (· exact eva); (· rfl); try refine ⟨?_, rfl⟩) | fail)
      all_goals simp_all
  · have sa : feq .f32 a a = false := by rw [feq_self, hna]; rfl
    rw [bitsC_n hna]
    cases hnb : isNaN .f32 b
    · have sb : feq .f32 b b = true := by rw [feq_self, hnb]; rfl
      rw [bitsC_f hnb, decide_eq_false (Ne.symm (bitsC_ne hnb))]
      refine ret_gc rfl rfl ?_
      repeat' (first | refine ff ?_ | ((first | refine sR ?_ ?_ | refine sC ?_ ?_) <;> (intro hb; (try rw [hb]); (try simp only [bb] at hb); (try (exfalso; first | omega | exact hb trivial)))) | (apply endS trivial; rotate_left; (· exact eva); (· rfl); try refine ⟨?_, rfl⟩) | fail)
      all_goals simp_all
    · have sb : feq .f32 b b = false := by rw [feq_self, hnb]; rfl
      rw [bitsC_n hnb, decide_eq_true rfl]
      refine ret_gc rfl rfl ?_
      repeat' (first | refine ff ?_ | ((first | refine sR ?_ ?_ | refine sC ?_ ?_) <;> (intro hb; (try rw [hb]); (try simp only [bb] at hb); (try (exfalso; first | omega | exact hb trivial)))) | (apply endS trivial; rotate_left; (· exact eva); (· rfl); try refine ⟨?_, rfl⟩) | fail)
      all_goals simp_all
theorem spec_l01SameN_law {C : Ctab} {i : FuncId} {c : Contract} (h1 : Has C i c spec_l01BitsN_ok) : spec_l01SameN_ok (gcC C (spec_l01Same i) true) := by
  intro σ a b ha hb
  refine ret_gc rfl rfl ?_
  repeat' (first | refine ff ?_ | (apply EvR.aCall h1.at_; (· exact eva); (· apply h1.ok <;> exact sid); (rintro _ _ ⟨rfl, rfl⟩; refine EvR.nrm ?_)) | ((first | refine sR ?_ ?_ | refine sC ?_ ?_) <;> (intro hb; (try rw [hb]); (try simp only [bb] at hb); (try (exfalso; first | omega | exact hb trivial)))) | (apply endS trivial; rotate_left; (· exact eva); (· rfl); try refine ⟨?_, rfl⟩) | fail)
  rw [decide_eq_decide.2 (Int.ofNat_inj (m := bitsC a) (n := bitsC b))]

def in32N (xs : List Nat) : Prop := ∀ i, xs.getD i 0 < 4294967296
end Go.Abs


namespace Go.Abs

set_option linter.unusedSimpArgs false
set_option linter.unusedVariables false
set_option maxHeartbeats 8000000
set_option maxRecDepth 20000
theorem Ev.base {C : Ctab} {F : Frame} {Q} {code : SCode} {H : Heap} (h : ∀ S, S = H → Ev C code F (S ++ []) Q) : Ev C code F H Q := by
  have := h H rfl
  rwa [List.append_nil] at this
end Go.Abs

