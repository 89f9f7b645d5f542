/- Laws of functions, some texts put together. Conditions: the laws of what they call. -/
import Derived.Test.YtdlicidmkakooaaExactTravelFieldL34
import Derived.Test.YtdlicidmkakooaaExactTravelFieldL26
namespace Go.Abs

set_option linter.unusedSimpArgs false
set_option linter.unusedVariables false
set_option maxHeartbeats 8000000
/- loop.example/g01201/impl.BitsOf -/
def impl_BitsOf_r0 : List SOper := [
 ⟨some 2, none, .mov (.const (.int .i64 0)), 0⟩]
def impl_BitsOf_r1 : List SOper := [
 ⟨some 3, none, .mov (.tmp 0), 0⟩,
 ⟨some 4, none, .mov (.tmp 0), 0⟩,
 ⟨some 5, none, .bin .neq .other (.tmp 3) (.tmp 4), 3⟩]
def impl_BitsOf_r2 : List SOper := [
 ⟨some 2, none, .mov (.const (.int .i64 2143289344)), 0⟩]
def impl_BitsOf_r3 (i_math_Float32bits : FuncId) : List SOper := [
 ⟨some 6, none, .mov (.tmp 0), 0⟩,
 ⟨some 7, none, .call (.func i_math_Float32bits) [(.tmp 6)], 1⟩,
 ⟨some 8, none, .conv (.toInt .i64) (.tmp 7), 3⟩,
 ⟨some 2, none, .mov (.tmp 8), 7⟩]
def impl_BitsOf (i_math_Float32bits : FuncId) : SFunc := ⟨9, [.tmp 2], (.kp [0] (.seq (.region impl_BitsOf_r0 false) (.kp [0] (.seq (.seq (.region impl_BitsOf_r1 false) (.kp [0,5] (.cond (.tmp 5) (.seq (.region impl_BitsOf_r2 false) .ret) .skip))) (.kp [0] (.seq (.region (impl_BitsOf_r3 i_math_Float32bits) false) .ret))))))⟩


/-- The bits of a number; all NaNs have the same. -/
def bitsC (a : Nat) : Nat := if isNaN .f32 a = true then 2143289344 else a
def bits_ok (c : Contract) : Prop := ∀ (σ : Heap) (a : Nat), a < 4294967296 → Ret c [.float .f32 a] σ fun v σ' => v = .int .i64 (bitsC a) ∧ σ' = σ
abbrev impl_BitsOf_ok := bits_ok
abbrev spec_l01BitsN_ok := bits_ok
theorem impl_BitsOf_law {C : Ctab} {i : FuncId} {c : Contract} (h1 : Has C i c math_Float32bits_ok) : impl_BitsOf_ok (gcC C (impl_BitsOf i) true) := by
  intro σ a ha
  have sa := feq_self .f32 a
  cases hn : isNaN .f32 a
  · rw [hn] at sa
    refine ret_gc rfl rfl ?_
    repeat' (first | refine ff ?_ | (apply EvR.aCall h1.at_; (· exact eva); (· apply h1.ok <;> exact sid); (rintro _ _ ⟨rfl, rfl⟩; refine EvR.nrm ?_)) | ((first | refine sR ?_ ?_ | refine sC ?_ ?_) <;> (intro hb; (try rw [hb]); (try simp only [bb] at hb); (try (exfalso; first | omega | exact hb trivial)))) | (apply endS trivial; rotate_left; (· exact eva); (· rfl); try refine ⟨?_, rfl⟩) | fail)
    all_goals simp_all [bitsC]
  · rw [hn] at sa
    refine ret_gc rfl rfl ?_
    repeat' (first | refine ff ?_ | ((first | refine sR ?_ ?_ | refine sC ?_ ?_) <;> (intro hb; (try rw [hb]); (try simp only [bb] at hb); (try (exfalso; first | omega | exact hb trivial)))) | (apply endS trivial; rotate_left; (· exact eva); (· rfl); try refine ⟨?_, rfl⟩) | fail)
    all_goals simp_all [bitsC]
theorem spec_l01BitsN_law {C : Ctab} {i : FuncId} {c : Contract} (h1 : Has C i c math_Float32bits_ok) : spec_l01BitsN_ok (gcC C (spec_l01Bits i) true) := by
  intro σ a ha
  have sa := feq_self .f32 a
  cases hn : isNaN .f32 a
  · rw [hn] at sa
    refine ret_gc rfl rfl ?_
    repeat' (first | refine ff ?_ | (apply EvR.aCall h1.at_; (· exact eva); (· apply h1.ok <;> exact sid); (rintro _ _ ⟨rfl, rfl⟩; refine EvR.nrm ?_)) | ((first | refine sR ?_ ?_ | refine sC ?_ ?_) <;> (intro hb; (try rw [hb]); (try simp only [bb] at hb); (try (exfalso; first | omega | exact hb trivial)))) | (apply endS trivial; rotate_left; (· exact eva); (· rfl); try refine ⟨?_, rfl⟩) | fail)
    all_goals simp_all [bitsC]
  · rw [hn] at sa
    refine ret_gc rfl rfl ?_
    repeat' (first | refine ff ?_ | ((first | refine sR ?_ ?_ | refine sC ?_ ?_) <;> (intro hb; (try rw [hb]); (try simp only [bb] at hb); (try (exfalso; first | omega | exact hb trivial)))) | (apply endS trivial; rotate_left; (· exact eva); (· rfl); try refine ⟨?_, rfl⟩) | fail)
    all_goals simp_all [bitsC]

end Go.Abs


namespace Go.Abs

set_option linter.unusedSimpArgs false
set_option linter.unusedVariables false
set_option maxHeartbeats 8000000
set_option maxRecDepth 20000


theorem xor_zero {x y : Nat} : x ^^^ y = 0 ↔ x = y := by
  constructor
  · intro h
    apply Nat.eq_of_testBit_eq
    intro i
    have h2 : (x ^^^ y).testBit i = false := by rw [h]; simp
    rw [Nat.testBit_xor] at h2
    simpa using h2
  · rintro rfl; simp
end Go.Abs


namespace Go.Abs

set_option linter.unusedSimpArgs false
set_option linter.unusedVariables false
set_option maxHeartbeats 8000000
set_option maxRecDepth 20000
/-- A source of draws: its bytes, its place, its seed. -/
abbrev srcO (cv : Value) (p : Int) (d : Int) : AObj := ⟨[cv, .int .i64 p, .int .u64 d], 0, true⟩
section
variable {C : Ctab} {F : Frame} {τ l : Heap}
end


section
variable {C : Ctab} {F : Frame} {τ l : Heap}
end
/-- A source at a place of the heap. -/
structure Src (σ : Heap) (b : Nat) (cv : Value) (code : List UInt8) (p d : Int) : Prop where
  at_ : σ[b]? = some (srcO cv p d)
  row : Row σ 1 cv code.length (b8s code)
theorem Src.lt {σ : Heap} {b : Nat} {cv : Value} {code : List UInt8} {p d : Int} (h : Src σ b cv code p d) : b < σ.length := (List.getElem?_eq_some_iff.1 h.at_).1
theorem Src.ext {σ : Heap} {b : Nat} {cv : Value} {code : List UInt8} {p d : Int} (h : Src σ b cv code p d) (l : Heap) : Src (σ ++ l) b cv code p d :=
  ⟨by rw [List.getElem?_append_left h.lt]; exact h.at_, h.row.ext l⟩
theorem row_set {σ : Heap} {b n : Nat} {v : Value} {cs cells : List Value} {r : Bool} {X : AObj} (h : Row σ 1 v n cs) (hb : σ[b]? = some ⟨cells, 0, r⟩) : Row (σ.set b X) 1 v n cs := by
  unfold Row at h ⊢
  split at h
  · exact h
  · obtain ⟨h1, h2, obj, h3, h4⟩ := h
    refine ⟨h1, h2, obj, ?_, h4⟩
    obtain ⟨g1, g2, g3, g4⟩ := rowAt_spec h3
    refine rowAt_mk ?_ g2 g3 g4
    rw [List.getElem?_set_ne]
    · exact g1
    · rintro rfl
      rw [hb] at g1
      cases g1
      simp at g2
  · exact h.elim
theorem Src.step {σ : Heap} {b : Nat} {cv : Value} {code : List UInt8} {p d : Int} (h : Src σ b cv code p d) (p' d' : Int) : Src (σ.set b (srcO cv p' d')) b cv code p' d' :=
  ⟨List.getElem?_set_self h.lt, row_set h.row h.at_⟩
theorem Src.same {σ : Heap} {b : Nat} {cv : Value} {code : List UInt8} {p d : Int} (h : Src σ b cv code p d) : σ.set b (srcO cv p d) = σ := set_same h.at_

end Go.Abs

