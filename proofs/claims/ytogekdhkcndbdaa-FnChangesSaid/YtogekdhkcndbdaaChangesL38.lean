/- Laws of functions: the bytes of a change, by the reference; both functions that check their arguments. Conditions: the laws of what they call. -/
import Derived.Test.YtogekdhkcndbdaaChangesL37
namespace Go.Abs

set_option linter.unusedSimpArgs false
set_option linter.unusedVariables false
set_option maxHeartbeats 8000000
set_option maxRecDepth 20000
/- loop.example/g01201/impl.isChangeable -/
def impl_isChangeable_r0 : List SOper := [
  ⟨(some 2), none, .mov (.const (.bool false)), 0⟩]
def impl_isChangeable_r1 : List SOper := [
  ⟨(some 3), none, .mov (.tmp 0), 0⟩,
  ⟨(some 4), none, .len false (.tmp 3), 1⟩,
  ⟨(some 5), none, .bin .leq .other (.tmp 4) (.const (.int .i64 768)), 3⟩,
  ⟨(some 2), none, .mov (.tmp 5), 7⟩]
def impl_isChangeable : SFunc := ⟨6, [.tmp 2], (.kp [0] (.seq (.region impl_isChangeable_r0 false) (.kp [0] (.seq (.region impl_isChangeable_r1 false) .ret))))⟩

/- loop.example/g01201/impl.ChangeBytes -/
def impl_ChangeBytes_r0 : List SOper := [
  ⟨(some 4), none, .mov (.const (.string ⟨#[]⟩)), 0⟩,
  ⟨(some 5), none, .mov (.const (.bool false)), 1⟩]
def impl_ChangeBytes_r1 (i_impl_isChangeable : FuncId) : List SOper := [
  ⟨(some 6), none, .mov (.tmp 0), 0⟩,
  ⟨(some 7), none, .call (.func i_impl_isChangeable) [(.tmp 6)], 1⟩,
  ⟨(some 8), none, .un .not (.tmp 7), 3⟩,
  ⟨(some 9), none, .mov (.tmp 8), 7⟩,
  ⟨(some 10), (some (9, false)), .mov (.tmp 0), 15⟩,
  ⟨(some 11), (some (9, false)), .len false (.tmp 10), 31⟩,
  ⟨(some 12), (some (9, false)), .mov (.tmp 1), 15⟩,
  ⟨(some 13), (some (9, false)), .len false (.tmp 12), 79⟩,
  ⟨(some 14), (some (9, false)), .bin .neq .other (.tmp 11) (.tmp 13), 255⟩,
  ⟨(some 15), none, .pick (.tmp 9) (.const (.bool true)) (.tmp 14), 511⟩]
def impl_ChangeBytes_r2 : List SOper := [
  ⟨(some 4), none, .mov (.const (.string ⟨#[]⟩)), 0⟩,
  ⟨(some 5), none, .mov (.const (.bool false)), 1⟩]
def impl_ChangeBytes_r3 (i_impl_changeBytes : FuncId) : List SOper := [
  ⟨(some 16), none, .mov (.tmp 0), 0⟩,
  ⟨(some 17), none, .mov (.tmp 1), 0⟩,
  ⟨(some 18), none, .call (.func i_impl_changeBytes) [(.tmp 16), (.tmp 17)], 3⟩,
  ⟨(some 4), none, .mov (.tmp 18), 7⟩,
  ⟨(some 5), none, .mov (.const (.bool true)), 15⟩]
def impl_ChangeBytes (i_impl_isChangeable i_impl_changeBytes : FuncId) : SFunc := ⟨19, [.tmp 4, .tmp 5], (.kp [0, 1] (.seq (.region impl_ChangeBytes_r0 false) (.kp [0, 1] (.seq (.seq (.region (impl_ChangeBytes_r1 i_impl_isChangeable) false) (.kp [0, 1, 15] (.cond (.tmp 15) (.seq (.region impl_ChangeBytes_r2 false) .ret) .skip))) (.kp [0, 1] (.seq (.region (impl_ChangeBytes_r3 i_impl_changeBytes) false) .ret))))))⟩


theorem xor_zero {x y : Nat} : x ^^^ y = 0 ↔ x = y := by
  constructor
  · intro h
    apply Nat.eq_of_testBit_eq
    intro i
    have h2 : (x ^^^ y).testBit i = false := by rw [h]; simp
    rw [Nat.testBit_xor] at h2
    simpa using h2
  · rintro rfl; simp
def isChangeable_ok (c : Contract) : Prop := ∀ (σ : Heap) (v : Value) (xs : List Nat), Row σ 1 v xs.length (f32s xs) → Ret c [v] σ fun r σ' => r = .bool (decide ((xs.length : Int) ≤ 768)) ∧ σ' = σ
abbrev impl_isChangeable_ok := isChangeable_ok
theorem impl_isChangeable_law {C : Ctab} : impl_isChangeable_ok (gcC C impl_isChangeable true) := by
  intro σ v xs hr
  refine ret_gc rfl rfl ?_
  repeat' (first | refine ff ?_ | ((first | refine EvR.aSplB ?_ ?_ | refine Ev.aSplB ?_ ?_) <;> (intro hb; (try rw [hb]); (try simp only [Bool.not_eq_true', Bool.not_eq_false', Bool.not_eq_eq_eq_not, Bool.not_true, Bool.not_false, decide_eq_true_eq, decide_eq_false_iff_not, Bool.and_eq_true, Bool.and_eq_false_iff, Bool.or_eq_true, Bool.or_eq_false_iff] at hb); (try (exfalso; first | omega | exact hb trivial)))) | (apply endS trivial; rotate_left; (· exact eva); (· rfl); try refine ⟨?_, rfl⟩) | fail)
  all_goals rfl
/-- The bytes of a change and whether there is one, as results. -/
def chRes (ok : Bool) (t : List UInt8) : Value := if ok = true then .tuple #[.string (str t), .bool true] else .tuple #[.string (str []), .bool false]
def chOk (a b : List Nat) : Bool := decide ((a.length : Int) ≤ 768) && decide (b.length = a.length)
def ChangeBytes_ok (c : Contract) : Prop := ∀ (σ : Heap) (va vb : Value) (a b : List Nat), Row σ 1 va a.length (f32s a) → Row σ 1 vb b.length (f32s b) → lows a → lows b → a.length ≤ 1048576 → b.length ≤ 1048576 →
    Ret c [va, vb] σ fun v σ' => v = chRes (chOk a b) (chg (xb a b) a.length (a.length + 1) 0) ∧ σ' = σ
abbrev impl_ChangeBytes_ok := ChangeBytes_ok
theorem impl_ChangeBytes_law {C : Ctab} {i1 i2 : FuncId} {c1 c2 : Contract} (h1 : Has C i1 c1 impl_isChangeable_ok) (h2 : Has C i2 c2 impl_changeBytes_ok) : impl_ChangeBytes_ok (gcC C (impl_ChangeBytes i1 i2) true) := by
  intro σ va vb a b r1 r2 la lb m1 m2
  by_cases g1 : a.length ≤ 768
  · by_cases g2 : b.length = a.length
    · rw [show chOk a b = true from by simp [chOk, g2]; omega, chRes, if_pos rfl]
      refine ret_gc rfl rfl ?_
      repeat' (first | refine ff ?_ | (apply EvR.aCall h1.at_; (· exact eva); (· apply h1.ok <;> exact sid); (rintro _ _ ⟨rfl, rfl⟩; refine EvR.nrm ?_)) | ((first | refine EvR.aSplB ?_ ?_ | refine Ev.aSplB ?_ ?_) <;> (intro hb; (try rw [hb]); (try simp only [Bool.not_eq_true', Bool.not_eq_false', Bool.not_eq_eq_eq_not, Bool.not_true, Bool.not_false, decide_eq_true_eq, decide_eq_false_iff_not, Bool.and_eq_true, Bool.and_eq_false_iff, Bool.or_eq_true, Bool.or_eq_false_iff] at hb); (try (exfalso; first | omega | exact hb trivial)))) | (apply endS trivial; rotate_left; (· exact eva); (· rfl); try refine ⟨?_, rfl⟩) | fail)
      (apply EvR.aCall h2.at_; (· exact eva); (· exact  h2.ok _ va vb a b (r1.ext _) (r2.ext _) g2 g1 la lb); (rintro _ _ ⟨rfl, rfl⟩; refine EvR.nrm ?_))
      repeat' (first | refine ff ?_ | ((first | refine EvR.aSplB ?_ ?_ | refine Ev.aSplB ?_ ?_) <;> (intro hb; (try rw [hb]); (try simp only [Bool.not_eq_true', Bool.not_eq_false', Bool.not_eq_eq_eq_not, Bool.not_true, Bool.not_false, decide_eq_true_eq, decide_eq_false_iff_not, Bool.and_eq_true, Bool.and_eq_false_iff, Bool.or_eq_true, Bool.or_eq_false_iff] at hb); (try (exfalso; first | omega | exact hb trivial)))) | (apply endS trivial; rotate_left; (· exact eva); (· rfl); try refine ⟨?_, rfl⟩) | fail)
      all_goals rfl
    · rw [show chOk a b = false from by simp [chOk, g2], chRes, if_neg (by simp)]
      refine ret_gc rfl rfl ?_
      repeat' (first | refine ff ?_ | (apply EvR.aCall h1.at_; (· exact eva); (· apply h1.ok <;> exact sid); (rintro _ _ ⟨rfl, rfl⟩; refine EvR.nrm ?_)) | ((first | refine EvR.aSplB ?_ ?_ | refine Ev.aSplB ?_ ?_) <;> (intro hb; (try rw [hb]); (try simp only [Bool.not_eq_true', Bool.not_eq_false', Bool.not_eq_eq_eq_not, Bool.not_true, Bool.not_false, decide_eq_true_eq, decide_eq_false_iff_not, Bool.and_eq_true, Bool.and_eq_false_iff, Bool.or_eq_true, Bool.or_eq_false_iff] at hb); (try (exfalso; first | omega | exact hb trivial)))) | (apply endS trivial; rotate_left; (· exact eva); (· rfl); try refine ⟨?_, rfl⟩) | fail)
      all_goals first | rfl | (exfalso; omega)
  · rw [show chOk a b = false from by simp [chOk]; omega, chRes, if_neg (by simp)]
    refine ret_gc rfl rfl ?_
    repeat' (first | refine ff ?_ | (apply EvR.aCall h1.at_; (· exact eva); (· apply h1.ok <;> exact sid); (rintro _ _ ⟨rfl, rfl⟩; refine EvR.nrm ?_)) | ((first | refine EvR.aSplB ?_ ?_ | refine Ev.aSplB ?_ ?_) <;> (intro hb; (try rw [hb]); (try simp only [Bool.not_eq_true', Bool.not_eq_false', Bool.not_eq_eq_eq_not, Bool.not_true, Bool.not_false, decide_eq_true_eq, decide_eq_false_iff_not, Bool.and_eq_true, Bool.and_eq_false_iff, Bool.or_eq_true, Bool.or_eq_false_iff] at hb); (try (exfalso; first | omega | exact hb trivial)))) | (apply endS trivial; rotate_left; (· exact eva); (· rfl); try refine ⟨?_, rfl⟩) | fail)
    all_goals first | rfl | (exfalso; omega)
end Go.Abs

