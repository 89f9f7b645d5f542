/- Laws of functions, some texts put together. Conditions: the laws of what they call. -/
import Derived.Test.YtdlicidmkakooaaFilmPartsL07
import Derived.Test.YtdlicidmkakooaaFilmPartsL12
import Derived.Test.YtdlicidmkakooaaFilmPartsL30
import Derived.Test.YtdlicidmkakooaaWvMF
import Derived.Test.YtdlicidmkakooaaFilmPartsL13
namespace Go.Abs
set_option linter.unusedSimpArgs false
set_option linter.unusedVariables false
set_option maxHeartbeats 8000000
theorem gen_step (g : Nat → Nat) (xs : List Nat) (j : Nat) (h : j < xs.length) : ((List.range j).map g ++ xs.drop j).set j (g j) = (List.range (j + 1)).map g ++ xs.drop (j + 1) := by
  rw [List.set_append_right _ _ (by simp), List.length_map, List.length_range, Nat.sub_self, List.drop_eq_getElem_cons h, List.set_cons_zero, List.range_succ, List.map_append, List.append_assoc]
  rfl
end Go.Abs


namespace Go.Abs

set_option linter.unusedSimpArgs false
set_option linter.unusedVariables false
set_option maxHeartbeats 8000000

theorem set_self {xs : List Nat} {j : Nat} (h : j < xs.length) : xs.set j (xs.getD j 0) = xs := by
  apply List.ext_getElem?
  intro i
  by_cases hi : j = i
  · subst hi; rw [List.getElem?_set_self h, List.getElem?_eq_getElem h, List.getD_eq_getElem?_getD, List.getElem?_eq_getElem h]; rfl
  · rw [List.getElem?_set_ne hi]
end Go.Abs


namespace Go.Abs

set_option linter.unusedSimpArgs false
set_option linter.unusedVariables false
set_option maxHeartbeats 8000000
/- math.Signbit -/
def math_Signbit_r0 : List SOper := [
  ⟨(some 2), none, .mov (.const (.bool false)), 0⟩]
def math_Signbit_r1 (i_math_Float64bits : FuncId) : List SOper := [
  ⟨(some 3), none, .mov (.tmp 0), 0⟩,
  ⟨(some 4), none, .call (.func i_math_Float64bits) [(.tmp 3)], 1⟩,
  ⟨(some 5), none, .conv (.toInt .i64) (.tmp 4), 3⟩,
  ⟨(some 6), none, .bin .lss .other (.tmp 5) (.const (.int .i64 0)), 7⟩,
  ⟨(some 2), none, .mov (.tmp 6), 15⟩]
def math_Signbit (i_math_Float64bits : FuncId) : SFunc := ⟨7, [.tmp 2], (.kp [0] (.seq (.region math_Signbit_r0 false) (.kp [0] (.seq (.region (math_Signbit_r1 i_math_Float64bits) false) .ret))))⟩

/- loop.example/g01201/impl.SameNumber -/
def impl_SameNumber_r0 : List SOper := [
  ⟨(some 4), none, .mov (.const (.bool false)), 0⟩]
def impl_SameNumber_r1 : List SOper := [
  ⟨(some 5), none, .mov (.tmp 0), 0⟩,
  ⟨(some 6), none, .mov (.tmp 0), 0⟩,
  ⟨(some 7), none, .bin .neq .other (.tmp 5) (.tmp 6), 3⟩,
  ⟨(some 8), none, .mov (.tmp 7), 7⟩,
  ⟨(some 9), (some (8, false)), .mov (.tmp 1), 15⟩,
  ⟨(some 10), (some (8, false)), .mov (.tmp 1), 15⟩,
  ⟨(some 11), (some (8, false)), .bin .neq .other (.tmp 9) (.tmp 10), 63⟩,
  ⟨(some 12), none, .pick (.tmp 8) (.const (.bool true)) (.tmp 11), 127⟩]
def impl_SameNumber_r2 : List SOper := [
  ⟨(some 13), none, .mov (.tmp 0), 0⟩,
  ⟨(some 14), none, .mov (.tmp 0), 0⟩,
  ⟨(some 15), none, .bin .neq .other (.tmp 13) (.tmp 14), 3⟩,
  ⟨(some 16), none, .mov (.tmp 15), 7⟩,
  ⟨(some 17), (some (16, true)), .mov (.tmp 1), 15⟩,
  ⟨(some 18), (some (16, true)), .mov (.tmp 1), 15⟩,
  ⟨(some 19), (some (16, true)), .bin .neq .other (.tmp 17) (.tmp 18), 63⟩,
  ⟨(some 20), none, .pick (.tmp 16) (.tmp 19) (.const (.bool false)), 127⟩,
  ⟨(some 4), none, .mov (.tmp 20), 255⟩]
def impl_SameNumber_r3 (i_math_Signbit : FuncId) : List SOper := [
  ⟨(some 21), none, .mov (.tmp 0), 0⟩,
  ⟨(some 22), none, .mov (.tmp 1), 0⟩,
  ⟨(some 23), none, .bin .eql .other (.tmp 21) (.tmp 22), 3⟩,
  ⟨(some 24), none, .mov (.tmp 23), 7⟩,
  ⟨(some 25), (some (24, true)), .mov (.tmp 0), 15⟩,
  ⟨(some 26), (some (24, true)), .conv (.toFloat .f64) (.tmp 25), 31⟩,
  ⟨(some 27), (some (24, true)), .call (.func i_math_Signbit) [(.tmp 26)], 63⟩,
  ⟨(some 28), (some (24, true)), .mov (.tmp 1), 15⟩,
  ⟨(some 29), (some (24, true)), .conv (.toFloat .f64) (.tmp 28), 143⟩,
  ⟨(some 30), (some (24, true)), .call (.func i_math_Signbit) [(.tmp 29)], 511⟩,
  ⟨(some 31), (some (24, true)), .bin .eql .bool (.tmp 27) (.tmp 30), 1023⟩,
  ⟨(some 32), none, .pick (.tmp 24) (.tmp 31) (.const (.bool false)), 2047⟩,
  ⟨(some 4), none, .mov (.tmp 32), 4095⟩]
def impl_SameNumber (i_math_Signbit : FuncId) : SFunc := ⟨33, [.tmp 4], (.kp [0, 1] (.seq (.region impl_SameNumber_r0 false) (.kp [0, 1] (.seq (.seq (.region impl_SameNumber_r1 false) (.kp [0, 1, 12] (.cond (.tmp 12) (.seq (.region impl_SameNumber_r2 false) .ret) .skip))) (.kp [0, 1] (.seq (.region (impl_SameNumber_r3 i_math_Signbit) false) .ret))))))⟩

theorem wf32 {x : Nat} (h : (Lit.float .f32 x).wf = true) : x < 4294967296 := by simpa [Lit.wf] using h
def math_Float64bits_ok (c : Contract) : Prop := ∀ (σ : Heap) (b : Nat), isNaN .f64 b = false → Ret c [.float .f64 b] σ fun v σ' => v = .int .u64 b ∧ σ' = σ
theorem math_Float64bits_law : math_Float64bits_ok (pureC gBits64) := fun σ b h => ret_bits64 σ h
def math_Float32frombits_ok (c : Contract) : Prop := ∀ (σ : Heap) (n : Int), Ret c [.int .u32 n] σ fun v σ' => v = .float .f32 n.toNat ∧ σ' = σ
theorem math_Float32frombits_law : math_Float32frombits_ok (pureC gFrom32) := fun σ n => ret_from32 n σ

theorem wrap_neg {b : Nat} (hb : b < 18446744073709551616) : decide (IntKind.i64.wrap (b : Int) < 0) = sgn64 b := by
  unfold sgn64
  rw [decide_eq_decide]
  simp only [IntKind.wrap]
  simp [IntKind.bits, IntKind.signed]
  omega
def math_Signbit_ok (c : Contract) : Prop := ∀ (σ : Heap) (b : Nat), isNaN .f64 b = false → b < 18446744073709551616 → Ret c [.float .f64 b] σ fun v σ' => v = .bool (sgn64 b) ∧ σ' = σ
theorem math_Signbit_law {C : Ctab} {i : FuncId} {c : Contract} (h1 : Has C i c math_Float64bits_ok) : math_Signbit_ok (gcC C (math_Signbit i) true) := by
  intro σ b hn hb
  refine ret_gc rfl rfl ?_
  repeat' (first | refine ff ?_ | (apply EvR.aCall h1.at_; (· exact eva); (· apply h1.ok <;> exact sid); (rintro _ _ ⟨rfl, rfl⟩; refine EvR.nrm ?_)) | ((first | refine EvR.aSplB ?_ ?_ | refine Ev.aSplB ?_ ?_) <;> (intro hb; (try rw [hb]); (try simp only [Bool.not_eq_true', Bool.not_eq_false', Bool.not_eq_eq_eq_not, Bool.not_true, Bool.not_false, decide_eq_true_eq, decide_eq_false_iff_not, Bool.and_eq_true, Bool.and_eq_false_iff, Bool.or_eq_true, Bool.or_eq_false_iff] at hb); (try (exfalso; first | omega | exact hb trivial)))) | (apply endS trivial; rotate_left; (· exact eva); (· rfl); try refine ⟨?_, rfl⟩) | fail)
  rw [wrap_neg hb]

/-- Numbers that are no NaN, in 32 bits. -/
def nums (xs : List Nat) : Prop := ∀ i, i < xs.length → xs.getD i 0 < 4294967296 ∧ isNaN .f32 (xs.getD i 0) = false
theorem nums_of {xs : List Nat} {b : Nat} (h1 : ∀ x ∈ xs, x < 4294967296) (h2 : xs.all (fun x => share x b) = true) : nums xs := by
  intro i hi
  have hm : xs.getD i 0 ∈ xs := by rw [List.getD_eq_getElem?_getD, List.getElem?_eq_getElem hi]; simp
  refine ⟨h1 _ hm, ?_⟩
  have := List.all_eq_true.1 h2 _ hm
  simp only [share, Bool.and_eq_true] at this
  exact (fge_nan this.1).1
end Go.Abs

