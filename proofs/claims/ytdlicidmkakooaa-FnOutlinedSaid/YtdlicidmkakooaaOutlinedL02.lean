/- Laws of single functions: sheets. Conditions: the laws of what they call. -/
import Derived.Test.YtdlicidmkakooaaOutlinedL01
import Derived.Test.YtdlicidmkakooaaOutlinedWvH3
namespace Go.Abs

set_option linter.unusedSimpArgs false
set_option linter.unusedVariables false
set_option maxHeartbeats 8000000
/- loop.example/g01201/spec.l00In -/
def spec_l00In_r0 : List SOper := [
 ⟨some 6, none, .mov (.const (.bool false)), 0⟩]
def spec_l00In_r1 : List SOper := [
 ⟨some 7, none, .mov (.tmp 0), 0⟩,
 ⟨some 8, none, .mov (.tmp 1), 0⟩,
 ⟨some 9, none, .bin .geq .other (.tmp 7) (.tmp 8), 3⟩,
 ⟨some 10, none, .mov (.tmp 9), 7⟩,
  ⟨(some 11), (some (10, true)), .mov (.tmp 0), 15⟩,
  ⟨(some 12), (some (10, true)), .mov (.tmp 2), 15⟩,
  ⟨(some 13), (some (10, true)), .bin .leq .other (.tmp 11) (.tmp 12), 63⟩,
 ⟨some 14, none, .pick (.tmp 10) (.tmp 13) (.const (.bool false)), 127⟩,
 ⟨some 6, none, .mov (.tmp 14), 255⟩]
def spec_l00In : SFunc := ⟨15, [.tmp 6], (.kp [0,1,2] (.seq (.region spec_l00In_r0 false) (.kp [0,1,2] (.seq (.region spec_l00In_r1 false) .ret))))⟩

/- loop.example/g01201/spec.l02Sides -/
def spec_l02Sides_r0 : List SOper := [
 ⟨some 4, none, .mov (.const (.bool false)), 0⟩]
def spec_l02Sides_r1 (i_spec_l00In : FuncId) : List SOper := [
 ⟨some 5, none, .mov (.tmp 0), 0⟩,
 ⟨some 6, none, .call (.func i_spec_l00In) [(.tmp 5), (.const (.int .i64 3)), (.const (.int .i64 16))], 1⟩,
 ⟨some 7, none, .mov (.tmp 6), 3⟩,
  ⟨(some 8), (some (7, true)), .mov (.tmp 1), 7⟩,
  ⟨(some 9), (some (7, true)), .call (.func i_spec_l00In) [(.tmp 8), (.const (.int .i64 3)), (.const (.int .i64 16))], 15⟩,
 ⟨some 10, none, .pick (.tmp 7) (.tmp 9) (.const (.bool false)), 31⟩,
 ⟨some 11, none, .mov (.tmp 10), 63⟩,
  ⟨(some 12), (some (11, true)), .mov (.tmp 0), 127⟩,
  ⟨(some 13), (some (11, true)), .mov (.tmp 1), 127⟩,
  ⟨(some 14), (some (11, true)), .bin .mul .other (.tmp 12) (.tmp 13), 511⟩,
  ⟨(some 15), (some (11, true)), .bin .leq .other (.tmp 14) (.const (.int .i64 256)), 1023⟩,
 ⟨some 16, none, .pick (.tmp 11) (.tmp 15) (.const (.bool false)), 2047⟩,
 ⟨some 4, none, .mov (.tmp 16), 4095⟩]
def spec_l02Sides (i_spec_l00In : FuncId) : SFunc := ⟨17, [.tmp 4], (.kp [0,1] (.seq (.region spec_l02Sides_r0 false) (.kp [0,1] (.seq (.region (spec_l02Sides_r1 i_spec_l00In) false) .ret))))⟩

/- loop.example/g01201/impl.within -/
def impl_within_r0 : List SOper := [
 ⟨some 6, none, .mov (.const (.bool false)), 0⟩]
def impl_within_r1 : List SOper := [
 ⟨some 7, none, .mov (.tmp 0), 0⟩,
 ⟨some 8, none, .mov (.tmp 1), 0⟩,
 ⟨some 9, none, .bin .geq .other (.tmp 7) (.tmp 8), 3⟩,
 ⟨some 10, none, .mov (.tmp 9), 7⟩,
  ⟨(some 11), (some (10, true)), .mov (.tmp 0), 15⟩,
  ⟨(some 12), (some (10, true)), .mov (.tmp 2), 15⟩,
  ⟨(some 13), (some (10, true)), .bin .leq .other (.tmp 11) (.tmp 12), 63⟩,
 ⟨some 14, none, .pick (.tmp 10) (.tmp 13) (.const (.bool false)), 127⟩,
 ⟨some 6, none, .mov (.tmp 14), 255⟩]
def impl_within : SFunc := ⟨15, [.tmp 6], (.kp [0,1,2] (.seq (.region impl_within_r0 false) (.kp [0,1,2] (.seq (.region impl_within_r1 false) .ret))))⟩

/- loop.example/g01201/impl.areBetween -/
def impl_areBetween_r0 : List SOper := [
 ⟨some 4, none, .mov (.const (.bool false)), 0⟩]
def impl_areBetween_r1 : List SOper := [
 ⟨some 7, none, .mov (.tmp 0), 0⟩,
 ⟨some 8, none, .len false (.tmp 7), 1⟩,
 ⟨some 9, none, .mov (.const (.int .i64 0)), 0⟩]
def impl_areBetween_r2 : List SOper := [
 ⟨some 10, none, .bin .lss .other (.tmp 9) (.tmp 8), 0⟩]
def impl_areBetween_r3 : List SOper := [
 ⟨some 11, none, .indexAddrS 1 (.tmp 7) (.tmp 9), 0⟩,
 ⟨some 12, none, .load1 (.tmp 11), 1⟩,
 ⟨some 6, none, .mov (.tmp 12), 3⟩]
def impl_areBetween_r4 : List SOper := [
 ⟨some 13, none, .mov (.tmp 6), 0⟩,
 ⟨some 14, none, .bin .geq .other (.tmp 13) (.const (.float .f32 0)), 1⟩,
 ⟨some 15, none, .mov (.tmp 14), 3⟩,
  ⟨(some 16), (some (15, true)), .mov (.tmp 6), 7⟩,
  ⟨(some 17), (some (15, true)), .mov (.tmp 1), 7⟩,
  ⟨(some 18), (some (15, true)), .bin .leq .other (.tmp 16) (.tmp 17), 31⟩,
 ⟨some 19, none, .pick (.tmp 15) (.tmp 18) (.const (.bool false)), 63⟩,
 ⟨some 20, none, .un .not (.tmp 19), 127⟩]
def impl_areBetween_r5 : List SOper := [
 ⟨some 4, none, .mov (.const (.bool false)), 0⟩]
def impl_areBetween_r6 : List SOper := [
 ⟨some 21, none, .bin .add .other (.tmp 9) (.const (.int .i64 1)), 0⟩,
 ⟨some 9, none, .mov (.tmp 21), 1⟩]
def impl_areBetween_l7 : SCode := (.kp [1,7,8,9] (.seq (.region impl_areBetween_r2 false) (.kp [1,7,8,9,10] (.seq (.cond (.tmp 10) .skip (.exit 0)) (.kp [1,7,8,9] (.seq (.block 1 (.seq (.region impl_areBetween_r3 false) (.kp [1,6,7,8,9] (.seq (.region impl_areBetween_r4 false) (.kp [1,7,8,9,20] (.cond (.tmp 20) (.seq (.region impl_areBetween_r5 false) .ret) .skip)))))) (.kp [1,7,8,9] (.region impl_areBetween_r6 false))))))))
def impl_areBetween_r8 : List SOper := [
 ⟨some 4, none, .mov (.const (.bool true)), 0⟩]
def impl_areBetween : SFunc := ⟨22, [.tmp 4], (.kp [0,1] (.seq (.region impl_areBetween_r0 false) (.kp [0,1] (.seq (.seq (.region impl_areBetween_r1 false) (.kp [1,7,8,9] (.block 0 (.loop impl_areBetween_l7)))) (.kp [] (.seq (.region impl_areBetween_r8 false) .ret))))))⟩


def inR (n lo hi : Int) : Bool := decide (lo ≤ n) && decide (n ≤ hi)
def inR_ok (c : Contract) : Prop := ∀ (σ : Heap) (n lo hi : Int), Ret c [.int .i64 n, .int .i64 lo, .int .i64 hi] σ fun v σ' => v = .bool (inR n lo hi) ∧ σ' = σ
abbrev spec_l00In_ok := inR_ok
abbrev impl_within_ok := inR_ok
theorem spec_l00In_law {C : Ctab} : spec_l00In_ok (gcC C spec_l00In true) := by
  intro σ n lo hi
  unfold inR
  cases h : decide (lo ≤ n)
  all_goals
    refine ret_gc rfl rfl ?_
    repeat' (first | refine ff ?_ | ((first | refine sR ?_ ?_ | refine sC ?_ ?_) <;> (intro hb; (try rw [hb]); (try simp only [bb] at hb); (try (exfalso; first | omega | exact hb trivial)))) | (apply endS trivial; rotate_left; (· exact eva); (· rfl); try refine ⟨?_, rfl⟩) | fail)
    all_goals (try simp_all)

theorem impl_within_law {C : Ctab} : impl_within_ok (gcC C impl_within true) := by
  intro σ n lo hi
  unfold inR
  cases h : decide (lo ≤ n)
  all_goals
    refine ret_gc rfl rfl ?_
    repeat' (first | refine ff ?_ | ((first | refine sR ?_ ?_ | refine sC ?_ ?_) <;> (intro hb; (try rw [hb]); (try simp only [bb] at hb); (try (exfalso; first | omega | exact hb trivial)))) | (apply endS trivial; rotate_left; (· exact eva); (· rfl); try refine ⟨?_, rfl⟩) | fail)
    all_goals (try simp_all)


/-- The value of a sheet. -/
abbrev shV (w h : Int) (wr : Bool) (sv lv : Value) : Value := .agg #[.int .i64 w, .int .i64 h, .bool wr, sv, lv]
/-- The rows of a sheet. -/
structure ShR (σ : Heap) (sv lv : Value) (sp lo : List Nat) : Prop where
  s : Row σ 1 sv sp.length (f32s sp)
  l : Row σ 1 lv lo.length (f32s lo)

/-- A row that is an object's whole. -/
abbrev slV (b n : Nat) : Value := .slice (some ⟨b, 0, none⟩) n n
abbrev rowO (xs : List Nat) : AObj := ⟨f32s xs, 1, true⟩

def sides (w h : Int) : Bool := inR w 3 16 && inR h 3 16
theorem inR_true {n lo hi : Int} (h : inR n lo hi = true) : lo ≤ n ∧ n ≤ hi := by simpa [inR] using h
theorem sides_mul {w h : Int} (hw : inR w 3 16 = true) (hh : inR h 3 16 = true) : 9 ≤ w * h ∧ w * h ≤ 256 := by
  obtain ⟨a1, a2⟩ := inR_true hw
  obtain ⟨b1, b2⟩ := inR_true hh
  have h1 : w * h ≤ 16 * 16 := Int.mul_le_mul a2 b2 (by omega) (by omega)
  have h2 : 3 * 3 ≤ w * h := Int.mul_le_mul a1 b1 (by omega) (by omega)
  omega

def spec_l02Sides_ok (c : Contract) : Prop := ∀ (σ : Heap) (w h : Int), Ret c [.int .i64 w, .int .i64 h] σ fun v σ' => v = .bool (sides w h) ∧ σ' = σ
theorem spec_l02Sides_law {C : Ctab} {i : FuncId} {c : Contract} (h1 : Has C i c spec_l00In_ok) : spec_l02Sides_ok (gcC C (spec_l02Sides i) true) := by
  intro σ w h
  unfold sides
  cases hw : inR w 3 16
  · refine ret_gc rfl rfl ?_
    repeat' (first | refine ff ?_ | (apply EvR.aCall h1.at_; (· exact eva); (· apply h1.ok <;> exact sid); (rintro _ _ ⟨rfl, rfl⟩; refine EvR.nrm ?_; try simp only [hw])) | ((first | refine sR ?_ ?_ | refine sC ?_ ?_) <;> (intro hb; (try rw [hb]); (try simp only [bb] at hb); (try (exfalso; first | omega | exact hb trivial)))) | (apply endS trivial; rotate_left; (· exact eva); (· rfl); try refine ⟨?_, rfl⟩) | fail)
    all_goals (try rfl)
  · cases hh : inR h 3 16
    · refine ret_gc rfl rfl ?_
      repeat' (first | refine ff ?_ | (apply EvR.aCall h1.at_; (· exact eva); (· apply h1.ok <;> exact sid); (rintro _ _ ⟨rfl, rfl⟩; refine EvR.nrm ?_; try simp only [hw, hh])) | ((first | refine sR ?_ ?_ | refine sC ?_ ?_) <;> (intro hb; (try rw [hb]); (try simp only [bb] at hb); (try (exfalso; first | omega | exact hb trivial)))) | (apply endS trivial; rotate_left; (· exact eva); (· rfl); try refine ⟨?_, rfl⟩) | fail)
      all_goals (try rfl)
    · obtain ⟨m1, m2⟩ := sides_mul hw hh
      refine ret_gc rfl rfl ?_
      repeat' (first | refine ff ?_ | (apply EvR.aCall h1.at_; (· exact eva); (· apply h1.ok <;> exact sid); (rintro _ _ ⟨rfl, rfl⟩; refine EvR.nrm ?_; try simp only [hw, hh])) | ((first | refine sR ?_ ?_ | refine sC ?_ ?_) <;> (intro hb; (try rw [hb]); (try simp only [bb] at hb); (try (exfalso; first | omega | exact hb trivial)))) | (apply endS trivial; rotate_left; (· exact eva); (· rfl); try refine ⟨?_, rfl⟩) | fail)
      all_goals (rw [decide_eq_true m2]; rfl)


/-- Whether a sheet is one. -/
def isSheet (w h : Int) (sp lo : List Nat) : Bool :=
  sides w h && decide ((sp.length : Int) = w * h) && decide ((lo.length : Int) = w * h) && sp.all (fun x => share x 0x3f000000) && lo.all (fun x => share x 0x3f800000)

def impl_areBetween_ok (c : Contract) : Prop := ∀ (σ : Heap) (v : Value) (xs : List Nat) (m : Nat), Row σ 1 v xs.length (f32s xs) → xs.length ≤ 1048576 → Ret c [v, .float .f32 m] σ fun v σ' => v = .bool (xs.all fun x => share x m) ∧ σ' = σ
theorem all_getD {p : Nat → Bool} : ∀ {xs : List Nat}, (∀ i, i < xs.length → p (xs.getD i 0) = true) → xs.all p = true
  | [], _ => rfl
  | x :: xs, h => by
    rw [List.all_cons, Bool.and_eq_true]
    exact ⟨h 0 (by simp), all_getD fun i hi => h (i + 1) (by simp; omega)⟩
theorem all_getD_false {p : Nat → Bool} {xs : List Nat} {i : Nat} (hi : i < xs.length) (h : p (xs.getD i 0) = false) : xs.all p = false := by
  cases ha : xs.all p with
  | false => rfl
  | true =>
    have := List.all_eq_true.1 ha (xs.getD i 0) (by rw [List.getD_eq_getElem?_getD, List.getElem?_eq_getElem hi]; simp)
    rw [h] at this; cases this
theorem impl_areBetween_law {C : Ctab} : impl_areBetween_ok (gcC C impl_areBetween true) := by
  intro σ v xs m hr hn
  have k1 := hr.ok
  refine ret_gc rfl rfl ?_
  repeat' (first | refine ff ?_ | ((first | refine sR ?_ ?_ | refine sC ?_ ?_) <;> (intro hb; (try rw [hb]); (try simp only [bb] at hb); (try (exfalso; first | omega | exact hb trivial)))) | (apply endS trivial; rotate_left; (· exact eva); (· rfl); try refine ⟨?_, rfl⟩) | fail)
  refine Ev.whlC (S := Nat) (fun i => xs.length - i) (fun i => [(9, .int .i64 i)]) (fun i => i ≤ xs.length ∧ ∀ j, j < i → share (xs.getD j 0) m = true) 0 (by exact tF) ⟨Nat.zero_le _, fun j hj => by omega⟩ ?_
  rintro i F hF ⟨hi, hp⟩
  (simp only [List.cons_append, List.nil_append, ↓fget_cons, fkeep_cons, fkeep_nil, Nat.reduceEqDiff, reduceIte] at hF; subst hF)
  by_cases hlt : i < xs.length
  · cases ha : share (xs.getD i 0) m
    · rw [all_getD_false hlt ha]
      unfold share at ha
      repeat' (first | refine ff ?_ | ((first | refine sR ?_ ?_ | refine sC ?_ ?_) <;> (intro hb; (try rw [hb]); (try simp only [bb] at hb); (try (exfalso; first | omega | exact hb trivial)))) | (apply endS trivial; rotate_left; (· exact eva); (· rfl); try refine ⟨?_, rfl⟩) | fail)
      all_goals (try simp_all)
    · have ha2 := ha
      unfold share at ha
      repeat' (first | refine ff ?_ | ((first | refine sR ?_ ?_ | refine sC ?_ ?_) <;> (intro hb; (try rw [hb]); (try simp only [bb] at hb); (try (exfalso; first | omega | exact hb trivial)))) | (apply endS trivial; rotate_left; (· exact eva); (· rfl); try refine ⟨?_, rfl⟩) | fail)
      all_goals first
        | (exfalso; simp_all; done)
        | (refine ⟨i + 1, by omega, by exact tF, rfl, by omega, fun j hj => ?_⟩
           rcases Nat.lt_or_ge j i with hji | hji
           · exact hp j hji
           · obtain rfl : j = i := by omega
             exact ha2)
  · obtain rfl : i = xs.length := by omega
    rw [all_getD hp]
    repeat' (first | refine ff ?_ | ((first | refine sR ?_ ?_ | refine sC ?_ ?_) <;> (intro hb; (try rw [hb]); (try simp only [bb] at hb); (try (exfalso; first | omega | exact hb trivial)))) | (apply endS trivial; rotate_left; (· exact eva); (· rfl); try refine ⟨?_, rfl⟩) | fail)
    all_goals (try rfl)


end Go.Abs

