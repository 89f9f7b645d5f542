/- Laws of functions, some texts put together. Conditions: the laws of what they call. -/
import Derived.Test.YtdlicidmkakooaaExactTravelFieldL04
import Derived.Test.YtdlicidmkakooaaExactTravelFieldWvH3
namespace Go.Abs
set_option linter.unusedSimpArgs false
set_option linter.unusedVariables false
set_option maxHeartbeats 8000000
theorem atC_in {w h x y : Int} (x0 : 0 ≤ x) (x1 : x < w) (y0 : 0 ≤ y) (y1 : y < h) : atC w h x y = x + w * y := by
  unfold atC
  rw [Int.tmod_eq_emod_of_nonneg (by omega), Int.add_emod_right, Int.emod_eq_of_lt x0 x1, Int.tmod_eq_emod_of_nonneg (by omega), Int.add_emod_right, Int.emod_eq_of_lt y0 y1]
abbrev sheetK : Bool × List CK := (true, [.int .i64, .int .i64, .bool, .rowF .f32, .rowF .f32])
abbrev intK : Bool × List CK := (false, [.int .i64])
theorem int_abs {σ : Heap} {v : Value} (h : argAbs σ false [.int .i64] v) : ∃ n, v = .int .i64 n ∧ inK .i64 n := by
  obtain ⟨cs, h1, h2⟩ := h
  obtain ⟨_, _, rfl, ⟨n, rfl, hn⟩, g1⟩ := absAll_cons h1
  cases absAll_nil g1
  refine ⟨n, ?_, hn⟩
  simp only [Bool.false_eq_true, if_false, List.cons.injEq, and_true] at h2
  exact h2.symm

end Go.Abs


namespace Go.Abs

set_option linter.unusedSimpArgs false
set_option linter.unusedVariables false
set_option maxHeartbeats 8000000
/- loop.example/g01201/laws.eqField -/
def laws_eqField_r0 : List SOper := [
 ⟨some 2, none, .box (.tmp 0), 0⟩,
 ⟨some 3, none, .box (.tmp 1), 0⟩,
 ⟨some 4, none, .mov (.const (.bool false)), 0⟩]
def laws_eqField_r1 (i_laws_eqFloat32S : FuncId) : List SOper := [
 ⟨some 5, none, .fieldAddr 0 (.tmp 2), 0⟩,
 ⟨some 6, none, .load1 (.tmp 5), 1⟩,
 ⟨some 7, none, .fieldAddr 0 (.tmp 3), 0⟩,
 ⟨some 8, none, .load1 (.tmp 7), 4⟩,
 ⟨some 9, none, .call (.func i_laws_eqFloat32S) [(.tmp 6), (.tmp 8)], 15⟩,
 ⟨some 10, none, .un .not (.tmp 9), 31⟩]
def laws_eqField_r2 : List SOper := [
 ⟨some 4, none, .mov (.const (.bool false)), 0⟩]
def laws_eqField_r3 (i_laws_eqFloat32S : FuncId) : List SOper := [
 ⟨some 11, none, .fieldAddr 1 (.tmp 2), 0⟩,
 ⟨some 12, none, .load1 (.tmp 11), 1⟩,
 ⟨some 13, none, .fieldAddr 1 (.tmp 3), 0⟩,
 ⟨some 14, none, .load1 (.tmp 13), 4⟩,
 ⟨some 15, none, .call (.func i_laws_eqFloat32S) [(.tmp 12), (.tmp 14)], 15⟩,
 ⟨some 16, none, .un .not (.tmp 15), 31⟩]
def laws_eqField_r4 : List SOper := [
 ⟨some 4, none, .mov (.const (.bool false)), 0⟩]
def laws_eqField_r5 (i_laws_eqFloat32S : FuncId) : List SOper := [
 ⟨some 17, none, .fieldAddr 2 (.tmp 2), 0⟩,
 ⟨some 18, none, .load1 (.tmp 17), 1⟩,
 ⟨some 19, none, .fieldAddr 2 (.tmp 3), 0⟩,
 ⟨some 20, none, .load1 (.tmp 19), 4⟩,
 ⟨some 21, none, .call (.func i_laws_eqFloat32S) [(.tmp 18), (.tmp 20)], 15⟩,
 ⟨some 22, none, .un .not (.tmp 21), 31⟩]
def laws_eqField_r6 : List SOper := [
 ⟨some 4, none, .mov (.const (.bool false)), 0⟩]
def laws_eqField_r7 : List SOper := [
 ⟨some 4, none, .mov (.const (.bool true)), 0⟩]
def laws_eqField (i_laws_eqFloat32S : FuncId) : SFunc := ⟨23, [.tmp 4], (.kp [0,1] (.seq (.region laws_eqField_r0 false) (.kp [2,3] (.seq (.seq (.region (laws_eqField_r1 i_laws_eqFloat32S) false) (.kp [2,3,10] (.cond (.tmp 10) (.seq (.region laws_eqField_r2 false) .ret) .skip))) (.kp [2,3] (.seq (.seq (.region (laws_eqField_r3 i_laws_eqFloat32S) false) (.kp [2,3,16] (.cond (.tmp 16) (.seq (.region laws_eqField_r4 false) .ret) .skip))) (.kp [2,3] (.seq (.seq (.region (laws_eqField_r5 i_laws_eqFloat32S) false) (.kp [22] (.cond (.tmp 22) (.seq (.region laws_eqField_r6 false) .ret) .skip))) (.kp [] (.seq (.region laws_eqField_r7 false) .ret))))))))))⟩


/-- The value of a field. -/
abbrev fV (ev xv yv : Value) : Value := .agg #[ev, xv, yv]
structure FlR (σ : Heap) (ev xv yv : Value) (e x y : List Nat) : Prop where
  e : Row σ 1 ev e.length (f32s e)
  x : Row σ 1 xv x.length (f32s x)
  y : Row σ 1 yv y.length (f32s y)
theorem FlR.ext {σ : Heap} {ev xv yv : Value} {e x y : List Nat} (h : FlR σ ev xv yv e x y) (τ : Heap) : FlR (σ ++ τ) ev xv yv e x y := ⟨h.e.ext τ, h.x.ext τ, h.y.ext τ⟩

def laws_eqField_ok (c : Contract) : Prop := ∀ (σ : Heap) (ev xv yv ev' xv' yv' : Value) (e x y : List Nat), FlR σ ev xv yv e x y → FlR σ ev' xv' yv' e x y → e.length ≤ 1048576 → x.length ≤ 1048576 → y.length ≤ 1048576 →
    Ret c [fV ev xv yv, fV ev' xv' yv'] σ fun v σ' => v = .bool true ∧ σ' = σ
theorem laws_eqField_law {C : Ctab} {i : FuncId} {c : Contract} (h1 : Has C i c laws_eqFloat32S_ok) : laws_eqField_ok (gcC C (laws_eqField i) true) := by
  intro σ ev xv yv ev' xv' yv' e x y ⟨r1, r2, r3⟩ ⟨r4, r5, r6⟩ hn1 hn2 hn3
  refine ret_gc rfl rfl ?_
  repeat' (first | refine ff ?_ | (apply EvR.aCall h1.at_; (· exact eva); (· apply h1.ok <;> exact sid); (rintro _ _ ⟨rfl, rfl⟩; refine EvR.nrm ?_)) | ((first | refine sR ?_ ?_ | refine sC ?_ ?_) <;> (intro hb; (try rw [hb]); (try simp only [bb] at hb); (try (exfalso; first | omega | exact hb trivial)))) | (apply endS trivial; rotate_left; (· exact eva); (· rfl); try refine ⟨?_, rfl⟩) | fail)
  all_goals (try rfl)


end Go.Abs


namespace Go.Abs
set_option linter.unusedSimpArgs false
set_option linter.unusedVariables false
set_option maxHeartbeats 8000000
theorem tmod_nn {a b : Int} (h : 0 ≤ a) : a.tmod b = a % b := Int.tmod_eq_emod_of_nonneg h
theorem tdiv_nn {a b : Int} (h : 0 ≤ a) : a.tdiv b = a / b := Int.tdiv_eq_ediv_of_nonneg h
attribute [push_cast] tmod_nn tdiv_nn Int.toNat_natCast
end Go.Abs


namespace Go.Abs

set_option linter.unusedSimpArgs false
set_option linter.unusedVariables false
set_option maxHeartbeats 8000000


theorem mod_at {W y x : Nat} (hx : x < W) : (W * y + x) % W = x := by rw [Nat.mul_add_mod, Nat.mod_eq_of_lt hx]
theorem div_at {W y x : Nat} (hx : x < W) : (W * y + x) / W = y := by
  rw [Nat.mul_add_div (by omega), Nat.div_eq_of_lt hx, Nat.add_zero]
theorem cell_lt {W H x y : Nat} (hx : x < W) (hy : y < H) : W * y + x < W * H := by
  calc W * y + x < W * y + W := by omega
    _ = W * (y + 1) := (Nat.mul_succ W y).symm
    _ ≤ W * H := Nat.mul_le_mul_left W hy
/-- What is to be known of a cell's index. -/
theorem cell_ix {W H x y : Nat} (hx : x < W) (hy : y < H) : (x : Int) + (W : Int) * (y : Int) < (W : Int) * (H : Int) ∧ 0 ≤ (W : Int) * (y : Int) ∧ ((x : Int) + (W : Int) * (y : Int)).toNat = W * y + x ∧ (W : Int) * (y : Int) ≤ (W : Int) * (H : Int) := by
  have h := cell_lt hx hy
  have e1 : ((W * y : Nat) : Int) = (W : Int) * (y : Int) := Int.natCast_mul _ _
  have e2 : ((W * H : Nat) : Int) = (W : Int) * (H : Int) := Int.natCast_mul _ _
  have h2 : W * y ≤ W * H := Nat.mul_le_mul_left W (Nat.le_of_lt hy)
  omega

end Go.Abs


namespace Go.Abs

set_option linter.unusedSimpArgs false
set_option linter.unusedVariables false
set_option maxHeartbeats 8000000


theorem sz1_fact (n : Nat) (left : Int) : -1 ≤ sz1 n left ∧ (0 ≤ left → sz1 n left ≤ left) ∧ (0 ≤ sz1 n left → (n : Int) ≤ left) := by
  unfold sz1; split <;> omega
theorem szSheet_fact (sp lo : List Nat) (left : Int) (h : 0 ≤ left) : -1 ≤ szSheet sp lo left ∧ szSheet sp lo left ≤ left ∧ (0 ≤ szSheet sp lo left → (sp.length : Int) ≤ left ∧ (lo.length : Int) ≤ left) := by
  have h1 := sz1_fact sp.length left
  have h2 := sz1_fact lo.length (sz1 sp.length left)
  unfold szSheet
  split
  · omega
  · split <;> omega
end Go.Abs

