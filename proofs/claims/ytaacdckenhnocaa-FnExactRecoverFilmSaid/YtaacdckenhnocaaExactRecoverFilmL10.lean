/- Laws of single functions: fields are read, copied and compared. Conditions: the laws of what they call. -/
import Derived.Test.YtaacdckenhnocaaExactRecoverFilmL04
namespace Go.Abs

set_option linter.unusedSimpArgs false
set_option linter.unusedVariables false
set_option maxHeartbeats 8000000
/- loop.example/g01201/laws.eqField -/
def laws_eqField_r0 : List SOper := [
 ⟨some 2, none, .box (.tmp 0), 0⟩,
 ⟨some 3, none, .box (.tmp 1), 0⟩,
 ⟨some 4, none, .mov (.const (.bool false)), 0⟩]
def laws_eqField_r1 (i_laws_eqFloat32S : FuncId) : List SOper := [
 ⟨some 5, none, .fieldAddr 0 (.tmp 2), 0⟩,
 ⟨some 6, none, .load1 (.tmp 5), 1⟩,
 ⟨some 7, none, .fieldAddr 0 (.tmp 3), 0⟩,
 ⟨some 8, none, .load1 (.tmp 7), 4⟩,
 ⟨some 9, none, .call (.func i_laws_eqFloat32S) [(.tmp 6), (.tmp 8)], 15⟩,
 ⟨some 10, none, .un .not (.tmp 9), 31⟩]
def laws_eqField_r2 : List SOper := [
 ⟨some 4, none, .mov (.const (.bool false)), 0⟩]
def laws_eqField_r3 (i_laws_eqFloat32S : FuncId) : List SOper := [
 ⟨some 11, none, .fieldAddr 1 (.tmp 2), 0⟩,
 ⟨some 12, none, .load1 (.tmp 11), 1⟩,
 ⟨some 13, none, .fieldAddr 1 (.tmp 3), 0⟩,
 ⟨some 14, none, .load1 (.tmp 13), 4⟩,
 ⟨some 15, none, .call (.func i_laws_eqFloat32S) [(.tmp 12), (.tmp 14)], 15⟩,
 ⟨some 16, none, .un .not (.tmp 15), 31⟩]
def laws_eqField_r4 : List SOper := [
 ⟨some 4, none, .mov (.const (.bool false)), 0⟩]
def laws_eqField_r5 (i_laws_eqFloat32S : FuncId) : List SOper := [
 ⟨some 17, none, .fieldAddr 2 (.tmp 2), 0⟩,
 ⟨some 18, none, .load1 (.tmp 17), 1⟩,
 ⟨some 19, none, .fieldAddr 2 (.tmp 3), 0⟩,
 ⟨some 20, none, .load1 (.tmp 19), 4⟩,
 ⟨some 21, none, .call (.func i_laws_eqFloat32S) [(.tmp 18), (.tmp 20)], 15⟩,
 ⟨some 22, none, .un .not (.tmp 21), 31⟩]
def laws_eqField_r6 : List SOper := [
 ⟨some 4, none, .mov (.const (.bool false)), 0⟩]
def laws_eqField_r7 : List SOper := [
 ⟨some 4, none, .mov (.const (.bool true)), 0⟩]
def laws_eqField (i_laws_eqFloat32S : FuncId) : SFunc := ⟨23, [.tmp 4], (.kp [0,1] (.seq (.region laws_eqField_r0 false) (.kp [2,3] (.seq (.seq (.region (laws_eqField_r1 i_laws_eqFloat32S) false) (.kp [2,3,10] (.cond (.tmp 10) (.seq (.region laws_eqField_r2 false) .ret) .skip))) (.kp [2,3] (.seq (.seq (.region (laws_eqField_r3 i_laws_eqFloat32S) false) (.kp [2,3,16] (.cond (.tmp 16) (.seq (.region laws_eqField_r4 false) .ret) .skip))) (.kp [2,3] (.seq (.seq (.region (laws_eqField_r5 i_laws_eqFloat32S) false) (.kp [22] (.cond (.tmp 22) (.seq (.region laws_eqField_r6 false) .ret) .skip))) (.kp [] (.seq (.region laws_eqField_r7 false) .ret))))))))))⟩


/-- The value of a field. -/
abbrev fV (ev xv yv : Value) : Value := .agg #[ev, xv, yv]
structure FlR (σ : Heap) (ev xv yv : Value) (e x y : List Nat) : Prop where
  e : Row σ 1 ev e.length (f32s e)
  x : Row σ 1 xv x.length (f32s x)
  y : Row σ 1 yv y.length (f32s y)
theorem FlR.ext {σ : Heap} {ev xv yv : Value} {e x y : List Nat} (h : FlR σ ev xv yv e x y) (τ : Heap) : FlR (σ ++ τ) ev xv yv e x y := ⟨h.e.ext τ, h.x.ext τ, h.y.ext τ⟩

def laws_eqField_ok (c : Contract) : Prop := ∀ (σ : Heap) (ev xv yv ev' xv' yv' : Value) (e x y : List Nat), FlR σ ev xv yv e x y → FlR σ ev' xv' yv' e x y → e.length ≤ 1048576 → x.length ≤ 1048576 → y.length ≤ 1048576 →
    Ret c [fV ev xv yv, fV ev' xv' yv'] σ fun v σ' => v = .bool true ∧ σ' = σ
theorem laws_eqField_law {C : Ctab} {i : FuncId} {c : Contract} (h1 : Has C i c laws_eqFloat32S_ok) : laws_eqField_ok (gcC C (laws_eqField i) true) := by
  intro σ ev xv yv ev' xv' yv' e x y ⟨r1, r2, r3⟩ ⟨r4, r5, r6⟩ hn1 hn2 hn3
  refine ret_gc rfl rfl ?_
  repeat' (first | refine ff ?_ | (apply EvR.aCall h1.at_; (· exact eva); (· apply h1.ok <;> exact sid); (rintro _ _ ⟨rfl, rfl⟩; refine EvR.nrm ?_)) | ((first | refine sR ?_ ?_ | refine sC ?_ ?_) <;> (intro hb; (try rw [hb]); (try simp only [bb] at hb); (try (exfalso; first | omega | exact hb trivial)))) | (apply endS trivial; rotate_left; (· exact eva); (· rfl); try refine ⟨?_, rfl⟩) | fail)
  all_goals (try rfl)


end Go.Abs

