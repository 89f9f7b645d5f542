/- Laws of single functions: fields are read, copied and compared. Conditions: the laws of what they call. -/
import Derived.Test.YtoijdkmkfhefjaaExactStoreFilmL04
namespace Go.Abs

set_option linter.unusedSimpArgs false
set_option linter.unusedVariables false
set_option maxHeartbeats 8000000
/- loop.example/g01201/laws.szField -/
def laws_szField_r0 : List SOper := [
  ⟨(some 2), none, .box (.tmp 0), 0⟩,
  ⟨(some 4), none, .mov (.const (.int .i64 0)), 0⟩]
def laws_szField_r1 (i_laws_szFloat32S : FuncId) : List SOper := [
  ⟨(some 5), none, .fieldAddr 0 (.tmp 2), 0⟩,
  ⟨(some 6), none, .load1 (.tmp 5), 1⟩,
  ⟨(some 7), none, .mov (.tmp 1), 0⟩,
  ⟨(some 8), none, .call (.func i_laws_szFloat32S) [(.tmp 6), (.tmp 7)], 7⟩,
  ⟨(some 1), none, .mov (.tmp 8), 15⟩]
def laws_szField_r2 : List SOper := [
  ⟨(some 9), none, .mov (.tmp 1), 0⟩,
  ⟨(some 10), none, .bin .lss .other (.tmp 9) (.const (.int .i64 0)), 1⟩]
def laws_szField_r3 : List SOper := [
  ⟨(some 4), none, .mov (.const (.int .i64 (-1))), 0⟩]
def laws_szField_r4 (i_laws_szFloat32S : FuncId) : List SOper := [
  ⟨(some 11), none, .fieldAddr 1 (.tmp 2), 0⟩,
  ⟨(some 12), none, .load1 (.tmp 11), 1⟩,
  ⟨(some 13), none, .mov (.tmp 1), 0⟩,
  ⟨(some 14), none, .call (.func i_laws_szFloat32S) [(.tmp 12), (.tmp 13)], 7⟩,
  ⟨(some 1), none, .mov (.tmp 14), 15⟩]
def laws_szField_r5 : List SOper := [
  ⟨(some 15), none, .mov (.tmp 1), 0⟩,
  ⟨(some 16), none, .bin .lss .other (.tmp 15) (.const (.int .i64 0)), 1⟩]
def laws_szField_r6 : List SOper := [
  ⟨(some 4), none, .mov (.const (.int .i64 (-1))), 0⟩]
def laws_szField_r7 (i_laws_szFloat32S : FuncId) : List SOper := [
  ⟨(some 17), none, .fieldAddr 2 (.tmp 2), 0⟩,
  ⟨(some 18), none, .load1 (.tmp 17), 1⟩,
  ⟨(some 19), none, .mov (.tmp 1), 0⟩,
  ⟨(some 20), none, .call (.func i_laws_szFloat32S) [(.tmp 18), (.tmp 19)], 7⟩,
  ⟨(some 1), none, .mov (.tmp 20), 15⟩]
def laws_szField_r8 : List SOper := [
  ⟨(some 21), none, .mov (.tmp 1), 0⟩,
  ⟨(some 22), none, .bin .lss .other (.tmp 21) (.const (.int .i64 0)), 1⟩]
def laws_szField_r9 : List SOper := [
  ⟨(some 4), none, .mov (.const (.int .i64 (-1))), 0⟩]
def laws_szField_r10 : List SOper := [
  ⟨(some 23), none, .mov (.tmp 1), 0⟩,
  ⟨(some 4), none, .mov (.tmp 23), 1⟩]
def laws_szField (i_laws_szFloat32S : FuncId) : SFunc := ⟨24, [.tmp 4], (.kp [0, 1] (.seq (.region laws_szField_r0 false) (.kp [1, 2] (.seq (.region (laws_szField_r1 i_laws_szFloat32S) false) (.kp [1, 2] (.seq (.seq (.region laws_szField_r2 false) (.kp [1, 2, 10] (.cond (.tmp 10) (.seq (.region laws_szField_r3 false) .ret) .skip))) (.kp [1, 2] (.seq (.region (laws_szField_r4 i_laws_szFloat32S) false) (.kp [1, 2] (.seq (.seq (.region laws_szField_r5 false) (.kp [1, 2, 16] (.cond (.tmp 16) (.seq (.region laws_szField_r6 false) .ret) .skip))) (.kp [1, 2] (.seq (.region (laws_szField_r7 i_laws_szFloat32S) false) (.kp [1] (.seq (.seq (.region laws_szField_r8 false) (.kp [1, 22] (.cond (.tmp 22) (.seq (.region laws_szField_r9 false) .ret) .skip))) (.kp [1] (.seq (.region laws_szField_r10 false) .ret))))))))))))))))⟩

/- loop.example/g01201/laws.toField -/
def laws_toField_r0 : List SOper := [
  ⟨(some 1), none, .box (.tmp 0), 0⟩,
  ⟨(some 2), none, .alloc [(.slice none 0 0), (.slice none 0 0), (.slice none 0 0)], 0⟩]
def laws_toField_r1 : List SOper := [
  ⟨(some 3), none, .alloc [(.slice none 0 0), (.slice none 0 0), (.slice none 0 0)], 0⟩]
def laws_toField_r2 (i_laws_toFloat32S : FuncId) : List SOper := [
  ⟨(some 4), none, .fieldAddr 0 (.tmp 1), 0⟩,
  ⟨(some 5), none, .load1 (.tmp 4), 1⟩,
  ⟨(some 6), none, .call (.func i_laws_toFloat32S) [(.tmp 5)], 3⟩,
  ⟨(some 7), none, .fieldAddr 0 (.tmp 3), 7⟩,
  ⟨none, none, .store 1 (.tmp 7) (.tmp 6), 15⟩]
def laws_toField_r3 (i_laws_toFloat32S : FuncId) : List SOper := [
  ⟨(some 8), none, .fieldAddr 1 (.tmp 1), 0⟩,
  ⟨(some 9), none, .load1 (.tmp 8), 1⟩,
  ⟨(some 10), none, .call (.func i_laws_toFloat32S) [(.tmp 9)], 3⟩,
  ⟨(some 11), none, .fieldAddr 1 (.tmp 3), 7⟩,
  ⟨none, none, .store 1 (.tmp 11) (.tmp 10), 15⟩]
def laws_toField_r4 (i_laws_toFloat32S : FuncId) : List SOper := [
  ⟨(some 12), none, .fieldAddr 2 (.tmp 1), 0⟩,
  ⟨(some 13), none, .load1 (.tmp 12), 1⟩,
  ⟨(some 14), none, .call (.func i_laws_toFloat32S) [(.tmp 13)], 3⟩,
  ⟨(some 15), none, .fieldAddr 2 (.tmp 3), 7⟩,
  ⟨none, none, .store 1 (.tmp 15) (.tmp 14), 15⟩]
def laws_toField_r5 : List SOper := [
  ⟨(some 16), none, .loadN 3 (.tmp 3), 0⟩,
  ⟨none, none, .store 3 (.tmp 2) (.tmp 16), 1⟩]
def laws_toField (i_laws_toFloat32S : FuncId) : SFunc := ⟨17, [.cellN 2 3], (.kp [0] (.seq (.region laws_toField_r0 false) (.kp [1, 2] (.seq (.region laws_toField_r1 false) (.kp [1, 2, 3] (.seq (.region (laws_toField_r2 i_laws_toFloat32S) false) (.kp [1, 2, 3] (.seq (.region (laws_toField_r3 i_laws_toFloat32S) false) (.kp [1, 2, 3] (.seq (.region (laws_toField_r4 i_laws_toFloat32S) false) (.kp [2, 3] (.seq (.region laws_toField_r5 false) .ret))))))))))))⟩

/- loop.example/g01201/laws.eqField -/
def laws_eqField_r0 : List SOper := [
  ⟨(some 2), none, .box (.tmp 0), 0⟩,
  ⟨(some 3), none, .box (.tmp 1), 0⟩,
  ⟨(some 4), none, .mov (.const (.bool false)), 0⟩]
def laws_eqField_r1 (i_laws_eqFloat32S : FuncId) : List SOper := [
  ⟨(some 5), none, .fieldAddr 0 (.tmp 2), 0⟩,
  ⟨(some 6), none, .load1 (.tmp 5), 1⟩,
  ⟨(some 7), none, .fieldAddr 0 (.tmp 3), 0⟩,
  ⟨(some 8), none, .load1 (.tmp 7), 4⟩,
  ⟨(some 9), none, .call (.func i_laws_eqFloat32S) [(.tmp 6), (.tmp 8)], 15⟩,
  ⟨(some 10), none, .un .not (.tmp 9), 31⟩]
def laws_eqField_r2 : List SOper := [
  ⟨(some 4), none, .mov (.const (.bool false)), 0⟩]
def laws_eqField_r3 (i_laws_eqFloat32S : FuncId) : List SOper := [
  ⟨(some 11), none, .fieldAddr 1 (.tmp 2), 0⟩,
  ⟨(some 12), none, .load1 (.tmp 11), 1⟩,
  ⟨(some 13), none, .fieldAddr 1 (.tmp 3), 0⟩,
  ⟨(some 14), none, .load1 (.tmp 13), 4⟩,
  ⟨(some 15), none, .call (.func i_laws_eqFloat32S) [(.tmp 12), (.tmp 14)], 15⟩,
  ⟨(some 16), none, .un .not (.tmp 15), 31⟩]
def laws_eqField_r4 : List SOper := [
  ⟨(some 4), none, .mov (.const (.bool false)), 0⟩]
def laws_eqField_r5 (i_laws_eqFloat32S : FuncId) : List SOper := [
  ⟨(some 17), none, .fieldAddr 2 (.tmp 2), 0⟩,
  ⟨(some 18), none, .load1 (.tmp 17), 1⟩,
  ⟨(some 19), none, .fieldAddr 2 (.tmp 3), 0⟩,
  ⟨(some 20), none, .load1 (.tmp 19), 4⟩,
  ⟨(some 21), none, .call (.func i_laws_eqFloat32S) [(.tmp 18), (.tmp 20)], 15⟩,
  ⟨(some 22), none, .un .not (.tmp 21), 31⟩]
def laws_eqField_r6 : List SOper := [
  ⟨(some 4), none, .mov (.const (.bool false)), 0⟩]
def laws_eqField_r7 : List SOper := [
  ⟨(some 4), none, .mov (.const (.bool true)), 0⟩]
def laws_eqField (i_laws_eqFloat32S : FuncId) : SFunc := ⟨23, [.tmp 4], (.kp [0, 1] (.seq (.region laws_eqField_r0 false) (.kp [2, 3] (.seq (.seq (.region (laws_eqField_r1 i_laws_eqFloat32S) false) (.kp [2, 3, 10] (.cond (.tmp 10) (.seq (.region laws_eqField_r2 false) .ret) .skip))) (.kp [2, 3] (.seq (.seq (.region (laws_eqField_r3 i_laws_eqFloat32S) false) (.kp [2, 3, 16] (.cond (.tmp 16) (.seq (.region laws_eqField_r4 false) .ret) .skip))) (.kp [2, 3] (.seq (.seq (.region (laws_eqField_r5 i_laws_eqFloat32S) false) (.kp [22] (.cond (.tmp 22) (.seq (.region laws_eqField_r6 false) .ret) .skip))) (.kp [] (.seq (.region laws_eqField_r7 false) .ret))))))))))⟩


/-- The value of a field. -/
abbrev fV (ev xv yv : Value) : Value := .agg #[ev, xv, yv]
structure FlR (σ : Heap) (ev xv yv : Value) (e x y : List Nat) : Prop where
  e : Row σ 1 ev e.length (f32s e)
  x : Row σ 1 xv x.length (f32s x)
  y : Row σ 1 yv y.length (f32s y)
theorem FlR.ext {σ : Heap} {ev xv yv : Value} {e x y : List Nat} (h : FlR σ ev xv yv e x y) (τ : Heap) : FlR (σ ++ τ) ev xv yv e x y := ⟨h.e.ext τ, h.x.ext τ, h.y.ext τ⟩

def laws_toField_ok (c : Contract) : Prop := ∀ (σ : Heap) (ev xv yv : Value) (e x y : List Nat), FlR σ ev xv yv e x y → e.length ≤ 1048576 → x.length ≤ 1048576 → y.length ≤ 1048576 →
    Ret c [fV ev xv yv] σ fun v σ' => v = fV (slV σ.length e.length) (slV (σ.length + 1) x.length) (slV (σ.length + 2) y.length) ∧ σ' = σ ++ [rowO e, rowO x, rowO y]
theorem laws_toField_law {C : Ctab} {i : FuncId} {c : Contract} (h1 : Has C i c laws_toFloat32S_ok) : laws_toField_ok (gcC C (laws_toField i) true) := by
  intro σ ev xv yv e x y ⟨r1, r2, r3⟩ hn1 hn2 hn3
  refine ret_gc rfl rfl ?_
  repeat' (first | refine ff ?_ | (apply EvR.aCall h1.at_; (· exact eva); (· apply h1.ok <;> exact sid); (rintro _ _ ⟨rfl, rfl⟩; refine EvR.nrm ?_)) | ((first | refine EvR.aSplB ?_ ?_ | refine Ev.aSplB ?_ ?_) <;> (intro hb; (try rw [hb]); (try simp only [Bool.not_eq_true', Bool.not_eq_false', Bool.not_eq_eq_eq_not, Bool.not_true, Bool.not_false, decide_eq_true_eq, decide_eq_false_iff_not, Bool.and_eq_true, Bool.and_eq_false_iff, Bool.or_eq_true, Bool.or_eq_false_iff] at hb); (try (exfalso; first | omega | exact hb trivial)))) | (apply endS trivial; rotate_left; (· exact eva); (· rfl); try refine ⟨?_, rfl⟩) | fail)
  (apply endR [3, 4, 5] trivial ⟨rfl, rfl⟩; (· exact eva); (· simp [gcTop, gcVal, gcLeaf, gcLeaves, gcVals, constOk, gc_lt, gc_lt0]); (· rfl); (· decide); (· simp [allConst, f32s, i64s, b8s, bools, constOk]))


def laws_eqField_ok (c : Contract) : Prop := ∀ (σ : Heap) (ev xv yv ev' xv' yv' : Value) (e x y : List Nat), FlR σ ev xv yv e x y → FlR σ ev' xv' yv' e x y → e.length ≤ 1048576 → x.length ≤ 1048576 → y.length ≤ 1048576 →
    Ret c [fV ev xv yv, fV ev' xv' yv'] σ fun v σ' => v = .bool true ∧ σ' = σ
theorem laws_eqField_law {C : Ctab} {i : FuncId} {c : Contract} (h1 : Has C i c laws_eqFloat32S_ok) : laws_eqField_ok (gcC C (laws_eqField i) true) := by
  intro σ ev xv yv ev' xv' yv' e x y ⟨r1, r2, r3⟩ ⟨r4, r5, r6⟩ hn1 hn2 hn3
  refine ret_gc rfl rfl ?_
  repeat' (first | refine ff ?_ | (apply EvR.aCall h1.at_; (· exact eva); (· apply h1.ok <;> exact sid); (rintro _ _ ⟨rfl, rfl⟩; refine EvR.nrm ?_)) | ((first | refine EvR.aSplB ?_ ?_ | refine Ev.aSplB ?_ ?_) <;> (intro hb; (try rw [hb]); (try simp only [Bool.not_eq_true', Bool.not_eq_false', Bool.not_eq_eq_eq_not, Bool.not_true, Bool.not_false, decide_eq_true_eq, decide_eq_false_iff_not, Bool.and_eq_true, Bool.and_eq_false_iff, Bool.or_eq_true, Bool.or_eq_false_iff] at hb); (try (exfalso; first | omega | exact hb trivial)))) | (apply endS trivial; rotate_left; (· exact eva); (· rfl); try refine ⟨?_, rfl⟩) | fail)
  all_goals (try rfl)


/-- What is left behind rows of these lengths; less than 0: not enough. -/
def szAll : List Nat → Int → Int
  | [], l => l
  | n :: ns, l => if sz1 n l < 0 then -1 else szAll ns (sz1 n l)
def laws_szField_ok (c : Contract) : Prop := ∀ (σ : Heap) (ev xv yv : Value) (e x y : List Nat) (left : Int), FlR σ ev xv yv e x y → e.length ≤ 9223372036854775807 → x.length ≤ 9223372036854775807 → y.length ≤ 9223372036854775807 → 0 ≤ left → left ≤ 1048576 →
    Ret c [fV ev xv yv, .int .i64 left] σ fun v σ' => v = .int .i64 (szAll [e.length, x.length, y.length] left) ∧ σ' = σ
theorem laws_szField_law {C : Ctab} {i : FuncId} {c : Contract} (h1 : Has C i c laws_szFloat32S_ok) : laws_szField_ok (gcC C (laws_szField i) true) := by
  intro σ ev xv yv e x y left ⟨r1, r2, r3⟩ hn1 hn2 hn3 h0 hle
  have b1 : sz1 e.length left ≤ 1048576 := by unfold sz1; split <;> omega
  have b2 : sz1 x.length (sz1 e.length left) ≤ 1048576 := by
    have : sz1 x.length (sz1 e.length left) ≤ sz1 e.length left ∨ sz1 x.length (sz1 e.length left) = -1 := by
      rw [show sz1 x.length (sz1 e.length left) = if sz1 e.length left - (x.length : Int) < 0 then -1 else sz1 e.length left - (x.length : Int) from rfl]; split <;> omega
    omega
  simp only [szAll]
  by_cases c1 : sz1 e.length left < 0
  · rw [if_pos c1]
    refine ret_gc rfl rfl ?_
    repeat' (first | refine ff ?_ | (apply EvR.aCall h1.at_; (· exact eva); (· apply h1.ok <;> exact sid); (rintro _ _ ⟨rfl, rfl⟩; refine EvR.nrm ?_)) | ((first | refine EvR.aSplB ?_ ?_ | refine Ev.aSplB ?_ ?_) <;> (intro hb; (try rw [hb]); (try simp only [Bool.not_eq_true', Bool.not_eq_false', Bool.not_eq_eq_eq_not, Bool.not_true, Bool.not_false, decide_eq_true_eq, decide_eq_false_iff_not, Bool.and_eq_true, Bool.and_eq_false_iff, Bool.or_eq_true, Bool.or_eq_false_iff] at hb); (try (exfalso; first | omega | exact hb trivial)))) | (apply endS trivial; rotate_left; (· exact eva); (· rfl); try refine ⟨?_, rfl⟩) | fail)
    all_goals (try rfl)
  rw [if_neg c1]
  by_cases c2 : sz1 x.length (sz1 e.length left) < 0
  · rw [if_pos c2]
    refine ret_gc rfl rfl ?_
    repeat' (first | refine ff ?_ | (apply EvR.aCall h1.at_; (· exact eva); (· apply h1.ok <;> exact sid); (rintro _ _ ⟨rfl, rfl⟩; refine EvR.nrm ?_)) | ((first | refine EvR.aSplB ?_ ?_ | refine Ev.aSplB ?_ ?_) <;> (intro hb; (try rw [hb]); (try simp only [Bool.not_eq_true', Bool.not_eq_false', Bool.not_eq_eq_eq_not, Bool.not_true, Bool.not_false, decide_eq_true_eq, decide_eq_false_iff_not, Bool.and_eq_true, Bool.and_eq_false_iff, Bool.or_eq_true, Bool.or_eq_false_iff] at hb); (try (exfalso; first | omega | exact hb trivial)))) | (apply endS trivial; rotate_left; (· exact eva); (· rfl); try refine ⟨?_, rfl⟩) | fail)
    all_goals (try rfl)
  rw [if_neg c2]
  by_cases c3 : sz1 y.length (sz1 x.length (sz1 e.length left)) < 0
  · rw [if_pos c3]
    refine ret_gc rfl rfl ?_
    repeat' (first | refine ff ?_ | (apply EvR.aCall h1.at_; (· exact eva); (· apply h1.ok <;> exact sid); (rintro _ _ ⟨rfl, rfl⟩; refine EvR.nrm ?_)) | ((first | refine EvR.aSplB ?_ ?_ | refine Ev.aSplB ?_ ?_) <;> (intro hb; (try rw [hb]); (try simp only [Bool.not_eq_true', Bool.not_eq_false', Bool.not_eq_eq_eq_not, Bool.not_true, Bool.not_false, decide_eq_true_eq, decide_eq_false_iff_not, Bool.and_eq_true, Bool.and_eq_false_iff, Bool.or_eq_true, Bool.or_eq_false_iff] at hb); (try (exfalso; first | omega | exact hb trivial)))) | (apply endS trivial; rotate_left; (· exact eva); (· rfl); try refine ⟨?_, rfl⟩) | fail)
    all_goals (try rfl)
  · rw [if_neg c3]
    refine ret_gc rfl rfl ?_
    repeat' (first | refine ff ?_ | (apply EvR.aCall h1.at_; (· exact eva); (· apply h1.ok <;> exact sid); (rintro _ _ ⟨rfl, rfl⟩; refine EvR.nrm ?_)) | ((first | refine EvR.aSplB ?_ ?_ | refine Ev.aSplB ?_ ?_) <;> (intro hb; (try rw [hb]); (try simp only [Bool.not_eq_true', Bool.not_eq_false', Bool.not_eq_eq_eq_not, Bool.not_true, Bool.not_false, decide_eq_true_eq, decide_eq_false_iff_not, Bool.and_eq_true, Bool.and_eq_false_iff, Bool.or_eq_true, Bool.or_eq_false_iff] at hb); (try (exfalso; first | omega | exact hb trivial)))) | (apply endS trivial; rotate_left; (· exact eva); (· rfl); try refine ⟨?_, rfl⟩) | fail)
    all_goals (try rfl)

end Go.Abs

