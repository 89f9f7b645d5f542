/- Laws of single functions: sheets. Conditions: the laws of what they call. -/
import Derived.Test.YtdlicidmkakooaaExactTravelFieldL01
import Derived.Test.YtdlicidmkakooaaExactTravelFieldWvH3
namespace Go.Abs

set_option linter.unusedSimpArgs false
set_option linter.unusedVariables false
set_option maxHeartbeats 8000000
/- loop.example/g01201/laws.szFloat32S -/
def laws_szFloat32S_r0 : List SOper := [
 ⟨some 4, none, .mov (.const (.int .i64 0)), 0⟩]
def laws_szFloat32S_r1 : List SOper := [
 ⟨some 5, none, .mov (.tmp 1), 0⟩,
 ⟨some 6, none, .mov (.tmp 0), 0⟩,
 ⟨some 7, none, .len false (.tmp 6), 2⟩,
 ⟨some 8, none, .bin .sub .other (.tmp 5) (.tmp 7), 7⟩,
 ⟨some 1, none, .mov (.tmp 8), 15⟩]
def laws_szFloat32S_r2 : List SOper := [
 ⟨some 9, none, .mov (.tmp 1), 0⟩,
 ⟨some 10, none, .bin .lss .other (.tmp 9) (.const (.int .i64 0)), 1⟩]
def laws_szFloat32S_r3 : List SOper := [
 ⟨some 4, none, .mov (.const (.int .i64 (-1))), 0⟩]
def laws_szFloat32S_r4 : List SOper := [
 ⟨some 11, none, .mov (.tmp 1), 0⟩,
 ⟨some 4, none, .mov (.tmp 11), 1⟩]
def laws_szFloat32S : SFunc := ⟨12, [.tmp 4], (.kp [0,1] (.seq (.region laws_szFloat32S_r0 false) (.kp [0,1] (.seq (.region laws_szFloat32S_r1 false) (.kp [1] (.seq (.seq (.region laws_szFloat32S_r2 false) (.kp [1,10] (.cond (.tmp 10) (.seq (.region laws_szFloat32S_r3 false) .ret) .skip))) (.kp [1] (.seq (.region laws_szFloat32S_r4 false) .ret))))))))⟩

/- loop.example/g01201/laws.szSheet -/
def laws_szSheet_r0 : List SOper := [
 ⟨some 2, none, .box (.tmp 0), 0⟩,
 ⟨some 4, none, .mov (.const (.int .i64 0)), 0⟩]
def laws_szSheet_r1 (i_laws_szFloat32S : FuncId) : List SOper := [
 ⟨some 5, none, .fieldAddr 3 (.tmp 2), 0⟩,
 ⟨some 6, none, .load1 (.tmp 5), 1⟩,
 ⟨some 7, none, .mov (.tmp 1), 0⟩,
 ⟨some 8, none, .call (.func i_laws_szFloat32S) [(.tmp 6), (.tmp 7)], 7⟩,
 ⟨some 1, none, .mov (.tmp 8), 15⟩]
def laws_szSheet_r2 : List SOper := [
 ⟨some 9, none, .mov (.tmp 1), 0⟩,
 ⟨some 10, none, .bin .lss .other (.tmp 9) (.const (.int .i64 0)), 1⟩]
def laws_szSheet_r3 : List SOper := [
 ⟨some 4, none, .mov (.const (.int .i64 (-1))), 0⟩]
def laws_szSheet_r4 (i_laws_szFloat32S : FuncId) : List SOper := [
 ⟨some 11, none, .fieldAddr 4 (.tmp 2), 0⟩,
 ⟨some 12, none, .load1 (.tmp 11), 1⟩,
 ⟨some 13, none, .mov (.tmp 1), 0⟩,
 ⟨some 14, none, .call (.func i_laws_szFloat32S) [(.tmp 12), (.tmp 13)], 7⟩,
 ⟨some 1, none, .mov (.tmp 14), 15⟩]
def laws_szSheet_r5 : List SOper := [
 ⟨some 15, none, .mov (.tmp 1), 0⟩,
 ⟨some 16, none, .bin .lss .other (.tmp 15) (.const (.int .i64 0)), 1⟩]
def laws_szSheet_r6 : List SOper := [
 ⟨some 4, none, .mov (.const (.int .i64 (-1))), 0⟩]
def laws_szSheet_r7 : List SOper := [
 ⟨some 17, none, .mov (.tmp 1), 0⟩,
 ⟨some 4, none, .mov (.tmp 17), 1⟩]
def laws_szSheet (i_laws_szFloat32S : FuncId) : SFunc := ⟨18, [.tmp 4], (.kp [0,1] (.seq (.region laws_szSheet_r0 false) (.kp [1,2] (.seq (.region (laws_szSheet_r1 i_laws_szFloat32S) false) (.kp [1,2] (.seq (.seq (.region laws_szSheet_r2 false) (.kp [1,2,10] (.cond (.tmp 10) (.seq (.region laws_szSheet_r3 false) .ret) .skip))) (.kp [1,2] (.seq (.region (laws_szSheet_r4 i_laws_szFloat32S) false) (.kp [1] (.seq (.seq (.region laws_szSheet_r5 false) (.kp [1,16] (.cond (.tmp 16) (.seq (.region laws_szSheet_r6 false) .ret) .skip))) (.kp [1] (.seq (.region laws_szSheet_r7 false) .ret))))))))))))⟩

/- loop.example/g01201/laws.toFloat32S -/
def laws_toFloat32S_r0 : List SOper := [
 ⟨some 2, none, .mov (.const (.slice none 0 0)), 0⟩]
def laws_toFloat32S_r1 : List SOper := [
 ⟨some 5, none, .mov (.tmp 0), 0⟩,
 ⟨some 6, none, .len false (.tmp 5), 1⟩,
 ⟨some 7, none, .makeSlice 1 4 [(.float .f32 0)] (.tmp 6) (.tmp 6), 3⟩,
 ⟨some 3, none, .mov (.tmp 7), 7⟩]
def laws_toFloat32S_r2 : List SOper := [
 ⟨some 4, none, .mov (.const (.int .i64 0)), 0⟩]
def laws_toFloat32S_r3 : List SOper := [
 ⟨some 8, none, .mov (.tmp 4), 0⟩,
 ⟨some 9, none, .mov (.tmp 0), 0⟩,
 ⟨some 10, none, .len false (.tmp 9), 2⟩,
 ⟨some 11, none, .bin .lss .other (.tmp 8) (.tmp 10), 7⟩]
def laws_toFloat32S_r4 : List SOper := [
 ⟨some 14, none, .mov (.tmp 3), 0⟩,
 ⟨some 15, none, .mov (.tmp 4), 0⟩,
 ⟨some 16, none, .mov (.tmp 0), 0⟩,
 ⟨some 17, none, .mov (.tmp 4), 0⟩,
 ⟨some 18, none, .indexAddrS 1 (.tmp 16) (.tmp 17), 12⟩,
 ⟨some 19, none, .load1 (.tmp 18), 28⟩,
 ⟨some 20, none, .indexAddrS 1 (.tmp 14) (.tmp 15), 63⟩,
 ⟨none, none, .store 1 (.tmp 20) (.tmp 19), 127⟩]
def laws_toFloat32S_r5 : List SOper := [
 ⟨some 12, none, .mov (.tmp 4), 0⟩,
 ⟨some 13, none, .bin .add .other (.tmp 12) (.const (.int .i64 1)), 1⟩,
 ⟨some 4, none, .mov (.tmp 13), 3⟩]
def laws_toFloat32S_l6 : SCode := (.kp [0,3,4] (.seq (.seq (.region laws_toFloat32S_r3 false) (.kp [0,3,4,11] (.cond (.tmp 11) .skip (.exit 0)))) (.kp [0,3,4] (.seq (.block 1 (.region laws_toFloat32S_r4 false)) (.kp [0,3,4] (.region laws_toFloat32S_r5 false))))))
def laws_toFloat32S_r7 : List SOper := [
 ⟨some 21, none, .mov (.tmp 3), 0⟩,
 ⟨some 2, none, .mov (.tmp 21), 1⟩]
def laws_toFloat32S : SFunc := ⟨22, [.tmp 2], (.kp [0] (.seq (.region laws_toFloat32S_r0 false) (.kp [0] (.seq (.region laws_toFloat32S_r1 false) (.kp [0,3] (.seq (.seq (.region laws_toFloat32S_r2 false) (.kp [0,3,4] (.block 0 (.loop laws_toFloat32S_l6)))) (.kp [3] (.seq (.region laws_toFloat32S_r7 false) .ret))))))))⟩

/- loop.example/g01201/laws.toSheet -/
def laws_toSheet_r0 : List SOper := [
 ⟨some 1, none, .box (.tmp 0), 0⟩,
 ⟨some 2, none, .alloc [(.int .i64 0), (.int .i64 0), (.bool false), (.slice none 0 0), (.slice none 0 0)], 0⟩]
def laws_toSheet_r1 : List SOper := [
 ⟨some 3, none, .alloc [(.int .i64 0), (.int .i64 0), (.bool false), (.slice none 0 0), (.slice none 0 0)], 0⟩]
def laws_toSheet_r2 : List SOper := [
 ⟨some 4, none, .fieldAddr 0 (.tmp 1), 0⟩,
 ⟨some 5, none, .load1 (.tmp 4), 1⟩,
 ⟨some 6, none, .fieldAddr 0 (.tmp 3), 3⟩,
 ⟨none, none, .store 1 (.tmp 6) (.tmp 5), 7⟩]
def laws_toSheet_r3 : List SOper := [
 ⟨some 7, none, .fieldAddr 1 (.tmp 1), 0⟩,
 ⟨some 8, none, .load1 (.tmp 7), 1⟩,
 ⟨some 9, none, .fieldAddr 1 (.tmp 3), 3⟩,
 ⟨none, none, .store 1 (.tmp 9) (.tmp 8), 7⟩]
def laws_toSheet_r4 : List SOper := [
 ⟨some 10, none, .fieldAddr 2 (.tmp 1), 0⟩,
 ⟨some 11, none, .load1 (.tmp 10), 1⟩,
 ⟨some 12, none, .fieldAddr 2 (.tmp 3), 3⟩,
 ⟨none, none, .store 1 (.tmp 12) (.tmp 11), 7⟩]
def laws_toSheet_r5 (i_laws_toFloat32S : FuncId) : List SOper := [
 ⟨some 13, none, .fieldAddr 3 (.tmp 1), 0⟩,
 ⟨some 14, none, .load1 (.tmp 13), 1⟩,
 ⟨some 15, none, .call (.func i_laws_toFloat32S) [(.tmp 14)], 3⟩,
 ⟨some 16, none, .fieldAddr 3 (.tmp 3), 7⟩,
 ⟨none, none, .store 1 (.tmp 16) (.tmp 15), 15⟩]
def laws_toSheet_r6 (i_laws_toFloat32S : FuncId) : List SOper := [
 ⟨some 17, none, .fieldAddr 4 (.tmp 1), 0⟩,
 ⟨some 18, none, .load1 (.tmp 17), 1⟩,
 ⟨some 19, none, .call (.func i_laws_toFloat32S) [(.tmp 18)], 3⟩,
 ⟨some 20, none, .fieldAddr 4 (.tmp 3), 7⟩,
 ⟨none, none, .store 1 (.tmp 20) (.tmp 19), 15⟩]
def laws_toSheet_r7 : List SOper := [
 ⟨some 21, none, .loadN 5 (.tmp 3), 0⟩,
 ⟨none, none, .store 5 (.tmp 2) (.tmp 21), 1⟩]
def laws_toSheet (i_laws_toFloat32S : FuncId) : SFunc := ⟨22, [.cellN 2 5], (.kp [0] (.seq (.region laws_toSheet_r0 false) (.kp [1,2] (.seq (.region laws_toSheet_r1 false) (.kp [1,2,3] (.seq (.region laws_toSheet_r2 false) (.kp [1,2,3] (.seq (.region laws_toSheet_r3 false) (.kp [1,2,3] (.seq (.region laws_toSheet_r4 false) (.kp [1,2,3] (.seq (.region (laws_toSheet_r5 i_laws_toFloat32S) false) (.kp [1,2,3] (.seq (.region (laws_toSheet_r6 i_laws_toFloat32S) false) (.kp [2,3] (.seq (.region laws_toSheet_r7 false) .ret))))))))))))))))⟩

/- loop.example/g01201/spec.l00In -/
def spec_l00In_r0 : List SOper := [
 ⟨some 6, none, .mov (.const (.bool false)), 0⟩]
def spec_l00In_r1 : List SOper := [
 ⟨some 7, none, .mov (.tmp 0), 0⟩,
 ⟨some 8, none, .mov (.tmp 1), 0⟩,
 ⟨some 9, none, .bin .geq .other (.tmp 7) (.tmp 8), 3⟩,
 ⟨some 10, none, .mov (.tmp 9), 7⟩,
  ⟨(some 11), (some (10, true)), .mov (.tmp 0), 15⟩,
  ⟨(some 12), (some (10, true)), .mov (.tmp 2), 15⟩,
  ⟨(some 13), (some (10, true)), .bin .leq .other (.tmp 11) (.tmp 12), 63⟩,
 ⟨some 14, none, .pick (.tmp 10) (.tmp 13) (.const (.bool false)), 127⟩,
 ⟨some 6, none, .mov (.tmp 14), 255⟩]
def spec_l00In : SFunc := ⟨15, [.tmp 6], (.kp [0,1,2] (.seq (.region spec_l00In_r0 false) (.kp [0,1,2] (.seq (.region spec_l00In_r1 false) .ret))))⟩

/- loop.example/g01201/spec.l02Sides -/
def spec_l02Sides_r0 : List SOper := [
 ⟨some 4, none, .mov (.const (.bool false)), 0⟩]
def spec_l02Sides_r1 (i_spec_l00In : FuncId) : List SOper := [
 ⟨some 5, none, .mov (.tmp 0), 0⟩,
 ⟨some 6, none, .call (.func i_spec_l00In) [(.tmp 5), (.const (.int .i64 3)), (.const (.int .i64 16))], 1⟩,
 ⟨some 7, none, .mov (.tmp 6), 3⟩,
  ⟨(some 8), (some (7, true)), .mov (.tmp 1), 7⟩,
  ⟨(some 9), (some (7, true)), .call (.func i_spec_l00In) [(.tmp 8), (.const (.int .i64 3)), (.const (.int .i64 16))], 15⟩,
 ⟨some 10, none, .pick (.tmp 7) (.tmp 9) (.const (.bool false)), 31⟩,
 ⟨some 11, none, .mov (.tmp 10), 63⟩,
  ⟨(some 12), (some (11, true)), .mov (.tmp 0), 127⟩,
  ⟨(some 13), (some (11, true)), .mov (.tmp 1), 127⟩,
  ⟨(some 14), (some (11, true)), .bin .mul .other (.tmp 12) (.tmp 13), 511⟩,
  ⟨(some 15), (some (11, true)), .bin .leq .other (.tmp 14) (.const (.int .i64 256)), 1023⟩,
 ⟨some 16, none, .pick (.tmp 11) (.tmp 15) (.const (.bool false)), 2047⟩,
 ⟨some 4, none, .mov (.tmp 16), 4095⟩]
def spec_l02Sides (i_spec_l00In : FuncId) : SFunc := ⟨17, [.tmp 4], (.kp [0,1] (.seq (.region spec_l02Sides_r0 false) (.kp [0,1] (.seq (.region (spec_l02Sides_r1 i_spec_l00In) false) .ret))))⟩

/- loop.example/g01201/impl.within -/
def impl_within_r0 : List SOper := [
 ⟨some 6, none, .mov (.const (.bool false)), 0⟩]
def impl_within_r1 : List SOper := [
 ⟨some 7, none, .mov (.tmp 0), 0⟩,
 ⟨some 8, none, .mov (.tmp 1), 0⟩,
 ⟨some 9, none, .bin .geq .other (.tmp 7) (.tmp 8), 3⟩,
 ⟨some 10, none, .mov (.tmp 9), 7⟩,
  ⟨(some 11), (some (10, true)), .mov (.tmp 0), 15⟩,
  ⟨(some 12), (some (10, true)), .mov (.tmp 2), 15⟩,
  ⟨(some 13), (some (10, true)), .bin .leq .other (.tmp 11) (.tmp 12), 63⟩,
 ⟨some 14, none, .pick (.tmp 10) (.tmp 13) (.const (.bool false)), 127⟩,
 ⟨some 6, none, .mov (.tmp 14), 255⟩]
def impl_within : SFunc := ⟨15, [.tmp 6], (.kp [0,1,2] (.seq (.region impl_within_r0 false) (.kp [0,1,2] (.seq (.region impl_within_r1 false) .ret))))⟩

/- loop.example/g01201/impl.areBetween -/
def impl_areBetween_r0 : List SOper := [
 ⟨some 4, none, .mov (.const (.bool false)), 0⟩]
def impl_areBetween_r1 : List SOper := [
 ⟨some 7, none, .mov (.tmp 0), 0⟩,
 ⟨some 8, none, .len false (.tmp 7), 1⟩,
 ⟨some 9, none, .mov (.const (.int .i64 0)), 0⟩]
def impl_areBetween_r2 : List SOper := [
 ⟨some 10, none, .bin .lss .other (.tmp 9) (.tmp 8), 0⟩]
def impl_areBetween_r3 : List SOper := [
 ⟨some 11, none, .indexAddrS 1 (.tmp 7) (.tmp 9), 0⟩,
 ⟨some 12, none, .load1 (.tmp 11), 1⟩,
 ⟨some 6, none, .mov (.tmp 12), 3⟩]
def impl_areBetween_r4 : List SOper := [
 ⟨some 13, none, .mov (.tmp 6), 0⟩,
 ⟨some 14, none, .bin .geq .other (.tmp 13) (.const (.float .f32 0)), 1⟩,
 ⟨some 15, none, .mov (.tmp 14), 3⟩,
  ⟨(some 16), (some (15, true)), .mov (.tmp 6), 7⟩,
  ⟨(some 17), (some (15, true)), .mov (.tmp 1), 7⟩,
  ⟨(some 18), (some (15, true)), .bin .leq .other (.tmp 16) (.tmp 17), 31⟩,
 ⟨some 19, none, .pick (.tmp 15) (.tmp 18) (.const (.bool false)), 63⟩,
 ⟨some 20, none, .un .not (.tmp 19), 127⟩]
def impl_areBetween_r5 : List SOper := [
 ⟨some 4, none, .mov (.const (.bool false)), 0⟩]
def impl_areBetween_r6 : List SOper := [
 ⟨some 21, none, .bin .add .other (.tmp 9) (.const (.int .i64 1)), 0⟩,
 ⟨some 9, none, .mov (.tmp 21), 1⟩]
def impl_areBetween_l7 : SCode := (.kp [1,7,8,9] (.seq (.region impl_areBetween_r2 false) (.kp [1,7,8,9,10] (.seq (.cond (.tmp 10) .skip (.exit 0)) (.kp [1,7,8,9] (.seq (.block 1 (.seq (.region impl_areBetween_r3 false) (.kp [1,6,7,8,9] (.seq (.region impl_areBetween_r4 false) (.kp [1,7,8,9,20] (.cond (.tmp 20) (.seq (.region impl_areBetween_r5 false) .ret) .skip)))))) (.kp [1,7,8,9] (.region impl_areBetween_r6 false))))))))
def impl_areBetween_r8 : List SOper := [
 ⟨some 4, none, .mov (.const (.bool true)), 0⟩]
def impl_areBetween : SFunc := ⟨22, [.tmp 4], (.kp [0,1] (.seq (.region impl_areBetween_r0 false) (.kp [0,1] (.seq (.seq (.region impl_areBetween_r1 false) (.kp [1,7,8,9] (.block 0 (.loop impl_areBetween_l7)))) (.kp [] (.seq (.region impl_areBetween_r8 false) .ret))))))⟩


def inR (n lo hi : Int) : Bool := decide (lo ≤ n) && decide (n ≤ hi)
def inR_ok (c : Contract) : Prop := ∀ (σ : Heap) (n lo hi : Int), Ret c [.int .i64 n, .int .i64 lo, .int .i64 hi] σ fun v σ' => v = .bool (inR n lo hi) ∧ σ' = σ
abbrev spec_l00In_ok := inR_ok
abbrev impl_within_ok := inR_ok
theorem spec_l00In_law {C : Ctab} : spec_l00In_ok (gcC C spec_l00In true) := by
  intro σ n lo hi
  unfold inR
  cases h : decide (lo ≤ n)
  all_goals
    refine ret_gc rfl rfl ?_
    repeat' (first | refine ff ?_ | ((first | refine sR ?_ ?_ | refine sC ?_ ?_) <;> (intro hb; (try rw [hb]); (try simp only [bb] at hb); (try (exfalso; first | omega | exact hb trivial)))) | (apply endS trivial; rotate_left; (· exact eva); (· rfl); try refine ⟨?_, rfl⟩) | fail)
    all_goals (try simp_all)

theorem impl_within_law {C : Ctab} : impl_within_ok (gcC C impl_within true) := by
  intro σ n lo hi
  unfold inR
  cases h : decide (lo ≤ n)
  all_goals
    refine ret_gc rfl rfl ?_
    repeat' (first | refine ff ?_ | ((first | refine sR ?_ ?_ | refine sC ?_ ?_) <;> (intro hb; (try rw [hb]); (try simp only [bb] at hb); (try (exfalso; first | omega | exact hb trivial)))) | (apply endS trivial; rotate_left; (· exact eva); (· rfl); try refine ⟨?_, rfl⟩) | fail)
    all_goals (try simp_all)


def sz1 (n : Nat) (left : Int) : Int := if left - n < 0 then -1 else left - n
def laws_szFloat32S_ok (c : Contract) : Prop := ∀ (σ : Heap) (v : Value) (xs : List Nat) (left : Int), Row σ 1 v xs.length (f32s xs) → xs.length ≤ 9223372036854775807 → 0 ≤ left → left ≤ 1048576 →
    Ret c [v, .int .i64 left] σ fun v' σ' => v' = .int .i64 (sz1 xs.length left) ∧ σ' = σ
theorem laws_szFloat32S_law {C : Ctab} : laws_szFloat32S_ok (gcC C laws_szFloat32S true) := by
  intro σ v xs left hr hn h0 h1
  unfold sz1
  by_cases h : left - (xs.length : Int) < 0
  · rw [if_pos h]
    refine ret_gc rfl rfl ?_
    repeat' (first | refine ff ?_ | ((first | refine sR ?_ ?_ | refine sC ?_ ?_) <;> (intro hb; (try rw [hb]); (try simp only [bb] at hb); (try (exfalso; first | omega | exact hb trivial)))) | (apply endS trivial; rotate_left; (· exact eva); (· rfl); try refine ⟨?_, rfl⟩) | fail)
    all_goals (try rfl)
  · rw [if_neg h]
    refine ret_gc rfl rfl ?_
    repeat' (first | refine ff ?_ | ((first | refine sR ?_ ?_ | refine sC ?_ ?_) <;> (intro hb; (try rw [hb]); (try simp only [bb] at hb); (try (exfalso; first | omega | exact hb trivial)))) | (apply endS trivial; rotate_left; (· exact eva); (· rfl); try refine ⟨?_, rfl⟩) | fail)
    all_goals (try rfl)


/-- The value of a sheet. -/
abbrev shV (w h : Int) (wr : Bool) (sv lv : Value) : Value := .agg #[.int .i64 w, .int .i64 h, .bool wr, sv, lv]
/-- The rows of a sheet. -/
structure ShR (σ : Heap) (sv lv : Value) (sp lo : List Nat) : Prop where
  s : Row σ 1 sv sp.length (f32s sp)
  l : Row σ 1 lv lo.length (f32s lo)

def szSheet (sp lo : List Nat) (left : Int) : Int := if sz1 sp.length left < 0 then -1 else (if sz1 lo.length (sz1 sp.length left) < 0 then -1 else sz1 lo.length (sz1 sp.length left))
def laws_szSheet_ok (c : Contract) : Prop := ∀ (σ : Heap) (w h : Int) (wr : Bool) (sv lv : Value) (sp lo : List Nat) (left : Int), ShR σ sv lv sp lo → sp.length ≤ 9223372036854775807 → lo.length ≤ 9223372036854775807 → 0 ≤ left → left ≤ 1048576 →
    Ret c [shV w h wr sv lv, .int .i64 left] σ fun v' σ' => v' = .int .i64 (szSheet sp lo left) ∧ σ' = σ
theorem laws_szSheet_law {C : Ctab} {i : FuncId} {c : Contract} (h1 : Has C i c laws_szFloat32S_ok) : laws_szSheet_ok (gcC C (laws_szSheet i) true) := by
  intro σ w h wr sv lv sp lo left ⟨r1, r2⟩ hn1 hn2 h0 hle
  have hb : sz1 sp.length left ≤ 1048576 := by unfold sz1; split <;> omega
  unfold szSheet
  by_cases ha : sz1 sp.length left < 0
  · rw [if_pos ha]
    refine ret_gc rfl rfl ?_
    repeat' (first | refine ff ?_ | (apply EvR.aCall h1.at_; (· exact eva); (· apply h1.ok <;> exact sid); (rintro _ _ ⟨rfl, rfl⟩; refine EvR.nrm ?_)) | ((first | refine sR ?_ ?_ | refine sC ?_ ?_) <;> (intro hb; (try rw [hb]); (try simp only [bb] at hb); (try (exfalso; first | omega | exact hb trivial)))) | (apply endS trivial; rotate_left; (· exact eva); (· rfl); try refine ⟨?_, rfl⟩) | fail)
    all_goals (try rfl)
  · rw [if_neg ha]
    by_cases hb2 : sz1 lo.length (sz1 sp.length left) < 0
    · rw [if_pos hb2]
      refine ret_gc rfl rfl ?_
      repeat' (first | refine ff ?_ | (apply EvR.aCall h1.at_; (· exact eva); (· apply h1.ok <;> exact sid); (rintro _ _ ⟨rfl, rfl⟩; refine EvR.nrm ?_)) | ((first | refine sR ?_ ?_ | refine sC ?_ ?_) <;> (intro hb; (try rw [hb]); (try simp only [bb] at hb); (try (exfalso; first | omega | exact hb trivial)))) | (apply endS trivial; rotate_left; (· exact eva); (· rfl); try refine ⟨?_, rfl⟩) | fail)
      all_goals (try rfl)
    · rw [if_neg hb2]
      refine ret_gc rfl rfl ?_
      repeat' (first | refine ff ?_ | (apply EvR.aCall h1.at_; (· exact eva); (· apply h1.ok <;> exact sid); (rintro _ _ ⟨rfl, rfl⟩; refine EvR.nrm ?_)) | ((first | refine sR ?_ ?_ | refine sC ?_ ?_) <;> (intro hb; (try rw [hb]); (try simp only [bb] at hb); (try (exfalso; first | omega | exact hb trivial)))) | (apply endS trivial; rotate_left; (· exact eva); (· rfl); try refine ⟨?_, rfl⟩) | fail)
      all_goals (try rfl)


/-- A row that is an object's whole. -/
abbrev slV (b n : Nat) : Value := .slice (some ⟨b, 0, none⟩) n n
abbrev rowO (xs : List Nat) : AObj := ⟨f32s xs, 1, true⟩

def laws_toFloat32S_ok (c : Contract) : Prop := ∀ (σ : Heap) (v : Value) (xs : List Nat), Row σ 1 v xs.length (f32s xs) → xs.length ≤ 1048576 →
    Ret c [v] σ fun v' σ' => v' = slV σ.length xs.length ∧ σ' = σ ++ [rowO xs]
theorem laws_toFloat32S_law {C : Ctab} : laws_toFloat32S_ok (gcC C laws_toFloat32S true) := by
  intro σ v xs hr hn
  refine ret_gc rfl rfl ?_
  repeat' (first | refine ff ?_ | ((first | refine sR ?_ ?_ | refine sC ?_ ?_) <;> (intro hb; (try rw [hb]); (try simp only [bb] at hb); (try (exfalso; first | omega | exact hb trivial)))) | (apply endS trivial; rotate_left; (· exact eva); (· rfl); try refine ⟨?_, rfl⟩) | fail)
  refine Ev.whlH (S := Nat) (fun i => xs.length - i) (fun i => [(4, .int .i64 i)]) (fun i => σ ++ [rowO (xs.take i ++ List.replicate (xs.length - i) 0)]) (fun i => i ≤ xs.length) 0 (by exact tF) (by simp [f32s_replicate]) (Nat.zero_le _) ?_
  rintro i F hF hi
  (simp only [List.cons_append, List.nil_append, ↓fget_cons, fkeep_cons, fkeep_nil, Nat.reduceEqDiff, reduceIte] at hF; subst hF)
  by_cases hlt : i < xs.length
  · repeat' (first | refine ff ?_ | ((first | refine sR ?_ ?_ | refine sC ?_ ?_) <;> (intro hb; (try rw [hb]); (try simp only [bb] at hb); (try (exfalso; first | omega | exact hb trivial)))) | (apply endS trivial; rotate_left; (· exact eva); (· rfl); try refine ⟨?_, rfl⟩) | fail)
    exact ⟨i + 1, by omega, by exact tF, by rw [fill_step xs 0 i hlt], by omega⟩
  · obtain rfl : i = xs.length := by omega
    rw [List.take_length, Nat.sub_self, List.replicate_zero, List.append_nil]
    repeat' (first | refine ff ?_ | ((first | refine sR ?_ ?_ | refine sC ?_ ?_) <;> (intro hb; (try rw [hb]); (try simp only [bb] at hb); (try (exfalso; first | omega | exact hb trivial)))) | (apply endS trivial; rotate_left; (· exact eva); (· rfl); try refine ⟨?_, rfl⟩) | fail)
    (apply endR [0] trivial ⟨rfl, rfl⟩; (· exact eva); (· simp [gcTop, gcVal, gcLeaf, gcLeaves, gcVals, constOk, gc_lt, gc_lt0]); (· rfl); (· decide); (· simp [allConst, f32s, i64s, b8s, bools, constOk]))


def laws_toSheet_ok (c : Contract) : Prop := ∀ (σ : Heap) (w h : Int) (wr : Bool) (sv lv : Value) (sp lo : List Nat), ShR σ sv lv sp lo → sp.length ≤ 1048576 → lo.length ≤ 1048576 →
    Ret c [shV w h wr sv lv] σ fun v' σ' => v' = shV w h wr (slV σ.length sp.length) (slV (σ.length + 1) lo.length) ∧ σ' = σ ++ [rowO sp, rowO lo]
theorem laws_toSheet_law {C : Ctab} {i : FuncId} {c : Contract} (h1 : Has C i c laws_toFloat32S_ok) : laws_toSheet_ok (gcC C (laws_toSheet i) true) := by
  intro σ w h wr sv lv sp lo ⟨r1, r2⟩ hn1 hn2
  refine ret_gc rfl rfl ?_
  repeat' (first | refine ff ?_ | (apply EvR.aCall h1.at_; (· exact eva); (· apply h1.ok <;> exact sid); (rintro _ _ ⟨rfl, rfl⟩; refine EvR.nrm ?_)) | ((first | refine sR ?_ ?_ | refine sC ?_ ?_) <;> (intro hb; (try rw [hb]); (try simp only [bb] at hb); (try (exfalso; first | omega | exact hb trivial)))) | (apply endS trivial; rotate_left; (· exact eva); (· rfl); try refine ⟨?_, rfl⟩) | fail)
  (apply endR [3, 4] trivial ⟨rfl, rfl⟩; (· exact eva); (· simp [gcTop, gcVal, gcLeaf, gcLeaves, gcVals, constOk, gc_lt, gc_lt0]); (· rfl); (· decide); (· simp [allConst, f32s, i64s, b8s, bools, constOk]))


def sides (w h : Int) : Bool := inR w 3 16 && inR h 3 16
theorem inR_true {n lo hi : Int} (h : inR n lo hi = true) : lo ≤ n ∧ n ≤ hi := by simpa [inR] using h
theorem sides_mul {w h : Int} (hw : inR w 3 16 = true) (hh : inR h 3 16 = true) : 9 ≤ w * h ∧ w * h ≤ 256 := by
  obtain ⟨a1, a2⟩ := inR_true hw
  obtain ⟨b1, b2⟩ := inR_true hh
  have h1 : w * h ≤ 16 * 16 := Int.mul_le_mul a2 b2 (by omega) (by omega)
  have h2 : 3 * 3 ≤ w * h := Int.mul_le_mul a1 b1 (by omega) (by omega)
  omega

def spec_l02Sides_ok (c : Contract) : Prop := ∀ (σ : Heap) (w h : Int), Ret c [.int .i64 w, .int .i64 h] σ fun v σ' => v = .bool (sides w h) ∧ σ' = σ
theorem spec_l02Sides_law {C : Ctab} {i : FuncId} {c : Contract} (h1 : Has C i c spec_l00In_ok) : spec_l02Sides_ok (gcC C (spec_l02Sides i) true) := by
  intro σ w h
  unfold sides
  cases hw : inR w 3 16
  · refine ret_gc rfl rfl ?_
    repeat' (first | refine ff ?_ | (apply EvR.aCall h1.at_; (· exact eva); (· apply h1.ok <;> exact sid); (rintro _ _ ⟨rfl, rfl⟩; refine EvR.nrm ?_; try simp only [hw])) | ((first | refine sR ?_ ?_ | refine sC ?_ ?_) <;> (intro hb; (try rw [hb]); (try simp only [bb] at hb); (try (exfalso; first | omega | exact hb trivial)))) | (apply endS trivial; rotate_left; (· exact eva); (· rfl); try refine ⟨?_, rfl⟩) | fail)
    all_goals (try rfl)
  · cases hh : inR h 3 16
    · refine ret_gc rfl rfl ?_
      repeat' (first | refine ff ?_ | (apply EvR.aCall h1.at_; (· exact eva); (· apply h1.ok <;> exact sid); (rintro _ _ ⟨rfl, rfl⟩; refine EvR.nrm ?_; try simp only [hw, hh])) | ((first | refine sR ?_ ?_ | refine sC ?_ ?_) <;> (intro hb; (try rw [hb]); (try simp only [bb] at hb); (try (exfalso; first | omega | exact hb trivial)))) | (apply endS trivial; rotate_left; (· exact eva); (· rfl); try refine ⟨?_, rfl⟩) | fail)
      all_goals (try rfl)
    · obtain ⟨m1, m2⟩ := sides_mul hw hh
      refine ret_gc rfl rfl ?_
      repeat' (first | refine ff ?_ | (apply EvR.aCall h1.at_; (· exact eva); (· apply h1.ok <;> exact sid); (rintro _ _ ⟨rfl, rfl⟩; refine EvR.nrm ?_; try simp only [hw, hh])) | ((first | refine sR ?_ ?_ | refine sC ?_ ?_) <;> (intro hb; (try rw [hb]); (try simp only [bb] at hb); (try (exfalso; first | omega | exact hb trivial)))) | (apply endS trivial; rotate_left; (· exact eva); (· rfl); try refine ⟨?_, rfl⟩) | fail)
      all_goals (rw [decide_eq_true m2]; rfl)


/-- Whether a sheet is one. -/
def isSheet (w h : Int) (sp lo : List Nat) : Bool :=
  sides w h && decide ((sp.length : Int) = w * h) && decide ((lo.length : Int) = w * h) && sp.all (fun x => share x 0x3f000000) && lo.all (fun x => share x 0x3f800000)

def impl_areBetween_ok (c : Contract) : Prop := ∀ (σ : Heap) (v : Value) (xs : List Nat) (m : Nat), Row σ 1 v xs.length (f32s xs) → xs.length ≤ 1048576 → Ret c [v, .float .f32 m] σ fun v σ' => v = .bool (xs.all fun x => share x m) ∧ σ' = σ
theorem all_getD {p : Nat → Bool} : ∀ {xs : List Nat}, (∀ i, i < xs.length → p (xs.getD i 0) = true) → xs.all p = true
  | [], _ => rfl
  | x :: xs, h => by
    rw [List.all_cons, Bool.and_eq_true]
    exact ⟨h 0 (by simp), all_getD fun i hi => h (i + 1) (by simp; omega)⟩
theorem all_getD_false {p : Nat → Bool} {xs : List Nat} {i : Nat} (hi : i < xs.length) (h : p (xs.getD i 0) = false) : xs.all p = false := by
  cases ha : xs.all p with
  | false => rfl
  | true =>
    have := List.all_eq_true.1 ha (xs.getD i 0) (by rw [List.getD_eq_getElem?_getD, List.getElem?_eq_getElem hi]; simp)
    rw [h] at this; cases this
theorem impl_areBetween_law {C : Ctab} : impl_areBetween_ok (gcC C impl_areBetween true) := by
  intro σ v xs m hr hn
  have k1 := hr.ok
  refine ret_gc rfl rfl ?_
  repeat' (first | refine ff ?_ | ((first | refine sR ?_ ?_ | refine sC ?_ ?_) <;> (intro hb; (try rw [hb]); (try simp only [bb] at hb); (try (exfalso; first | omega | exact hb trivial)))) | (apply endS trivial; rotate_left; (· exact eva); (· rfl); try refine ⟨?_, rfl⟩) | fail)
  refine Ev.whlC (S := Nat) (fun i => xs.length - i) (fun i => [(9, .int .i64 i)]) (fun i => i ≤ xs.length ∧ ∀ j, j < i → share (xs.getD j 0) m = true) 0 (by exact tF) ⟨Nat.zero_le _, fun j hj => by omega⟩ ?_
  rintro i F hF ⟨hi, hp⟩
  (simp only [List.cons_append, List.nil_append, ↓fget_cons, fkeep_cons, fkeep_nil, Nat.reduceEqDiff, reduceIte] at hF; subst hF)
  by_cases hlt : i < xs.length
  · cases ha : share (xs.getD i 0) m
    · rw [all_getD_false hlt ha]
      unfold share at ha
      repeat' (first | refine ff ?_ | ((first | refine sR ?_ ?_ | refine sC ?_ ?_) <;> (intro hb; (try rw [hb]); (try simp only [bb] at hb); (try (exfalso; first | omega | exact hb trivial)))) | (apply endS trivial; rotate_left; (· exact eva); (· rfl); try refine ⟨?_, rfl⟩) | fail)
      all_goals (try simp_all)
    · have ha2 := ha
      unfold share at ha
      repeat' (first | refine ff ?_ | ((first | refine sR ?_ ?_ | refine sC ?_ ?_) <;> (intro hb; (try rw [hb]); (try simp only [bb] at hb); (try (exfalso; first | omega | exact hb trivial)))) | (apply endS trivial; rotate_left; (· exact eva); (· rfl); try refine ⟨?_, rfl⟩) | fail)
      all_goals first
        | (exfalso; simp_all; done)
        | (refine ⟨i + 1, by omega, by exact tF, rfl, by omega, fun j hj => ?_⟩
           rcases Nat.lt_or_ge j i with hji | hji
           · exact hp j hji
           · obtain rfl : j = i := by omega
             exact ha2)
  · obtain rfl : i = xs.length := by omega
    rw [all_getD hp]
    repeat' (first | refine ff ?_ | ((first | refine sR ?_ ?_ | refine sC ?_ ?_) <;> (intro hb; (try rw [hb]); (try simp only [bb] at hb); (try (exfalso; first | omega | exact hb trivial)))) | (apply endS trivial; rotate_left; (· exact eva); (· rfl); try refine ⟨?_, rfl⟩) | fail)
    all_goals (try rfl)


end Go.Abs

