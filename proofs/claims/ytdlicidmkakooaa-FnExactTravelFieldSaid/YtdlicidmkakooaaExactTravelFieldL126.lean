/- Laws of functions: the sine of turns in float32, by the program and by the reference. Conditions: the laws of what they call. -/
import Derived.Test.YtdlicidmkakooaaExactTravelFieldL124
import Derived.Test.YtdlicidmkakooaaExactTravelFieldL125
import Derived.Test.YtdlicidmkakooaaExactTravelFieldL115
import Derived.Test.YtdlicidmkakooaaExactTravelFieldL34
namespace Go.Abs

set_option linter.unusedSimpArgs false
set_option linter.unusedVariables false
set_option maxHeartbeats 8000000
set_option maxRecDepth 20000
/- math.Abs -/
def math_Abs_r0 : List SOper := [
 ⟨some 2, none, .mov (.const (.float .f64 0)), 0⟩]
def math_Abs_r1 (i_math_Float64bits i_math_Float64frombits : FuncId) : List SOper := [
 ⟨some 3, none, .mov (.tmp 0), 0⟩,
 ⟨some 4, none, .call (.func i_math_Float64bits) [(.tmp 3)], 1⟩,
 ⟨some 5, none, .bin .andNot .other (.tmp 4) (.const (.int .u64 9223372036854775808)), 3⟩,
 ⟨some 6, none, .call (.func i_math_Float64frombits) [(.tmp 5)], 7⟩,
 ⟨some 2, none, .mov (.tmp 6), 15⟩]
def math_Abs (i_math_Float64bits i_math_Float64frombits : FuncId) : SFunc := ⟨7, [.tmp 2], (.kp [0] (.seq (.region math_Abs_r0 false) (.kp [0] (.seq (.region (math_Abs_r1 i_math_Float64bits i_math_Float64frombits) false) .ret))))⟩

/- loop.example/g01201/impl.IsFinite -/
def impl_IsFinite_r0 : List SOper := [
 ⟨some 2, none, .mov (.const (.bool false)), 0⟩]
def impl_IsFinite_r1 : List SOper := [
 ⟨some 3, none, .mov (.tmp 0), 0⟩,
 ⟨some 4, none, .mov (.tmp 0), 0⟩,
 ⟨some 5, none, .bin .sub .other (.tmp 3) (.tmp 4), 3⟩,
 ⟨some 6, none, .bin .eql .other (.tmp 5) (.const (.float .f32 0)), 7⟩,
 ⟨some 2, none, .mov (.tmp 6), 15⟩]
def impl_IsFinite : SFunc := ⟨7, [.tmp 2], (.kp [0] (.seq (.region impl_IsFinite_r0 false) (.kp [0] (.seq (.region impl_IsFinite_r1 false) .ret))))⟩

/- loop.example/g01201/impl.SineTurns -/
def impl_SineTurns_r0 : List SOper := [
 ⟨some 2, none, .mov (.const (.float .f32 0)), 0⟩]
def impl_SineTurns_r1 (i_impl_IsFinite : FuncId) : List SOper := [
 ⟨some 3, none, .mov (.tmp 0), 0⟩,
 ⟨some 4, none, .call (.func i_impl_IsFinite) [(.tmp 3)], 1⟩,
 ⟨some 5, none, .un .not (.tmp 4), 3⟩]
def impl_SineTurns_r2 (i_math_NaN : FuncId) : List SOper := [
 ⟨some 6, none, .call (.func i_math_NaN) [], 0⟩,
 ⟨some 7, none, .conv (.toFloat .f32) (.tmp 6), 1⟩,
 ⟨some 2, none, .mov (.tmp 7), 3⟩]
def impl_SineTurns_r3 (i_math_Abs : FuncId) : List SOper := [
 ⟨some 8, none, .mov (.tmp 0), 0⟩,
 ⟨some 9, none, .conv (.toFloat .f64) (.tmp 8), 1⟩,
 ⟨some 10, none, .call (.func i_math_Abs) [(.tmp 9)], 3⟩,
 ⟨some 11, none, .bin .geq .other (.tmp 10) (.const (.float .f64 4841369599423283200)), 7⟩]
def impl_SineTurns_r4 : List SOper := [
 ⟨some 2, none, .mov (.const (.float .f32 0)), 0⟩]
def impl_SineTurns_r5 (i_impl_sine : FuncId) : List SOper := [
 ⟨some 12, none, .mov (.tmp 0), 0⟩,
 ⟨some 13, none, .conv (.toFloat .f64) (.tmp 12), 1⟩,
 ⟨some 14, none, .call (.func i_impl_sine) [(.tmp 13)], 3⟩,
 ⟨some 15, none, .conv (.toFloat .f32) (.tmp 14), 7⟩,
 ⟨some 2, none, .mov (.tmp 15), 15⟩]
def impl_SineTurns (i_impl_IsFinite i_math_NaN i_math_Abs i_impl_sine : FuncId) : SFunc := ⟨16, [.tmp 2], (.kp [0] (.seq (.region impl_SineTurns_r0 false) (.kp [0] (.seq (.seq (.region (impl_SineTurns_r1 i_impl_IsFinite) false) (.kp [0,5] (.cond (.tmp 5) (.seq (.region (impl_SineTurns_r2 i_math_NaN) false) .ret) .skip))) (.kp [0] (.seq (.seq (.region (impl_SineTurns_r3 i_math_Abs) false) (.kp [0,11] (.cond (.tmp 11) (.seq (.region impl_SineTurns_r4 false) .ret) .skip))) (.kp [0] (.seq (.region (impl_SineTurns_r5 i_impl_sine) false) .ret))))))))⟩

/- loop.example/g01201/spec.l01Narrow -/
def spec_l01Narrow_r0 : List SOper := [
 ⟨some 2, none, .mov (.const (.float .f32 0)), 0⟩]
def spec_l01Narrow_r1 : List SOper := [
 ⟨some 3, none, .mov (.tmp 0), 0⟩,
 ⟨some 4, none, .conv (.toFloat .f32) (.tmp 3), 1⟩,
 ⟨some 2, none, .mov (.tmp 4), 3⟩]
def spec_l01Narrow : SFunc := ⟨5, [.tmp 2], (.kp [0] (.seq (.region spec_l01Narrow_r0 false) (.kp [0] (.seq (.region spec_l01Narrow_r1 false) .ret))))⟩

/- loop.example/g01201/spec.l01Sine -/
def spec_l01Sine_r0 : List SOper := [
 ⟨some 2, none, .mov (.const (.float .f32 0)), 0⟩]
def spec_l01Sine_r1 (i_spec_l01SineWide i_spec_l01Narrow : FuncId) : List SOper := [
 ⟨some 3, none, .mov (.tmp 0), 0⟩,
 ⟨some 4, none, .conv (.toFloat .f64) (.tmp 3), 1⟩,
 ⟨some 5, none, .call (.func i_spec_l01SineWide) [(.tmp 4)], 3⟩,
 ⟨some 6, none, .call (.func i_spec_l01Narrow) [(.tmp 5)], 7⟩,
 ⟨some 2, none, .mov (.tmp 6), 15⟩]
def spec_l01Sine (i_spec_l01SineWide i_spec_l01Narrow : FuncId) : SFunc := ⟨7, [.tmp 2], (.kp [0] (.seq (.region spec_l01Sine_r0 false) (.kp [0] (.seq (.region (spec_l01Sine_r1 i_spec_l01SineWide i_spec_l01Narrow) false) .ret))))⟩


theorem wide_num {x : Nat} {s : Bool} {m : Nat} {e : Int} (hr : Ieee.single.read x = .number s m e) : ∃ r, r < 9218868437227405312 ∧ wide x = Ieee.double.word s r := by
  have hw := f2f_wide x
  have hd : FloatKind.f32.decode x = .number s m e := hr
  unfold f2f at hw
  rw [if_neg (by unfold isNaN; rw [hd]; simp [Ieee.Datum.isNaN])] at hw
  unfold floatToFloatBits at hw
  rw [if_neg (by decide), hd] at hw
  obtain ⟨h1, h2, h3⟩ := read_single x hr
  obtain ⟨r, h4, h5⟩ := nearest_double s m e h1 h2 h3
  have h6 : FloatKind.f64.encode (.number s m e) = Ieee.double.word s r := h4
  have h7 : (FloatKind.f64.decode (FloatKind.f64.encode (.number s m e))).isInfinity = false := by
    rw [h6]; exact read_fin s r h5
  dsimp only at hw
  rw [h7] at hw
  simp only [Bool.false_eq_true, if_false, Option.some.injEq] at hw
  rw [double_consts.1] at h5
  exact ⟨r, h5, by rw [← hw, h6]⟩
theorem near_zero64 (s : Bool) (p : Int) : Ieee.double.nearest s 0 p = Ieee.double.word s 0 := by
  unfold Ieee.Format.nearest; rw [if_pos rfl]
theorem word_false64 (r : Nat) : Ieee.double.word false r = r := if_neg (by decide)
theorem sub_self64 {y : Nat} {s : Bool} {m : Nat} {e : Int} (hy : Ieee.double.read y = .number s m e) : fbin .sub .f64 y y = 0 := by
  rw [fbin_sub6, hy, show (Ieee.Datum.number s m e).opposite = .number (!s) m e from rfl, sum_num6, Option.map_some, Option.getD_some, write_num6]
  have hz : Ieee.signed s m (e - min e e).toNat + Ieee.signed (!s) m (e - min e e).toNat = 0 := by
    rw [signed_if, signed_if]; cases s <;> simp <;> omega
  rw [hz, if_pos rfl, Int.natAbs_zero, near_zero64]
  cases s <;> exact word_false64 0
theorem zero64 : feq .f64 0 0 = true := by decide +kernel
theorem nan_rest : feq .f64 (fbin .sub .f64 (nanOf .f64) (nanOf .f64)) 0 = false := by decide +kernel
theorem inf_rest (s : Bool) : feq .f64 (fbin .sub .f64 (FloatKind.f64.encode (.infinity s)) (FloatKind.f64.encode (.infinity s))) 0 = false := by cases s <;> decide +kernel
/-- A finite number, made wide. -/
theorem wide_fin {x : Nat} (h : finB x = true) : ∃ s m e, Ieee.double.read (wide x) = .number s m e ∧ -1074 ≤ e ∧ feq .f64 (fbin .sub .f64 (wide x) (wide x)) 0 = true := by
  obtain ⟨s, m, e, hr⟩ := fin_number h
  obtain ⟨r, h1, h2⟩ := wide_num hr
  have hy := read_word64 (s := s) h1
  rw [← h2] at hy
  by_cases hc : r < 4503599627370496
  · rw [if_pos hc] at hy
    exact ⟨_, _, _, hy, by omega, by rw [sub_self64 hy]; exact zero64⟩
  · rw [if_neg hc] at hy
    exact ⟨_, _, _, hy, by omega, by rw [sub_self64 hy]; exact zero64⟩
theorem sub_self32 {x : Nat} {s : Bool} {m : Nat} {e : Int} (hr : Ieee.single.read x = .number s m e) : fbin .sub .f32 x x = 0 := by
  have h0 : fbin .sub .f32 x x = (((Ieee.single.read x).sum (Ieee.single.read x).opposite).map Ieee.single.write).getD (nanOf .f32) := rfl
  rw [h0, hr, show (Ieee.Datum.number s m e).opposite = .number (!s) m e from rfl, sum_num6, Option.map_some, Option.getD_some, write_num6]
  have hz : Ieee.signed s m (e - min e e).toNat + Ieee.signed (!s) m (e - min e e).toNat = 0 := by
    rw [signed_if, signed_if]; cases s <;> simp <;> omega
  rw [hz, if_pos rfl, Int.natAbs_zero]
  unfold Ieee.Format.nearest
  rw [if_pos rfl]
  cases s <;> exact if_neg (by decide)
theorem wide_inf {x : Nat} (h : finB x = false) : feq .f64 (fbin .sub .f64 (wide x) (wide x)) 0 = false := by
  cases hr : Ieee.single.read x with
  | number s m e =>
    exfalso
    unfold finB at h
    rw [sub_self32 hr] at h
    exact absurd h (by decide +kernel)
  | infinity s =>
    have hw := f2f_wide x
    have hd : FloatKind.f32.decode x = .infinity s := hr
    unfold f2f at hw
    rw [if_neg (by unfold isNaN; rw [hd]; simp [Ieee.Datum.isNaN])] at hw
    unfold floatToFloatBits at hw
    rw [if_neg (by decide), hd] at hw
    dsimp only at hw
    rw [Option.some.injEq] at hw
    rw [← hw]
    exact inf_rest s
  | nan s t =>
    have hw := f2f_wide x
    have hd : FloatKind.f32.decode x = .nan s t := hr
    unfold f2f at hw
    rw [if_pos (by unfold isNaN; rw [hd]; rfl)] at hw
    rw [if_neg (by decide), Option.some.injEq] at hw
    rw [← hw]
    exact nan_rest
/-- The sine of turns. -/
def sinT (x : Nat) : Nat := if finB x = true then (if (fge .f64 (wide x) big64 || fle .f64 (wide x) mbig64) = true then 0 else (f2f .f64 (sineV (wide x) ((floatToIntVal .f64 (wide x) .i64).getD 0)) .f32).getD 0) else nanOf .f32
/-- A float64 is made narrow. -/
theorem EvR.toN {C : Ctab} {F : Frame} {τ l : Heap} {Q} {d n : Nat} {rest : List SOper} {x : Operand} {y r : Nat} (h1 : eval F x = .float .f64 y) (h2 : f2f .f64 y .f32 = some r) (h : EvR C rest ((d, .float .f32 r) :: F) (τ ++ l) Q) : EvR C (⟨some d, none, .conv (.toFloat .f32) x, n⟩ :: rest) F (τ ++ l) Q := by
  refine EvR.opS (σ' := τ ++ l) ?_ h
  simp only [evOp, h1, aConv, h2, Option.map_some]
theorem nan_narrow : f2f .f64 9221120237041090561 .f32 = some (nanOf .f32) := by decide +kernel
theorem zero_narrow : f2f .f64 0 .f32 = some 0 := by decide +kernel
def spec_l01Narrow_ok (c : Contract) : Prop := ∀ (σ : Heap) (y r : Nat), f2f .f64 y .f32 = some r → Ret c [.float .f64 y] σ fun v σ' => v = .float .f32 r ∧ σ' = σ
theorem spec_l01Narrow_law {C : Ctab} : spec_l01Narrow_ok (gcC C spec_l01Narrow true) := by
  intro σ y r h
  refine ret_gc rfl rfl ?_
  repeat' (first | refine ff ?_ | ((first | refine sR ?_ ?_ | refine sC ?_ ?_) <;> (intro hb; (try rw [hb]); (try simp only [bb] at hb); (try (exfalso; first | omega | exact hb trivial)))) | (apply endS trivial; rotate_left; (· exact eva); (· rfl); try refine ⟨?_, rfl⟩) | fail)
  refine EvR.toN rfl h ?_
  repeat' (first | refine ff ?_ | ((first | refine sR ?_ ?_ | refine sC ?_ ?_) <;> (intro hb; (try rw [hb]); (try simp only [bb] at hb); (try (exfalso; first | omega | exact hb trivial)))) | (apply endS trivial; rotate_left; (· exact eva); (· rfl); try refine ⟨?_, rfl⟩) | fail)
  all_goals (try rfl)
abbrev sineT_ok (c : Contract) : Prop := ∀ (σ : Heap) (x : Nat), Ret c [.float .f32 x] σ fun v σ' => v = .float .f32 (sinT x) ∧ σ' = σ
abbrev spec_l01Sine_ok := sineT_ok
abbrev impl_SineTurns_ok := sineT_ok
theorem spec_l01Sine_law {C : Ctab} {i1 i2 : FuncId} {c1 c2 : Contract} (h1 : Has C i1 c1 spec_l01SineWide_ok) (h2 : Has C i2 c2 spec_l01Narrow_ok) : spec_l01Sine_ok (gcC C (spec_l01Sine i1 i2) true) := by
  intro σ x
  unfold sinT
  cases hf : finB x
  · simp only [Bool.false_eq_true, if_false]
    refine ret_gc rfl rfl ?_
    repeat' (first | refine ff ?_ | ((first | refine sR ?_ ?_ | refine sC ?_ ?_) <;> (intro hb; (try rw [hb]); (try simp only [bb] at hb); (try (exfalso; first | omega | exact hb trivial)))) | (apply endS trivial; rotate_left; (· exact eva); (· rfl); try refine ⟨?_, rfl⟩) | fail)
    (apply EvR.aCall h1.at_; (· exact eva); (· exact  h1.ok.1 _ (wide x) (wide_inf hf)); (rintro _ _ ⟨rfl, rfl⟩; refine EvR.nrm ?_))
    repeat' (first | refine ff ?_ | ((first | refine sR ?_ ?_ | refine sC ?_ ?_) <;> (intro hb; (try rw [hb]); (try simp only [bb] at hb); (try (exfalso; first | omega | exact hb trivial)))) | (apply endS trivial; rotate_left; (· exact eva); (· rfl); try refine ⟨?_, rfl⟩) | fail)
    (apply EvR.aCall h2.at_; (· exact eva); (· exact  h2.ok _ _ _ nan_narrow); (rintro _ _ ⟨rfl, rfl⟩; refine EvR.nrm ?_))
    repeat' (first | refine ff ?_ | ((first | refine sR ?_ ?_ | refine sC ?_ ?_) <;> (intro hb; (try rw [hb]); (try simp only [bb] at hb); (try (exfalso; first | omega | exact hb trivial)))) | (apply endS trivial; rotate_left; (· exact eva); (· rfl); try refine ⟨?_, rfl⟩) | fail)
    all_goals (try rfl)
  · obtain ⟨s, m, e, hy, he, h0⟩ := wide_fin hf
    simp only [if_true]
    cases hb0 : (fge .f64 (wide x) big64 || fle .f64 (wide x) mbig64)
    · obtain ⟨n, r, g1, g2⟩ := sine_some hy he hb0
      rw [g1, Option.getD_some, g2, Option.getD_some]
      simp only [Bool.false_eq_true, if_false]
      refine ret_gc rfl rfl ?_
      repeat' (first | refine ff ?_ | ((first | refine sR ?_ ?_ | refine sC ?_ ?_) <;> (intro hb; (try rw [hb]); (try simp only [bb] at hb); (try (exfalso; first | omega | exact hb trivial)))) | (apply endS trivial; rotate_left; (· exact eva); (· rfl); try refine ⟨?_, rfl⟩) | fail)
      (apply EvR.aCall h1.at_; (· exact eva); (· exact  h1.ok.2.2 _ (wide x) n h0 hb0 g1); (rintro _ _ ⟨rfl, rfl⟩; refine EvR.nrm ?_))
      repeat' (first | refine ff ?_ | ((first | refine sR ?_ ?_ | refine sC ?_ ?_) <;> (intro hb; (try rw [hb]); (try simp only [bb] at hb); (try (exfalso; first | omega | exact hb trivial)))) | (apply endS trivial; rotate_left; (· exact eva); (· rfl); try refine ⟨?_, rfl⟩) | fail)
      (apply EvR.aCall h2.at_; (· exact eva); (· exact  h2.ok _ _ _ g2); (rintro _ _ ⟨rfl, rfl⟩; refine EvR.nrm ?_))
      repeat' (first | refine ff ?_ | ((first | refine sR ?_ ?_ | refine sC ?_ ?_) <;> (intro hb; (try rw [hb]); (try simp only [bb] at hb); (try (exfalso; first | omega | exact hb trivial)))) | (apply endS trivial; rotate_left; (· exact eva); (· rfl); try refine ⟨?_, rfl⟩) | fail)
      all_goals (try rfl)
    · simp only [if_true]
      refine ret_gc rfl rfl ?_
      repeat' (first | refine ff ?_ | ((first | refine sR ?_ ?_ | refine sC ?_ ?_) <;> (intro hb; (try rw [hb]); (try simp only [bb] at hb); (try (exfalso; first | omega | exact hb trivial)))) | (apply endS trivial; rotate_left; (· exact eva); (· rfl); try refine ⟨?_, rfl⟩) | fail)
      (apply EvR.aCall h1.at_; (· exact eva); (· exact  h1.ok.2.1 _ (wide x) h0 hb0); (rintro _ _ ⟨rfl, rfl⟩; refine EvR.nrm ?_))
      repeat' (first | refine ff ?_ | ((first | refine sR ?_ ?_ | refine sC ?_ ?_) <;> (intro hb; (try rw [hb]); (try simp only [bb] at hb); (try (exfalso; first | omega | exact hb trivial)))) | (apply endS trivial; rotate_left; (· exact eva); (· rfl); try refine ⟨?_, rfl⟩) | fail)
      (apply EvR.aCall h2.at_; (· exact eva); (· exact  h2.ok _ _ _ zero_narrow); (rintro _ _ ⟨rfl, rfl⟩; refine EvR.nrm ?_))
      repeat' (first | refine ff ?_ | ((first | refine sR ?_ ?_ | refine sC ?_ ?_) <;> (intro hb; (try rw [hb]); (try simp only [bb] at hb); (try (exfalso; first | omega | exact hb trivial)))) | (apply endS trivial; rotate_left; (· exact eva); (· rfl); try refine ⟨?_, rfl⟩) | fail)
      all_goals (try rfl)
def impl_IsFinite_ok (c : Contract) : Prop := ∀ (σ : Heap) (x : Nat), Ret c [.float .f32 x] σ fun v σ' => v = .bool (finB x) ∧ σ' = σ
theorem impl_IsFinite_law {C : Ctab} : impl_IsFinite_ok (gcC C impl_IsFinite true) := by
  intro σ x
  refine ret_gc rfl rfl ?_
  repeat' (first | refine ff ?_ | ((first | refine sR ?_ ?_ | refine sC ?_ ?_) <;> (intro hb; (try rw [hb]); (try simp only [bb] at hb); (try (exfalso; first | omega | exact hb trivial)))) | (apply endS trivial; rotate_left; (· exact eva); (· rfl); try refine ⟨?_, rfl⟩) | fail)
  all_goals (try rfl)
theorem word_lt64 {s : Bool} {r : Nat} (hr : r < 9218868437227405312) : Ieee.double.word s r < 18446744073709551616 := by
  unfold Ieee.Format.word
  rw [double_consts.2.1]
  cases s
  · simp only [Bool.false_eq_true, if_false]; omega
  · simp only [if_true]; omega
theorem andnot_val {y a : Nat} (hy : y < 18446744073709551616) (ha : y % 9223372036854775808 = a) : aBin .andNot .other (.int .u64 (y : Int)) (.int .u64 9223372036854775808) = some (.int .u64 (a : Int)) := by
  have h1 : (BitVec.ofInt 64 (y : Int) &&& ~~~(BitVec.ofInt 64 9223372036854775808)).toNat = a := by
    rw [BitVec.toNat_and]
    have e1 : (BitVec.ofInt 64 (y : Int)).toNat = y := by
      rw [BitVec.ofInt_natCast, BitVec.toNat_ofNat, Nat.mod_eq_of_lt (by simpa using hy)]
    have e2 : (~~~(BitVec.ofInt 64 9223372036854775808)).toNat = 2 ^ 63 - 1 := by decide
    rw [e1, e2, Nat.and_two_pow_sub_one_eq_mod]
    exact ha
  have h2 : aBin .andNot .other (.int .u64 (y : Int)) (.int .u64 9223372036854775808) = some (.int .u64 (IntKind.u64.wrap ((BitVec.ofInt 64 (y : Int) &&& ~~~(BitVec.ofInt 64 9223372036854775808)).toNat : Int))) := rfl
  rw [h2, h1]
  have hal : a < 9223372036854775808 := by rw [← ha]; exact Nat.mod_lt _ (by decide)
  have h3 : IntKind.u64.wrap (a : Int) = (a : Int) := by
    simp only [IntKind.wrap, IntKind.bits, IntKind.signed]
    simp
    omega
  rw [h3]
def math_Abs_ok (c : Contract) : Prop := ∀ (σ : Heap) (y a : Nat), isNaN .f64 y = false → y < 18446744073709551616 → y % 9223372036854775808 = a → Ret c [.float .f64 y] σ fun v σ' => v = .float .f64 a ∧ σ' = σ
theorem math_Abs_law {C : Ctab} {i1 i2 : FuncId} {c1 c2 : Contract} (h1 : Has C i1 c1 math_Float64bits_ok) (h2 : Has C i2 c2 math_Float64frombits_ok) : math_Abs_ok (gcC C (math_Abs i1 i2) true) := by
  intro σ y a hn hy ha
  have hv := andnot_val hy ha
  clear hy ha
  refine ret_gc rfl rfl ?_
  repeat' (first | refine ff ?_ | ((first | refine sR ?_ ?_ | refine sC ?_ ?_) <;> (intro hb; (try rw [hb]); (try simp only [bb] at hb); (try (exfalso; first | omega | exact hb trivial)))) | (apply endS trivial; rotate_left; (· exact eva); (· rfl); try refine ⟨?_, rfl⟩) | fail)
  (apply EvR.aCall h1.at_; (· exact eva); (· exact  h1.ok _ _ hn); (rintro _ _ ⟨rfl, rfl⟩; refine EvR.nrm ?_))
  repeat' (first | refine ff ?_ | ((first | refine sR ?_ ?_ | refine sC ?_ ?_) <;> (intro hb; (try rw [hb]); (try simp only [bb] at hb); (try (exfalso; first | omega | exact hb trivial)))) | (apply endS trivial; rotate_left; (· exact eva); (· rfl); try refine ⟨?_, rfl⟩) | fail)
  refine EvR.opS (v := .int .u64 (a : Int)) (σ' := σ ++ []) ?_ ?_
  · show (aBin .andNot .other (.int .u64 (y : Int)) (.int .u64 9223372036854775808)).map (·, σ ++ []) = _
    rw [hv]; rfl
  repeat' (first | refine ff ?_ | ((first | refine sR ?_ ?_ | refine sC ?_ ?_) <;> (intro hb; (try rw [hb]); (try simp only [bb] at hb); (try (exfalso; first | omega | exact hb trivial)))) | (apply endS trivial; rotate_left; (· exact eva); (· rfl); try refine ⟨?_, rfl⟩) | fail)
  (apply EvR.aCall h2.at_; (· exact eva); (· exact  h2.ok _ (a : Int)); (rintro _ _ ⟨rfl, rfl⟩; refine EvR.nrm ?_))
  repeat' (first | refine ff ?_ | ((first | refine sR ?_ ?_ | refine sC ?_ ?_) <;> (intro hb; (try rw [hb]); (try simp only [bb] at hb); (try (exfalso; first | omega | exact hb trivial)))) | (apply endS trivial; rotate_left; (· exact eva); (· rfl); try refine ⟨?_, rfl⟩) | fail)
  all_goals (try rfl)
theorem impl_SineTurns_law {C : Ctab} {i1 i2 i3 i4 : FuncId} {c1 c2 c3 c4 : Contract} (h1 : Has C i1 c1 impl_IsFinite_ok) (h2 : Has C i2 c2 math_NaN_ok) (h3 : Has C i3 c3 math_Abs_ok) (h4 : Has C i4 c4 impl_sine_ok) : impl_SineTurns_ok (gcC C (impl_SineTurns i1 i2 i3 i4) true) := by
  intro σ x
  unfold sinT
  cases hf : finB x
  · simp only [Bool.false_eq_true, if_false]
    refine ret_gc rfl rfl ?_
    repeat' (first | refine ff ?_ | ((first | refine sR ?_ ?_ | refine sC ?_ ?_) <;> (intro hb; (try rw [hb]); (try simp only [bb] at hb); (try (exfalso; first | omega | exact hb trivial)))) | (apply endS trivial; rotate_left; (· exact eva); (· rfl); try refine ⟨?_, rfl⟩) | fail)
    (apply EvR.aCall h1.at_; (· exact eva); (· exact  h1.ok _ x); (rintro _ _ ⟨rfl, rfl⟩; refine EvR.nrm ?_))
    rw [hf]
    repeat' (first | refine ff ?_ | ((first | refine sR ?_ ?_ | refine sC ?_ ?_) <;> (intro hb; (try rw [hb]); (try simp only [bb] at hb); (try (exfalso; first | omega | exact hb trivial)))) | (apply endS trivial; rotate_left; (· exact eva); (· rfl); try refine ⟨?_, rfl⟩) | fail)
    (apply EvR.aCall h2.at_; (· exact eva); (· exact  h2.ok _); (rintro _ _ ⟨rfl, rfl⟩; refine EvR.nrm ?_))
    repeat' (first | refine ff ?_ | ((first | refine sR ?_ ?_ | refine sC ?_ ?_) <;> (intro hb; (try rw [hb]); (try simp only [bb] at hb); (try (exfalso; first | omega | exact hb trivial)))) | (apply endS trivial; rotate_left; (· exact eva); (· rfl); try refine ⟨?_, rfl⟩) | fail)
    refine EvR.toN rfl nan_narrow ?_
    repeat' (first | refine ff ?_ | ((first | refine sR ?_ ?_ | refine sC ?_ ?_) <;> (intro hb; (try rw [hb]); (try simp only [bb] at hb); (try (exfalso; first | omega | exact hb trivial)))) | (apply endS trivial; rotate_left; (· exact eva); (· rfl); try refine ⟨?_, rfl⟩) | fail)
    all_goals (try rfl)
  · obtain ⟨s, m, e, hy, he, h0⟩ := wide_fin hf
    obtain ⟨sg, mm, ee, hr⟩ := fin_number hf
    obtain ⟨r0, hr0, hw0⟩ := wide_num hr
    have hlt : wide x < 18446744073709551616 := by rw [hw0]; exact word_lt64 hr0
    have hnn : isNaN .f64 (wide x) = false := by
      have hd : FloatKind.f64.decode (wide x) = .number s m e := hy
      unfold isNaN; rw [hd]; rfl
    obtain ⟨a, ha⟩ : ∃ a, wide x % 9223372036854775808 = a := ⟨_, rfl⟩
    have hal : a < 9223372036854775808 := by rw [← ha]; exact Nat.mod_lt _ (by decide)
    have hra : Ieee.double.read a = .number false m e := by
      have h := read_rung (z := a) (by rw [ha, Nat.mod_eq_of_lt hal]) hy
      rw [Nat.div_eq_of_lt hal] at h
      exact h
    have hga := great_abs hy hra he
    simp only [if_true]
    cases hb0 : (fge .f64 (wide x) big64 || fle .f64 (wide x) mbig64)
    · rw [hb0] at hga
      obtain ⟨n, r, g1, g2⟩ := sine_some hy he hb0
      rw [g1, Option.getD_some, g2, Option.getD_some]
      simp only [Bool.false_eq_true, if_false]
      clear hal hr0 hw0
      refine ret_gc rfl rfl ?_
      repeat' (first | refine ff ?_ | ((first | refine sR ?_ ?_ | refine sC ?_ ?_) <;> (intro hb; (try rw [hb]); (try simp only [bb] at hb); (try (exfalso; first | omega | exact hb trivial)))) | (apply endS trivial; rotate_left; (· exact eva); (· rfl); try refine ⟨?_, rfl⟩) | fail)
      (apply EvR.aCall h1.at_; (· exact eva); (· exact  h1.ok _ x); (rintro _ _ ⟨rfl, rfl⟩; refine EvR.nrm ?_))
      rw [hf]
      repeat' (first | refine ff ?_ | ((first | refine sR ?_ ?_ | refine sC ?_ ?_) <;> (intro hb; (try rw [hb]); (try simp only [bb] at hb); (try (exfalso; first | omega | exact hb trivial)))) | (apply endS trivial; rotate_left; (· exact eva); (· rfl); try refine ⟨?_, rfl⟩) | fail)
      (apply EvR.aCall h3.at_; (· exact eva); (· exact  h3.ok _ (wide x) a hnn hlt ha); (rintro _ _ ⟨rfl, rfl⟩; refine EvR.nrm ?_))
      clear hlt ha
      repeat' (first | refine ff ?_ | ((first | refine sR ?_ ?_ | refine sC ?_ ?_) <;> (intro hb; (try rw [hb]); (try simp only [bb] at hb); (try (exfalso; first | omega | exact hb trivial)))) | (apply endS trivial; rotate_left; (· exact eva); (· rfl); try refine ⟨?_, rfl⟩) | fail)
      · exact absurd hga (by rw [hb]; decide)
      (apply EvR.aCall h4.at_; (· exact eva); (· exact  h4.ok _ (wide x) n g1); (rintro _ _ ⟨rfl, rfl⟩; refine EvR.nrm ?_))
      repeat' (first | refine ff ?_ | ((first | refine sR ?_ ?_ | refine sC ?_ ?_) <;> (intro hb; (try rw [hb]); (try simp only [bb] at hb); (try (exfalso; first | omega | exact hb trivial)))) | (apply endS trivial; rotate_left; (· exact eva); (· rfl); try refine ⟨?_, rfl⟩) | fail)
      refine EvR.toN rfl g2 ?_
      repeat' (first | refine ff ?_ | ((first | refine sR ?_ ?_ | refine sC ?_ ?_) <;> (intro hb; (try rw [hb]); (try simp only [bb] at hb); (try (exfalso; first | omega | exact hb trivial)))) | (apply endS trivial; rotate_left; (· exact eva); (· rfl); try refine ⟨?_, rfl⟩) | fail)
      all_goals (try rfl)
    · rw [hb0] at hga
      simp only [if_true]
      clear hal hr0 hw0
      refine ret_gc rfl rfl ?_
      repeat' (first | refine ff ?_ | ((first | refine sR ?_ ?_ | refine sC ?_ ?_) <;> (intro hb; (try rw [hb]); (try simp only [bb] at hb); (try (exfalso; first | omega | exact hb trivial)))) | (apply endS trivial; rotate_left; (· exact eva); (· rfl); try refine ⟨?_, rfl⟩) | fail)
      (apply EvR.aCall h1.at_; (· exact eva); (· exact  h1.ok _ x); (rintro _ _ ⟨rfl, rfl⟩; refine EvR.nrm ?_))
      rw [hf]
      repeat' (first | refine ff ?_ | ((first | refine sR ?_ ?_ | refine sC ?_ ?_) <;> (intro hb; (try rw [hb]); (try simp only [bb] at hb); (try (exfalso; first | omega | exact hb trivial)))) | (apply endS trivial; rotate_left; (· exact eva); (· rfl); try refine ⟨?_, rfl⟩) | fail)
      (apply EvR.aCall h3.at_; (· exact eva); (· exact  h3.ok _ (wide x) a hnn hlt ha); (rintro _ _ ⟨rfl, rfl⟩; refine EvR.nrm ?_))
      clear hlt ha
      repeat' (first | refine ff ?_ | ((first | refine sR ?_ ?_ | refine sC ?_ ?_) <;> (intro hb; (try rw [hb]); (try simp only [bb] at hb); (try (exfalso; first | omega | exact hb trivial)))) | (apply endS trivial; rotate_left; (· exact eva); (· rfl); try refine ⟨?_, rfl⟩) | fail)
      · rfl
      · exact absurd hga (by rw [hb]; decide)
end Go.Abs

