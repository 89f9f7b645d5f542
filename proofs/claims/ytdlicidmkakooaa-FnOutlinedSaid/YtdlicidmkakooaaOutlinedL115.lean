/- Laws of functions: what the law of outlines chooses and asks. Conditions: the laws of what they call. -/
import Derived.Test.YtdlicidmkakooaaOutlinedL102
namespace Go.Abs

set_option linter.unusedSimpArgs false
set_option linter.unusedVariables false
set_option maxHeartbeats 8000000
set_option maxRecDepth 20000
/- loop.example/g01201/laws.b10Long -/
def laws_b10Long_r0 : List SOper := [
 ⟨some 4, none, .mov (.const (.bool false)), 0⟩]
def laws_b10Long_r1 : List SOper := [
 ⟨some 5, none, .mov (.tmp 0), 0⟩,
 ⟨some 6, none, .len false (.tmp 5), 1⟩,
 ⟨some 7, none, .bin .gtr .other (.tmp 6) (.const (.int .i64 1048576)), 3⟩,
 ⟨some 8, none, .mov (.tmp 7), 7⟩,
  ⟨(some 9), (some (8, false)), .mov (.tmp 1), 15⟩,
  ⟨(some 10), (some (8, false)), .len false (.tmp 9), 31⟩,
  ⟨(some 11), (some (8, false)), .bin .gtr .other (.tmp 10) (.const (.int .i64 1048576)), 63⟩,
 ⟨some 12, none, .pick (.tmp 8) (.const (.bool true)) (.tmp 11), 127⟩,
 ⟨some 4, none, .mov (.tmp 12), 255⟩]
def laws_b10Long : SFunc := ⟨13, [.tmp 4], (.kp [0,1] (.seq (.region laws_b10Long_r0 false) (.kp [0,1] (.seq (.region laws_b10Long_r1 false) .ret))))⟩

/- loop.example/g01201/laws.b10At -/
def laws_b10At_r0 : List SOper := [
 ⟨some 6, none, .mov (.const (.int .i64 0)), 0⟩]
def laws_b10At_r1 : List SOper := [
 ⟨some 7, none, .mov (.tmp 2), 0⟩,
 ⟨some 8, none, .bin .leq .other (.tmp 7) (.const (.int .i64 1)), 1⟩]
def laws_b10At_r2 : List SOper := [
 ⟨some 6, none, .mov (.const (.int .i64 0)), 0⟩]
def laws_b10At_r3 : List SOper := [
 ⟨some 9, none, .mov (.tmp 1), 0⟩,
 ⟨some 10, none, .mov (.tmp 0), 0⟩,
 ⟨some 11, none, .len false (.tmp 10), 2⟩,
 ⟨some 12, none, .bin .lss .other (.tmp 9) (.tmp 11), 7⟩]
def laws_b10At_r4 : List SOper := [
 ⟨some 13, none, .mov (.tmp 0), 0⟩,
 ⟨some 14, none, .mov (.tmp 1), 0⟩,
 ⟨some 15, none, .indexAddrS 1 (.tmp 13) (.tmp 14), 3⟩,
 ⟨some 16, none, .load1 (.tmp 15), 7⟩,
 ⟨some 17, none, .conv (.toInt .i64) (.tmp 16), 15⟩,
 ⟨some 18, none, .mov (.tmp 2), 0⟩,
 ⟨some 19, none, .bin .rem .other (.tmp 17) (.tmp 18), 63⟩,
 ⟨some 6, none, .mov (.tmp 19), 127⟩]
def laws_b10At_r5 : List SOper := [
 ⟨some 20, none, .mov (.tmp 1), 0⟩,
 ⟨some 21, none, .bin .mul .other (.tmp 20) (.const (.int .i64 37)), 1⟩,
 ⟨some 22, none, .bin .add .other (.tmp 21) (.const (.int .i64 11)), 3⟩,
 ⟨some 23, none, .mov (.tmp 2), 0⟩,
 ⟨some 24, none, .bin .rem .other (.tmp 22) (.tmp 23), 15⟩,
 ⟨some 6, none, .mov (.tmp 24), 31⟩]
def laws_b10At : SFunc := ⟨25, [.tmp 6], (.kp [0,1,2] (.seq (.region laws_b10At_r0 false) (.kp [0,1,2] (.seq (.seq (.region laws_b10At_r1 false) (.kp [0,1,2,8] (.cond (.tmp 8) (.seq (.region laws_b10At_r2 false) .ret) .skip))) (.kp [0,1,2] (.seq (.seq (.region laws_b10At_r3 false) (.kp [0,1,2,12] (.cond (.tmp 12) (.seq (.region laws_b10At_r4 false) .ret) .skip))) (.kp [1,2] (.seq (.region laws_b10At_r5 false) .ret))))))))⟩

/- loop.example/g01201/spec.B10Plain -/
def spec_B10Plain_r0 : List SOper := [
 ⟨some 2, none, .alloc [(.int .i64 0), (.int .i64 0), (.bool false), (.slice none 0 0), (.slice none 0 0)], 0⟩]
def spec_B10Plain_r1 (i_spec_l00From : FuncId) : List SOper := [
 ⟨some 6, none, .mov (.tmp 0), 0⟩,
 ⟨some 7, none, .call (.func i_spec_l00From) [(.tmp 6)], 1⟩,
 ⟨some 3, none, .mov (.tmp 7), 3⟩]
def spec_B10Plain_r2 (i_spec_l02DrawOk : FuncId) : List SOper := [
 ⟨some 8, none, .mov (.tmp 3), 0⟩,
 ⟨some 9, none, .call (.func i_spec_l02DrawOk) [(.tmp 8)], 1⟩,
 ⟨some 4, none, .alloc [(.int .i64 0), (.int .i64 0), (.bool false), (.slice none 0 0), (.slice none 0 0)], 0⟩,
 ⟨none, none, .store 5 (.tmp 4) (.tmp 9), 7⟩]
def spec_B10Plain_r3 : List SOper := [
 ⟨some 10, none, .fieldAddr 4 (.tmp 4), 0⟩,
 ⟨some 11, none, .load1 (.tmp 10), 1⟩,
 ⟨some 12, none, .len false (.tmp 11), 3⟩,
 ⟨some 13, none, .mov (.const (.int .i64 0)), 0⟩]
def spec_B10Plain_r4 : List SOper := [
 ⟨some 14, none, .bin .lss .other (.tmp 13) (.tmp 12), 0⟩]
def spec_B10Plain_r5 : List SOper := [
 ⟨some 15, none, .mov (.tmp 13), 0⟩,
 ⟨some 5, none, .mov (.tmp 15), 1⟩]
def spec_B10Plain_r6 : List SOper := [
 ⟨some 16, none, .fieldAddr 4 (.tmp 4), 0⟩,
 ⟨some 17, none, .load1 (.tmp 16), 1⟩,
 ⟨some 18, none, .mov (.tmp 5), 0⟩,
 ⟨some 19, none, .indexAddrS 1 (.tmp 17) (.tmp 18), 7⟩,
 ⟨none, none, .store 1 (.tmp 19) (.const (.float .f32 0)), 15⟩]
def spec_B10Plain_r7 : List SOper := [
 ⟨some 20, none, .bin .add .other (.tmp 13) (.const (.int .i64 1)), 0⟩,
 ⟨some 13, none, .mov (.tmp 20), 1⟩]
def spec_B10Plain_l8 : SCode := (.kp [2,4,12,13] (.seq (.region spec_B10Plain_r4 false) (.kp [2,4,12,13,14] (.seq (.cond (.tmp 14) .skip (.exit 0)) (.kp [2,4,12,13] (.seq (.block 1 (.seq (.region spec_B10Plain_r5 false) (.kp [2,4,5,12,13] (.region spec_B10Plain_r6 false)))) (.kp [2,4,12,13] (.region spec_B10Plain_r7 false))))))))
def spec_B10Plain_r9 : List SOper := [
 ⟨some 21, none, .loadN 5 (.tmp 4), 0⟩,
 ⟨none, none, .store 5 (.tmp 2) (.tmp 21), 1⟩]
def spec_B10Plain (i_spec_l00From i_spec_l02DrawOk : FuncId) : SFunc := ⟨22, [.cellN 2 5], (.kp [0] (.seq (.region spec_B10Plain_r0 false) (.kp [0,2] (.seq (.region (spec_B10Plain_r1 i_spec_l00From) false) (.kp [2,3] (.seq (.region (spec_B10Plain_r2 i_spec_l02DrawOk) false) (.kp [2,4] (.seq (.seq (.region spec_B10Plain_r3 false) (.kp [2,4,12,13] (.block 0 (.loop spec_B10Plain_l8)))) (.kp [2,4] (.seq (.region spec_B10Plain_r9 false) .ret))))))))))⟩

/- loop.example/g01201/spec.B10Field -/
def spec_B10Field_r0 : List SOper := [
 ⟨some 3, none, .box (.tmp 1), 0⟩,
 ⟨some 4, none, .alloc [(.slice none 0 0), (.slice none 0 0), (.slice none 0 0)], 0⟩]
def spec_B10Field_r1 (i_spec_l00From : FuncId) : List SOper := [
 ⟨some 6, none, .mov (.tmp 0), 0⟩,
 ⟨some 7, none, .call (.func i_spec_l00From) [(.tmp 6)], 1⟩,
 ⟨some 5, none, .mov (.tmp 7), 3⟩]
def spec_B10Field_r2 (i_spec_l02DrawField : FuncId) : List SOper := [
 ⟨some 8, none, .mov (.tmp 5), 0⟩,
 ⟨some 9, none, .call (.func i_spec_l02DrawField) [(.tmp 8), (.tmp 3)], 1⟩,
 ⟨none, none, .store 3 (.tmp 4) (.tmp 9), 3⟩]
def spec_B10Field (i_spec_l00From i_spec_l02DrawField : FuncId) : SFunc := ⟨10, [.cellN 4 3], (.kp [0,1] (.seq (.region spec_B10Field_r0 false) (.kp [0,3,4] (.seq (.region (spec_B10Field_r1 i_spec_l00From) false) (.kp [3,4,5] (.seq (.region (spec_B10Field_r2 i_spec_l02DrawField) false) .ret))))))⟩

/- loop.example/g01201/spec.SameNumber -/
def spec_SameNumber_r0 : List SOper := [
 ⟨some 4, none, .mov (.const (.bool false)), 0⟩]
def spec_SameNumber_r1 (i_spec_l01Same : FuncId) : List SOper := [
 ⟨some 5, none, .mov (.tmp 0), 0⟩,
 ⟨some 6, none, .mov (.tmp 1), 0⟩,
 ⟨some 7, none, .call (.func i_spec_l01Same) [(.tmp 5), (.tmp 6)], 3⟩,
 ⟨some 4, none, .mov (.tmp 7), 7⟩]
def spec_SameNumber (i_spec_l01Same : FuncId) : SFunc := ⟨8, [.tmp 4], (.kp [0,1] (.seq (.region spec_SameNumber_r0 false) (.kp [0,1] (.seq (.region (spec_SameNumber_r1 i_spec_l01Same) false) .ret))))⟩

/- loop.example/g01201/spec.l01Finite -/
def spec_l01Finite_r0 : List SOper := [
 ⟨some 2, none, .mov (.const (.bool false)), 0⟩]
def spec_l01Finite_r1 : List SOper := [
 ⟨some 3, none, .mov (.tmp 0), 0⟩,
 ⟨some 4, none, .mov (.tmp 0), 0⟩,
 ⟨some 5, none, .bin .sub .other (.tmp 3) (.tmp 4), 3⟩,
 ⟨some 6, none, .bin .eql .other (.tmp 5) (.const (.float .f32 0)), 7⟩,
 ⟨some 2, none, .mov (.tmp 6), 15⟩]
def spec_l01Finite : SFunc := ⟨7, [.tmp 2], (.kp [0] (.seq (.region spec_l01Finite_r0 false) (.kp [0] (.seq (.region spec_l01Finite_r1 false) .ret))))⟩

/- loop.example/g01201/spec.IsFinite -/
def spec_IsFinite_r0 : List SOper := [
 ⟨some 2, none, .mov (.const (.bool false)), 0⟩]
def spec_IsFinite_r1 (i_spec_l01Finite : FuncId) : List SOper := [
 ⟨some 3, none, .mov (.tmp 0), 0⟩,
 ⟨some 4, none, .call (.func i_spec_l01Finite) [(.tmp 3)], 1⟩,
 ⟨some 2, none, .mov (.tmp 4), 3⟩]
def spec_IsFinite (i_spec_l01Finite : FuncId) : SFunc := ⟨5, [.tmp 2], (.kp [0] (.seq (.region spec_IsFinite_r0 false) (.kp [0] (.seq (.region (spec_IsFinite_r1 i_spec_l01Finite) false) .ret))))⟩


def laws_b10Long_ok (c : Contract) : Prop := ∀ (σ : Heap) (u v : Value) (xs ys : List UInt8), Row σ 1 u xs.length (b8s xs) → Row σ 1 v ys.length (b8s ys) → Ret c [u, v] σ fun r σ' => r = .bool (decide (1048576 < xs.length) || decide (1048576 < ys.length)) ∧ σ' = σ
theorem laws_b10Long_law {C : Ctab} : laws_b10Long_ok (gcC C laws_b10Long true) := by
  intro σ u v xs ys r1 r2
  refine ret_gc rfl rfl ?_
  repeat' (first | refine ff ?_ | ((first | refine sR ?_ ?_ | refine sC ?_ ?_) <;> (intro hb; (try rw [hb]); (try simp only [bb] at hb); (try (exfalso; first | omega | exact hb trivial)))) | (apply endS trivial; rotate_left; (· exact eva); (· rfl); try refine ⟨?_, rfl⟩) | fail)
  all_goals
    by_cases hx : 1048576 < xs.length <;> by_cases hy : 1048576 < ys.length <;> (try simp [hx, hy]) <;> (try omega)
/-- The number below n that bytes choose. -/
def atB (xs : List UInt8) (k n : Int) : Int := if n ≤ 1 then 0 else if k < xs.length then ((xs.getD k.toNat 0).toNat : Int) % n else (k * 37 + 11) % n
theorem atB_bd {xs : List UInt8} {k n : Int} (h : 1 ≤ n) : 0 ≤ atB xs k n ∧ atB xs k n < n := by
  unfold atB
  split
  · omega
  · split
    · exact ⟨Int.emod_nonneg _ (by omega), Int.emod_lt_of_pos _ (by omega)⟩
    · exact ⟨Int.emod_nonneg _ (by omega), Int.emod_lt_of_pos _ (by omega)⟩
def laws_b10At_ok (c : Contract) : Prop := ∀ (σ : Heap) (u : Value) (xs : List UInt8) (k n : Int), Row σ 1 u xs.length (b8s xs) → 0 ≤ k → k ≤ 1000 → 1 ≤ n → n ≤ 1000 → Ret c [u, .int .i64 k, .int .i64 n] σ fun r σ' => r = .int .i64 (atB xs k n) ∧ σ' = σ
theorem laws_b10At_law {C : Ctab} : laws_b10At_ok (gcC C laws_b10At true) := by
  intro σ u xs k n r1 k0 k1 n1 n2
  have hbyte : ∀ i : Nat, i < xs.length → aLoad1 (σ ++ []) (elemP 1 u i) = some (byteV (xs.getD i 0)) := fun i hi => by
    rw [(r1.ext []).load hi, b8s_get hi]
  unfold atB
  by_cases hn : n ≤ 1
  · rw [if_pos hn]
    refine ret_gc rfl rfl ?_
    repeat' (first | refine ff ?_ | ((first | refine sR ?_ ?_ | refine sC ?_ ?_) <;> (intro hb; (try rw [hb]); (try simp only [bb] at hb); (try (exfalso; first | omega | exact hb trivial)))) | (apply endS trivial; rotate_left; (· exact eva); (· rfl); try refine ⟨?_, rfl⟩) | fail)
    all_goals (try rfl)
  rw [if_neg hn]
  by_cases hk : k < xs.length
  · rw [if_pos hk]
    refine ret_gc rfl rfl ?_
    repeat' (first | refine ff ?_ | ((first | refine sR ?_ ?_ | refine sC ?_ ?_) <;> (intro hb; (try rw [hb]); (try simp only [bb] at hb); (try (exfalso; first | omega | exact hb trivial)))) | (apply endS trivial; rotate_left; (· exact eva); (· rfl); try refine ⟨?_, rfl⟩) | fail)
    refine EvR.opS (v := byteV (xs.getD k.toNat 0)) (by show (aLoad1 _ (elemP 1 u k.toNat)).map _ = _; rw [hbyte _ (by omega)]; rfl) ?_
    have hbt := UInt8.toNat_lt (xs.getD k.toNat 0)
    repeat' (first | refine ff ?_ | ((first | refine sR ?_ ?_ | refine sC ?_ ?_) <;> (intro hb; (try rw [hb]); (try simp only [bb] at hb); (try (exfalso; first | omega | exact hb trivial)))) | (apply endS trivial; rotate_left; (· exact eva); (· rfl); try refine ⟨?_, rfl⟩) | fail)
    all_goals (try rfl)
  · rw [if_neg hk]
    refine ret_gc rfl rfl ?_
    repeat' (first | refine ff ?_ | ((first | refine sR ?_ ?_ | refine sC ?_ ?_) <;> (intro hb; (try rw [hb]); (try simp only [bb] at hb); (try (exfalso; first | omega | exact hb trivial)))) | (apply endS trivial; rotate_left; (· exact eva); (· rfl); try refine ⟨?_, rfl⟩) | fail)
    all_goals (try rfl)
abbrev spec_SameNumber_ok := SameNumberN_ok
theorem spec_SameNumber_law {C : Ctab} {i : FuncId} {c : Contract} (h1 : Has C i c spec_l01SameN_ok) : spec_SameNumber_ok (gcC C (spec_SameNumber i) true) := by
  intro σ a b ha hb
  refine ret_gc rfl rfl ?_
  repeat' (first | refine ff ?_ | ((first | refine sR ?_ ?_ | refine sC ?_ ?_) <;> (intro hb; (try rw [hb]); (try simp only [bb] at hb); (try (exfalso; first | omega | exact hb trivial)))) | (apply endS trivial; rotate_left; (· exact eva); (· rfl); try refine ⟨?_, rfl⟩) | fail)
  (apply EvR.aCall h1.at_; (· exact eva); (· exact  h1.ok _ a b ha hb); (rintro _ _ ⟨rfl, rfl⟩; refine EvR.nrm ?_))
  repeat' (first | refine ff ?_ | ((first | refine sR ?_ ?_ | refine sC ?_ ?_) <;> (intro hb; (try rw [hb]); (try simp only [bb] at hb); (try (exfalso; first | omega | exact hb trivial)))) | (apply endS trivial; rotate_left; (· exact eva); (· rfl); try refine ⟨?_, rfl⟩) | fail)
  all_goals (try rfl)
def finB (x : Nat) : Bool := feq .f32 (fbin .sub .f32 x x) 0
def spec_l01Finite_ok (c : Contract) : Prop := ∀ (σ : Heap) (x : Nat), Ret c [.float .f32 x] σ fun v σ' => v = .bool (finB x) ∧ σ' = σ
theorem spec_l01Finite_law {C : Ctab} : spec_l01Finite_ok (gcC C spec_l01Finite true) := by
  intro σ x
  refine ret_gc rfl rfl ?_
  repeat' (first | refine ff ?_ | ((first | refine sR ?_ ?_ | refine sC ?_ ?_) <;> (intro hb; (try rw [hb]); (try simp only [bb] at hb); (try (exfalso; first | omega | exact hb trivial)))) | (apply endS trivial; rotate_left; (· exact eva); (· rfl); try refine ⟨?_, rfl⟩) | fail)
  all_goals (try rfl)
abbrev spec_IsFinite_ok := spec_l01Finite_ok
theorem spec_IsFinite_law {C : Ctab} {i : FuncId} {c : Contract} (h1 : Has C i c spec_l01Finite_ok) : spec_IsFinite_ok (gcC C (spec_IsFinite i) true) := by
  intro σ x
  refine ret_gc rfl rfl ?_
  repeat' (first | refine ff ?_ | ((first | refine sR ?_ ?_ | refine sC ?_ ?_) <;> (intro hb; (try rw [hb]); (try simp only [bb] at hb); (try (exfalso; first | omega | exact hb trivial)))) | (apply endS trivial; rotate_left; (· exact eva); (· rfl); try refine ⟨?_, rfl⟩) | fail)
  (apply EvR.aCall h1.at_; (· exact eva); (· exact  h1.ok _ x); (rintro _ _ ⟨rfl, rfl⟩; refine EvR.nrm ?_))
  repeat' (first | refine ff ?_ | ((first | refine sR ?_ ?_ | refine sC ?_ ?_) <;> (intro hb; (try rw [hb]); (try simp only [bb] at hb); (try (exfalso; first | omega | exact hb trivial)))) | (apply endS trivial; rotate_left; (· exact eva); (· rfl); try refine ⟨?_, rfl⟩) | fail)
  all_goals (try rfl)
abbrev spec_B10Field_ok := spec_R8Wild_ok
theorem spec_B10Field_law {C : Ctab} {i1 i2 : FuncId} {c1 c2 : Contract} (h1 : Has C i1 c1 spec_l00From_ok) (h2 : HasW C i2 c2 spec_l02DrawField_ok) : spec_B10Field_ok (bodyC C (spec_B10Field i1 i2) true) := by
  intro σ cv code W H wr sv lv sp lo hr hc ⟨r1, r2⟩ hsh
  have k1 := hr.ok
  have k2 := r1.ok
  have k3 := r2.ok
  refine ret_bd rfl rfl ?_
  repeat' (first | refine ff ?_ | ((first | refine sR ?_ ?_ | refine sC ?_ ?_) <;> (intro hb; (try rw [hb]); (try simp only [bb] at hb); (try (exfalso; first | omega | exact hb trivial)))) | (apply endS trivial; rotate_left; (· exact eva); (· rfl); try refine ⟨?_, rfl⟩) | fail)
  (apply EvR.aCall h1.at_; (· exact eva); (· exact  h1.ok _ cv k1); (rintro _ _ ⟨rfl, rfl⟩; refine EvR.nrm ?_))
  repeat' (first | refine ff ?_ | ((first | refine sR ?_ ?_ | refine sC ?_ ?_) <;> (intro hb; (try rw [hb]); (try simp only [bb] at hb); (try (exfalso; first | omega | exact hb trivial)))) | (apply endS trivial; rotate_left; (· exact eva); (· rfl); try refine ⟨?_, rfl⟩) | fail)
  apply EvR.aCall h2.at_; (· exact eva); (· exact h2.ok _ (σ.length + 2) (σ.length + 0) 0 cv code 0 0 W H wr sv lv sp lo ⟨hget _ _ 2, hr.ext _⟩ (PtAt.own rfl) ⟨r1.ext _, r2.ext _⟩ hsh (by omega) (by omega) hc)
  rintro _ _ ⟨f, e, x, y, p', d', rub, hf, lf, u0, u1, rfl, rfl, hN⟩
  simp only [set_app, List.set_cons_succ, List.set_cons_zero, List.append_assoc, List.cons_append, List.nil_append] at hN
  refine EvR.nrm ?_
  repeat' (first | refine ff ?_ | ((first | refine sR ?_ ?_ | refine sC ?_ ?_) <;> (intro hb; (try rw [hb]); (try simp only [bb] at hb); (try (exfalso; first | omega | exact hb trivial)))) | (apply endS trivial; rotate_left; (· exact eva); (· rfl); try refine ⟨?_, rfl⟩) | fail)
  have hl3 : (σ ++ [(⟨[.int .i64 W, .int .i64 H, .bool wr, sv, lv], 0, true⟩ : AObj), ⟨[.slice none 0 0, .slice none 0 0, .slice none 0 0], 0, true⟩, srcO cv 0 0]).length = σ.length + 3 := by simp
  have g : ∀ {A B : AObj} {o : Nat} {z : AObj}, σ.length + 3 ≤ o → (σ ++ (A :: ⟨[.slice none 0 0, .slice none 0 0, .slice none 0 0], 0, true⟩ :: srcO cv p' d' :: rub))[o]? = some z → (σ ++ (A :: B :: srcO cv p' d' :: rub))[o]? = some z := fun {A B o z} h1 h2 => by
    obtain ⟨j, rfl⟩ : ∃ j, o = σ.length + (j + 3) := ⟨o - σ.length - 3, by omega⟩
    rw [hget] at h2 ⊢; exact h2
  have elo := hN.elo
  have ex := hN.ex
  have xy := hN.xy
  try rw [hl3] at elo
  try simp only [List.length_append, List.length_cons, List.length_nil] at elo
  apply endB trivial
  · exact eva
  · exact ⟨f, e, x, y, _, hf, lf, rfl, rfl, ⟨g (by omega) hN.e_, g (by omega) hN.x_, g (by omega) hN.y_, by omega, ex, xy⟩⟩


/-- A number of an old row is written. -/
theorem EvR.stR {C : Ctab} {F : Frame} {τ l0 : Heap} {Q} {n b m i : Nat} {rest : List SOper} {x y : Operand} {a : Nat} {xs : List Nat} (h2 : τ[b]? = some (rowO xs)) (hm : xs.length = m) (hi : i < m) (h1 : eval F x = elemP 1 (slV b m) i) (h3 : eval F y = .float .f32 a)
    (h : EvR C rest F (τ.set b (rowO (xs.set i a)) ++ l0) Q) : EvR C (⟨none, none, .store 1 x y, n⟩ :: rest) F (τ ++ l0) Q := by
  refine EvR.opN (v := undef) (σ' := τ.set b (rowO (xs.set i a)) ++ l0) ?_ h
  have hlt := (List.getElem?_eq_some_iff.1 h2).1
  have e : (τ ++ l0)[b]? = some ⟨f32s xs, 1, true⟩ := by rw [List.getElem?_append_left hlt]; exact h2
  have hp : elemP 1 (slV b m) i = .pointer (some ⟨b, i, some m⟩) := by simp [elemP]
  have := store1_obj (v := .float .f32 a) e (by rw [f32s_length]; exact hm) (by omega) hi rfl
  simp only [evOp, h1, h3, hp, this, Option.map_some]
  rw [List.set_append_left _ _ hlt, f32s_set]
def zs (lo : List Nat) (i : Nat) : List Nat := List.replicate i 0 ++ lo.drop i
theorem zs_length {lo : List Nat} {i : Nat} (h : i ≤ lo.length) : (zs lo i).length = lo.length := by unfold zs; rw [List.length_append, List.length_replicate, List.length_drop]; omega
theorem zs_step {lo : List Nat} {i : Nat} (h : i < lo.length) : (zs lo i).set i 0 = zs lo (i + 1) := by
  unfold zs
  rw [List.drop_eq_getElem_cons h, List.set_append_right _ _ (by simp), List.length_replicate, Nat.sub_self, List.set_cons_zero, List.replicate_succ', List.append_assoc]; rfl
theorem zs_all (lo : List Nat) : zs lo lo.length = List.replicate lo.length 0 := by unfold zs; rw [List.drop_length, List.append_nil]
theorem plain_sheet {w h : Int} {sp lo : List Nat} (hI : isSheet w h sp lo = true) : isSheet w h sp (List.replicate lo.length 0) = true := by
  unfold isSheet at hI ⊢
  simp only [Bool.and_eq_true] at hI ⊢
  obtain ⟨⟨⟨⟨h1, h2⟩, h3⟩, h4⟩, h5⟩ := hI
  exact ⟨⟨⟨⟨h1, h2⟩, by rw [List.length_replicate]; exact h3⟩, h4⟩, List.all_eq_true.2 fun x hx => by rw [(List.mem_replicate.1 hx).2]; exact zero_ok⟩
def spec_B10Plain_ok (c : Contract) : Prop := ∀ (σ : Heap) (cv : Value) (code : List UInt8), Row σ 1 cv code.length (b8s code) → code.length ≤ 1048576 →
    Ret c [cv] σ fun v σ' => ∃ (W H : Nat) (wr : Bool) (sp lo : List Nat) (s l : Nat) (τ : Heap), isSheet W H sp lo = true ∧ in32 sp ∧ in32 lo ∧ v = shV W H wr (slV s sp.length) (slV l lo.length) ∧ σ' = σ ++ τ ∧ ShO σ' σ.length s l sp lo
theorem spec_B10Plain_law {C : Ctab} {i1 i2 : FuncId} {c1 c2 : Contract} (h1 : Has C i1 c1 spec_l00From_ok) (h2 : HasW C i2 c2 spec_l02DrawOk_ok) : spec_B10Plain_ok (bodyC C (spec_B10Plain i1 i2) true) := by
  intro σ cv code hr hc
  have k1 := hr.ok
  refine ret_bd rfl rfl ?_
  repeat' (first | refine ff ?_ | ((first | refine sR ?_ ?_ | refine sC ?_ ?_) <;> (intro hb; (try rw [hb]); (try simp only [bb] at hb); (try (exfalso; first | omega | exact hb trivial)))) | (apply endS trivial; rotate_left; (· exact eva); (· rfl); try refine ⟨?_, rfl⟩) | fail)
  (apply EvR.aCall h1.at_; (· exact eva); (· exact  h1.ok _ cv k1); (rintro _ _ ⟨rfl, rfl⟩; refine EvR.nrm ?_))
  repeat' (first | refine ff ?_ | ((first | refine sR ?_ ?_ | refine sC ?_ ?_) <;> (intro hb; (try rw [hb]); (try simp only [bb] at hb); (try (exfalso; first | omega | exact hb trivial)))) | (apply endS trivial; rotate_left; (· exact eva); (· rfl); try refine ⟨?_, rfl⟩) | fail)
  apply EvR.aCall h2.at_; (· exact eva); (· exact h2.ok _ (σ.length + 1) cv code 0 0 ⟨hget _ _ 1, hr.ext _⟩ (by omega) (by omega) hc)
  rintro _ _ ⟨W, H, wr, sp, lo, s, l, p', d', rub, hI, w1, w2, v0, v1, rfl, rfl, ho⟩
  have hl2 : (σ ++ [(⟨[.int .i64 0, .int .i64 0, .bool false, .slice none 0 0, .slice none 0 0], 0, true⟩ : AObj), srcO cv 0 0]).length = σ.length + 2 := by simp
  rw [hl2] at ho
  refine EvR.base fun T hT => ?_
  rw [← hT] at ho
  rw [set_app, List.append_assoc] at hT
  have hv2 : T[σ.length]? = some ⟨[.int .i64 0, .int .i64 0, .bool false, .slice none 0 0, .slice none 0 0], 0, true⟩ := by rw [hT]; exact hget _ _ 0
  have htk : T.take σ.length = σ := by rw [hT]; exact List.take_left
  clear hT hl2
  have hll := (List.getElem?_eq_some_iff.1 ho.l_).1
  have hss := (List.getElem?_eq_some_iff.1 ho.s_).1
  have hslo := ho.slo
  have hllo := ho.llo
  have hne := ho.ne
  obtain ⟨a1, a2, a3, a4, z1, z2⟩ := isSheet_sides hI
  have hN2 : W * H ≤ 256 := Nat.mul_le_mul (show W ≤ 16 by omega) (show H ≤ 16 by omega)
  have hWH : (W : Int) * (H : Int) = ((W * H : Nat) : Int) := (Int.natCast_mul _ _).symm
  have hlN : lo.length ≤ 256 := by omega
  refine EvR.nrm ?_
  repeat' (first | refine ff ?_ | ((first | refine sR ?_ ?_ | refine sC ?_ ?_) <;> (intro hb; (try rw [hb]); (try simp only [bb] at hb); (try (exfalso; first | omega | exact hb trivial)))) | (apply endS trivial; rotate_left; (· exact eva); (· rfl); try refine ⟨?_, rfl⟩) | fail)
  refine Ev.whlH (S := Nat) (fun i => lo.length - i) (fun i => [(13, .int .i64 i)]) (fun i => T.set l (rowO (zs lo i)) ++ [⟨[.int .i64 W, .int .i64 H, .bool wr, slV s sp.length, slV l lo.length], 0, true⟩]) (fun i => i ≤ lo.length)
    0 (by exact tF) (by rw [show T.set l (rowO (zs lo 0)) = T from by
      obtain ⟨_, he⟩ := List.getElem?_eq_some_iff.1 ho.l_
      rw [show rowO (zs lo 0) = rowO lo from rfl, ← he]; exact List.set_getElem_self hll]) (Nat.zero_le _) ?_
  intro i F hF hi
  try dsimp only at hi hF ⊢
  (simp only [List.cons_append, List.nil_append, ↓fget_cons, fkeep_cons, fkeep_nil, Nat.reduceEqDiff, reduceIte] at hF; subst hF)
  obtain ⟨T1, hT1⟩ : ∃ s, s = T.set l (rowO (zs lo i)) := ⟨_, rfl⟩
  have lT1 : T.length = T1.length := by rw [hT1, List.length_set]
  rw [← hT1, lT1]
  have hr1 : T1[l]? = some (rowO (zs lo i)) := by rw [hT1, List.getElem?_set_self hll]
  by_cases hlt : i < lo.length
  · have rr : Row T1 1 (slV l lo.length) lo.length (f32s (zs lo i)) := Row.whole hr1 (by omega) (by rw [f32s_length, zs_length hi]; omega)
    repeat' (first | refine ff ?_ | ((first | refine sR ?_ ?_ | refine sC ?_ ?_) <;> (intro hb; (try rw [hb]); (try simp only [bb] at hb); (try (exfalso; first | omega | exact hb trivial)))) | (apply endS trivial; rotate_left; (· exact eva); (· rfl); try refine ⟨?_, rfl⟩) | fail)
    refine EvR.stR (i := i) (a := 0) hr1 (zs_length hi) hlt rfl rfl ?_
    repeat' (first | refine ff ?_ | ((first | refine sR ?_ ?_ | refine sC ?_ ?_) <;> (intro hb; (try rw [hb]); (try simp only [bb] at hb); (try (exfalso; first | omega | exact hb trivial)))) | (apply endS trivial; rotate_left; (· exact eva); (· rfl); try refine ⟨?_, rfl⟩) | fail)
    exact ⟨i + 1, by omega, by exact tF, by rw [hT1, List.set_set, zs_step hlt], by omega⟩
  · obtain rfl : i = lo.length := by omega
    repeat' (first | refine ff ?_ | ((first | refine sR ?_ ?_ | refine sC ?_ ?_) <;> (intro hb; (try rw [hb]); (try simp only [bb] at hb); (try (exfalso; first | omega | exact hb trivial)))) | (apply endS trivial; rotate_left; (· exact eva); (· rfl); try refine ⟨?_, rfl⟩) | fail)
    have hv3 : T1[σ.length]? = some ⟨[.int .i64 0, .int .i64 0, .bool false, .slice none 0 0, .slice none 0 0], 0, true⟩ := by rw [hT1, List.getElem?_set_ne (by omega)]; exact hv2
    have hs1 : T1[s]? = some (rowO sp) := by rw [hT1, List.getElem?_set_ne (by omega)]; exact ho.s_
    obtain ⟨X, hX⟩ : ∃ X, T1 = σ ++ (⟨[.int .i64 0, .int .i64 0, .bool false, .slice none 0 0, .slice none 0 0], 0, true⟩ :: X) := by
      obtain ⟨h1, h2⟩ := List.getElem?_eq_some_iff.1 hv3
      refine ⟨T1.drop (σ.length + 1), ?_⟩
      have h3 : T1.take σ.length = σ := by rw [hT1, List.take_set_of_le (by omega)]; exact htk
      conv => lhs; rw [← List.take_append_drop σ.length T1, h3, List.drop_eq_getElem_cons h1, h2]
    have gX : ∀ {o : Nat} {z A : AObj} {Y : Heap}, σ.length + 1 ≤ o → T1[o]? = some z → (σ ++ (A :: (X ++ Y)))[o]? = some z := fun {o z A Y} h1 h2 => by
      obtain ⟨j, rfl⟩ : ∃ j, o = σ.length + (j + 1) := ⟨o - σ.length - 1, by omega⟩
      rw [hX, hget, List.getElem?_cons_succ] at h2
      rw [hget, List.getElem?_cons_succ, List.getElem?_append_left (List.getElem?_eq_some_iff.1 h2).1]
      exact h2
    rw [show T1 ++ [(⟨[.int .i64 W, .int .i64 H, .bool wr, slV s sp.length, slV l lo.length], 0, true⟩ : AObj)] = σ ++ (⟨[.int .i64 0, .int .i64 0, .bool false, .slice none 0 0, .slice none 0 0], 0, true⟩ :: (X ++ [⟨[.int .i64 W, .int .i64 H, .bool wr, slV s sp.length, slV l lo.length], 0, true⟩])) from by rw [hX]; simp]
    refine EvR.nrm ?_
    repeat' (first | refine ff ?_ | ((first | refine sR ?_ ?_ | refine sC ?_ ?_) <;> (intro hb; (try rw [hb]); (try simp only [bb] at hb); (try (exfalso; first | omega | exact hb trivial)))) | (apply endS trivial; rotate_left; (· exact eva); (· rfl); try refine ⟨?_, rfl⟩) | fail)
    apply endB trivial
    · exact eva
    · exact ⟨W, H, wr, sp, zs lo lo.length, s, l, _, by rw [zs_all]; exact plain_sheet hI, w1, fun x hx => by rw [zs_all] at hx; rw [(List.mem_replicate.1 hx).2]; omega, by rw [zs_length (Nat.le_refl _)], rfl, ⟨gX (by omega) hs1, gX (by omega) hr1, by omega, by omega, hne⟩⟩
end Go.Abs

