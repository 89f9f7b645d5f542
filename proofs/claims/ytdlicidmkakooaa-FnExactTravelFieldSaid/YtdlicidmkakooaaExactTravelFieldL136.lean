/- Laws of functions: the turns of waves and of modes. Conditions: the laws of what they call. -/
import Derived.Test.YtdlicidmkakooaaExactTravelFieldL135
import Derived.Test.YtdlicidmkakooaaExactTravelFieldL07
namespace Go.Abs

set_option linter.unusedSimpArgs false
set_option linter.unusedVariables false
set_option maxHeartbeats 8000000
set_option maxRecDepth 20000
/- loop.example/g01201/impl.turnsBy -/
def impl_turnsBy_r0 : List SOper := [
 ⟨some 6, none, .mov (.const (.float .f32 0)), 0⟩]
def impl_turnsBy_r1 (i_impl_SineTurns : FuncId) : List SOper := [
 ⟨some 10, none, .mov (.tmp 0), 0⟩,
 ⟨some 11, none, .call (.func i_impl_SineTurns) [(.tmp 10)], 1⟩,
 ⟨some 12, none, .mov (.tmp 1), 0⟩,
 ⟨some 13, none, .call (.func i_impl_SineTurns) [(.tmp 12)], 7⟩,
 ⟨some 7, none, .mov (.tmp 11), 15⟩,
 ⟨some 8, none, .mov (.tmp 13), 31⟩]
def impl_turnsBy_r2 : List SOper := [
 ⟨some 14, none, .mov (.tmp 2), 0⟩,
 ⟨some 15, none, .bin .mul .other (.const (.float .f32 1056964608)) (.tmp 14), 1⟩,
 ⟨some 16, none, .mov (.tmp 7), 0⟩,
 ⟨some 17, none, .mov (.tmp 7), 0⟩,
 ⟨some 18, none, .bin .mul .other (.tmp 16) (.tmp 17), 12⟩,
 ⟨some 19, none, .mov (.tmp 8), 0⟩,
 ⟨some 20, none, .mov (.tmp 8), 0⟩,
 ⟨some 21, none, .bin .mul .other (.tmp 19) (.tmp 20), 96⟩,
 ⟨some 22, none, .bin .add .other (.tmp 18) (.tmp 21), 252⟩,
 ⟨some 23, none, .bin .mul .other (.tmp 15) (.tmp 22), 511⟩,
 ⟨some 9, none, .mov (.tmp 23), 1023⟩]
def impl_turnsBy_r3 (i_impl_RootNumber i_impl_AngleTurns : FuncId) : List SOper := [
 ⟨some 24, none, .mov (.tmp 9), 0⟩,
 ⟨some 25, none, .call (.func i_impl_RootNumber) [(.tmp 24)], 1⟩,
 ⟨some 26, none, .mov (.tmp 9), 0⟩,
 ⟨some 27, none, .bin .sub .other (.const (.float .f32 1065353216)) (.tmp 26), 4⟩,
 ⟨some 28, none, .call (.func i_impl_RootNumber) [(.tmp 27)], 15⟩,
 ⟨some 29, none, .call (.func i_impl_AngleTurns) [(.tmp 25), (.tmp 28)], 31⟩,
 ⟨some 30, none, .bin .mul .other (.const (.float .f32 1073741824)) (.tmp 29), 63⟩,
 ⟨some 6, none, .mov (.tmp 30), 127⟩]
def impl_turnsBy (i_impl_SineTurns i_impl_RootNumber i_impl_AngleTurns : FuncId) : SFunc := ⟨31, [.tmp 6], (.kp [0,1,2] (.seq (.region impl_turnsBy_r0 false) (.kp [0,1,2] (.seq (.region (impl_turnsBy_r1 i_impl_SineTurns) false) (.kp [2,7,8] (.seq (.region impl_turnsBy_r2 false) (.kp [9] (.seq (.region (impl_turnsBy_r3 i_impl_RootNumber i_impl_AngleTurns) false) .ret))))))))⟩

/- loop.example/g01201/spec.l08Swing -/
def spec_l08Swing_r0 : List SOper := [
 ⟨some 6, none, .mov (.const (.float .f32 0)), 0⟩]
def spec_l08Swing_r1 : List SOper := [
 ⟨some 8, none, .mov (.tmp 2), 0⟩,
 ⟨some 9, none, .bin .mul .other (.const (.float .f32 1056964608)) (.tmp 8), 1⟩,
 ⟨some 10, none, .mov (.tmp 0), 0⟩,
 ⟨some 11, none, .mov (.tmp 0), 0⟩,
 ⟨some 12, none, .bin .mul .other (.tmp 10) (.tmp 11), 12⟩,
 ⟨some 13, none, .mov (.tmp 1), 0⟩,
 ⟨some 14, none, .mov (.tmp 1), 0⟩,
 ⟨some 15, none, .bin .mul .other (.tmp 13) (.tmp 14), 96⟩,
 ⟨some 16, none, .bin .add .other (.tmp 12) (.tmp 15), 252⟩,
 ⟨some 17, none, .bin .mul .other (.tmp 9) (.tmp 16), 511⟩,
 ⟨some 7, none, .mov (.tmp 17), 1023⟩]
def spec_l08Swing_r2 (i_spec_l01Sqrt i_spec_l01Angle : FuncId) : List SOper := [
 ⟨some 18, none, .mov (.tmp 7), 0⟩,
 ⟨some 19, none, .call (.func i_spec_l01Sqrt) [(.tmp 18)], 1⟩,
 ⟨some 20, none, .mov (.tmp 7), 0⟩,
 ⟨some 21, none, .bin .sub .other (.const (.float .f32 1065353216)) (.tmp 20), 4⟩,
 ⟨some 22, none, .call (.func i_spec_l01Sqrt) [(.tmp 21)], 15⟩,
 ⟨some 23, none, .call (.func i_spec_l01Angle) [(.tmp 19), (.tmp 22)], 31⟩,
 ⟨some 24, none, .bin .mul .other (.const (.float .f32 1073741824)) (.tmp 23), 63⟩,
 ⟨some 6, none, .mov (.tmp 24), 127⟩]
def spec_l08Swing (i_spec_l01Sqrt i_spec_l01Angle : FuncId) : SFunc := ⟨25, [.tmp 6], (.kp [0,1,2] (.seq (.region spec_l08Swing_r0 false) (.kp [0,1,2] (.seq (.region spec_l08Swing_r1 false) (.kp [7] (.seq (.region (spec_l08Swing_r2 i_spec_l01Sqrt i_spec_l01Angle) false) .ret))))))⟩

/- loop.example/g01201/impl.travelTurns -/
def impl_travelTurns_r0 : List SOper := [
 ⟨some 10, none, .mov (.const (.float .f32 0)), 0⟩]
def impl_travelTurns_r1 (i_impl_quotient i_impl_turnsBy : FuncId) : List SOper := [
 ⟨some 11, none, .mov (.tmp 2), 0⟩,
 ⟨some 12, none, .mov (.tmp 0), 0⟩,
 ⟨some 13, none, .bin .mul .other (.const (.int .i64 2)) (.tmp 12), 2⟩,
 ⟨some 14, none, .call (.func i_impl_quotient) [(.tmp 11), (.tmp 13)], 7⟩,
 ⟨some 15, none, .mov (.tmp 3), 0⟩,
 ⟨some 16, none, .mov (.tmp 1), 0⟩,
 ⟨some 17, none, .bin .mul .other (.const (.int .i64 2)) (.tmp 16), 32⟩,
 ⟨some 18, none, .call (.func i_impl_quotient) [(.tmp 15), (.tmp 17)], 127⟩,
 ⟨some 19, none, .mov (.tmp 4), 0⟩,
 ⟨some 20, none, .call (.func i_impl_turnsBy) [(.tmp 14), (.tmp 18), (.tmp 19)], 511⟩,
 ⟨some 10, none, .mov (.tmp 20), 1023⟩]
def impl_travelTurns (i_impl_quotient i_impl_turnsBy : FuncId) : SFunc := ⟨21, [.tmp 10], (.kp [0,1,2,3,4] (.seq (.region impl_travelTurns_r0 false) (.kp [0,1,2,3,4] (.seq (.region (impl_travelTurns_r1 i_impl_quotient i_impl_turnsBy) false) .ret))))⟩

/- loop.example/g01201/spec.l08Share -/
def spec_l08Share_r0 : List SOper := [
 ⟨some 4, none, .mov (.const (.float .f32 0)), 0⟩]
def spec_l08Share_r1 (i_spec_l01Sine : FuncId) : List SOper := [
 ⟨some 5, none, .mov (.tmp 0), 0⟩,
 ⟨some 6, none, .conv (.toFloat .f32) (.tmp 5), 1⟩,
 ⟨some 7, none, .mov (.tmp 1), 0⟩,
 ⟨some 8, none, .conv (.toFloat .f32) (.tmp 7), 4⟩,
 ⟨some 9, none, .bin .quo .other (.tmp 6) (.tmp 8), 15⟩,
 ⟨some 10, none, .call (.func i_spec_l01Sine) [(.tmp 9)], 31⟩,
 ⟨some 4, none, .mov (.tmp 10), 63⟩]
def spec_l08Share (i_spec_l01Sine : FuncId) : SFunc := ⟨11, [.tmp 4], (.kp [0,1] (.seq (.region spec_l08Share_r0 false) (.kp [0,1] (.seq (.region (spec_l08Share_r1 i_spec_l01Sine) false) .ret))))⟩

/- loop.example/g01201/spec.l08Travel -/
def spec_l08Travel_r0 : List SOper := [
 ⟨some 10, none, .mov (.const (.float .f32 0)), 0⟩]
def spec_l08Travel_r1 (i_spec_l08Share : FuncId) : List SOper := [
 ⟨some 12, none, .mov (.tmp 2), 0⟩,
 ⟨some 13, none, .mov (.tmp 0), 0⟩,
 ⟨some 14, none, .bin .mul .other (.const (.int .i64 2)) (.tmp 13), 2⟩,
 ⟨some 15, none, .call (.func i_spec_l08Share) [(.tmp 12), (.tmp 14)], 7⟩,
 ⟨some 11, none, .mov (.tmp 15), 15⟩]
def spec_l08Travel_r2 (i_spec_l08Share i_spec_l08Swing : FuncId) : List SOper := [
 ⟨some 16, none, .mov (.tmp 11), 0⟩,
 ⟨some 17, none, .mov (.tmp 3), 0⟩,
 ⟨some 18, none, .mov (.tmp 1), 0⟩,
 ⟨some 19, none, .bin .mul .other (.const (.int .i64 2)) (.tmp 18), 4⟩,
 ⟨some 20, none, .call (.func i_spec_l08Share) [(.tmp 17), (.tmp 19)], 14⟩,
 ⟨some 21, none, .mov (.tmp 4), 0⟩,
 ⟨some 22, none, .call (.func i_spec_l08Swing) [(.tmp 16), (.tmp 20), (.tmp 21)], 63⟩,
 ⟨some 10, none, .mov (.tmp 22), 127⟩]
def spec_l08Travel (i_spec_l08Share i_spec_l08Swing : FuncId) : SFunc := ⟨23, [.tmp 10], (.kp [0,1,2,3,4] (.seq (.region spec_l08Travel_r0 false) (.kp [0,1,2,3,4] (.seq (.region (spec_l08Travel_r1 i_spec_l08Share) false) (.kp [1,3,4,11] (.seq (.region (spec_l08Travel_r2 i_spec_l08Share i_spec_l08Swing) false) .ret))))))⟩

/- loop.example/g01201/impl.areOrders -/
def impl_areOrders_r0 : List SOper := [
 ⟨some 4, none, .mov (.const (.bool false)), 0⟩]
def impl_areOrders_r1 (i_impl_within : FuncId) : List SOper := [
 ⟨some 5, none, .mov (.tmp 0), 0⟩,
 ⟨some 6, none, .call (.func i_impl_within) [(.tmp 5), (.const (.int .i64 (-8))), (.const (.int .i64 8))], 1⟩,
 ⟨some 7, none, .mov (.tmp 6), 3⟩,
  ⟨(some 8), (some (7, true)), .mov (.tmp 1), 7⟩,
  ⟨(some 9), (some (7, true)), .call (.func i_impl_within) [(.tmp 8), (.const (.int .i64 (-8))), (.const (.int .i64 8))], 15⟩,
 ⟨some 10, none, .pick (.tmp 7) (.tmp 9) (.const (.bool false)), 31⟩,
 ⟨some 11, none, .mov (.tmp 10), 63⟩,
  ⟨(some 12), (some (11, true)), .mov (.tmp 0), 127⟩,
  ⟨(some 13), (some (11, true)), .bin .neq .other (.tmp 12) (.const (.int .i64 0)), 255⟩,
  ⟨(some 14), (some (11, true)), .mov (.tmp 13), 511⟩,
  ⟨(some 15), (some (14, false)), .mov (.tmp 1), 1023⟩,
  ⟨(some 16), (some (14, false)), .bin .neq .other (.tmp 15) (.const (.int .i64 0)), 2047⟩,
  ⟨(some 17), (some (11, true)), .pick (.tmp 14) (.const (.bool true)) (.tmp 16), 4095⟩,
 ⟨some 18, none, .pick (.tmp 11) (.tmp 17) (.const (.bool false)), 8191⟩,
 ⟨some 4, none, .mov (.tmp 18), 16383⟩]
def impl_areOrders (i_impl_within : FuncId) : SFunc := ⟨19, [.tmp 4], (.kp [0,1] (.seq (.region impl_areOrders_r0 false) (.kp [0,1] (.seq (.region (impl_areOrders_r1 i_impl_within) false) .ret))))⟩

/- loop.example/g01201/spec.l08Travels -/
def spec_l08Travels_r0 : List SOper := [
 ⟨some 4, none, .mov (.const (.bool false)), 0⟩]
def spec_l08Travels_r1 (i_spec_l00In : FuncId) : List SOper := [
 ⟨some 5, none, .mov (.tmp 0), 0⟩,
 ⟨some 6, none, .call (.func i_spec_l00In) [(.tmp 5), (.const (.int .i64 (-8))), (.const (.int .i64 8))], 1⟩,
 ⟨some 7, none, .mov (.tmp 6), 3⟩,
  ⟨(some 8), (some (7, true)), .mov (.tmp 1), 7⟩,
  ⟨(some 9), (some (7, true)), .call (.func i_spec_l00In) [(.tmp 8), (.const (.int .i64 (-8))), (.const (.int .i64 8))], 15⟩,
 ⟨some 10, none, .pick (.tmp 7) (.tmp 9) (.const (.bool false)), 31⟩,
 ⟨some 11, none, .mov (.tmp 10), 63⟩,
  ⟨(some 12), (some (11, true)), .mov (.tmp 0), 127⟩,
  ⟨(some 13), (some (11, true)), .bin .neq .other (.tmp 12) (.const (.int .i64 0)), 255⟩,
  ⟨(some 14), (some (11, true)), .mov (.tmp 13), 511⟩,
  ⟨(some 15), (some (14, false)), .mov (.tmp 1), 1023⟩,
  ⟨(some 16), (some (14, false)), .bin .neq .other (.tmp 15) (.const (.int .i64 0)), 2047⟩,
  ⟨(some 17), (some (11, true)), .pick (.tmp 14) (.const (.bool true)) (.tmp 16), 4095⟩,
 ⟨some 18, none, .pick (.tmp 11) (.tmp 17) (.const (.bool false)), 8191⟩,
 ⟨some 4, none, .mov (.tmp 18), 16383⟩]
def spec_l08Travels (i_spec_l00In : FuncId) : SFunc := ⟨19, [.tmp 4], (.kp [0,1] (.seq (.region spec_l08Travels_r0 false) (.kp [0,1] (.seq (.region (spec_l08Travels_r1 i_spec_l00In) false) .ret))))⟩

/-- How much a wave turns in a step, by the sines of its halves. -/
def swingW (u v c : Nat) : Nat := fbin .mul .f32 (fbin .mul .f32 1056964608 c) (fbin .add .f32 (fbin .mul .f32 u u) (fbin .mul .f32 v v))
def swingT (u v c : Nat) : Nat := fbin .mul .f32 1073741824 (angT (rootT (swingW u v c)) (rootT (fbin .sub .f32 1065353216 (swingW u v c))))
def shareT (a b : Int) : Nat := sinT (quot32 a b)
def impl_turnsBy_ok (c : Contract) : Prop := ∀ (σ : Heap) (a b s : Nat), Ret c [.float .f32 a, .float .f32 b, .float .f32 s] σ fun v σ' => v = .float .f32 (swingT (sinT a) (sinT b) s) ∧ σ' = σ
theorem impl_turnsBy_law {C : Ctab} {i1 i2 i3 : FuncId} {c1 c2 c3 : Contract} (h1 : Has C i1 c1 impl_SineTurns_ok) (h2 : Has C i2 c2 impl_RootNumber_ok) (h3 : Has C i3 c3 impl_AngleTurns_ok) : impl_turnsBy_ok (gcC C (impl_turnsBy i1 i2 i3) true) := by
  intro σ a b s
  unfold swingT swingW
  refine ret_gc rfl rfl ?_
  repeat' (first | refine ff ?_ | (apply EvR.aCall h1.at_; (· exact eva); (· apply h1.ok <;> exact sid); (rintro _ _ ⟨rfl, rfl⟩; refine EvR.nrm ?_)) | (apply EvR.aCall h2.at_; (· exact eva); (· apply h2.ok <;> exact sid); (rintro _ _ ⟨rfl, rfl⟩; refine EvR.nrm ?_)) | (apply EvR.aCall h3.at_; (· exact eva); (· apply h3.ok <;> exact sid); (rintro _ _ ⟨rfl, rfl⟩; refine EvR.nrm ?_)) | ((first | refine sR ?_ ?_ | refine sC ?_ ?_) <;> (intro hb; (try rw [hb]); (try simp only [bb] at hb); (try (exfalso; first | omega | exact hb trivial)))) | (apply endS trivial; rotate_left; (· exact eva); (· rfl); try refine ⟨?_, rfl⟩) | fail)
  all_goals (try rfl)
def spec_l08Swing_ok (c : Contract) : Prop := ∀ (σ : Heap) (a b s : Nat), Ret c [.float .f32 a, .float .f32 b, .float .f32 s] σ fun v σ' => v = .float .f32 (swingT a b s) ∧ σ' = σ
theorem spec_l08Swing_law {C : Ctab} {i2 i3 : FuncId} {c2 c3 : Contract} (h2 : Has C i2 c2 spec_l01Sqrt_ok) (h3 : Has C i3 c3 spec_l01Angle_ok) : spec_l08Swing_ok (gcC C (spec_l08Swing i2 i3) true) := by
  intro σ a b s
  unfold swingT swingW
  refine ret_gc rfl rfl ?_
  repeat' (first | refine ff ?_ | (apply EvR.aCall h2.at_; (· exact eva); (· apply h2.ok <;> exact sid); (rintro _ _ ⟨rfl, rfl⟩; refine EvR.nrm ?_)) | (apply EvR.aCall h3.at_; (· exact eva); (· apply h3.ok <;> exact sid); (rintro _ _ ⟨rfl, rfl⟩; refine EvR.nrm ?_)) | ((first | refine sR ?_ ?_ | refine sC ?_ ?_) <;> (intro hb; (try rw [hb]); (try simp only [bb] at hb); (try (exfalso; first | omega | exact hb trivial)))) | (apply endS trivial; rotate_left; (· exact eva); (· rfl); try refine ⟨?_, rfl⟩) | fail)
  all_goals (try rfl)
def spec_l08Share_ok (c : Contract) : Prop := ∀ (σ : Heap) (a b : Int), Ret c [.int .i64 a, .int .i64 b] σ fun v σ' => v = .float .f32 (shareT a b) ∧ σ' = σ
theorem spec_l08Share_law {C : Ctab} {i2 : FuncId} {c2 : Contract} (h2 : Has C i2 c2 spec_l01Sine_ok) : spec_l08Share_ok (gcC C (spec_l08Share i2) true) := by
  intro σ a b
  unfold shareT quot32
  refine ret_gc rfl rfl ?_
  repeat' (first | refine ff ?_ | (apply EvR.aCall h2.at_; (· exact eva); (· apply h2.ok <;> exact sid); (rintro _ _ ⟨rfl, rfl⟩; refine EvR.nrm ?_)) | ((first | refine sR ?_ ?_ | refine sC ?_ ?_) <;> (intro hb; (try rw [hb]); (try simp only [bb] at hb); (try (exfalso; first | omega | exact hb trivial)))) | (apply endS trivial; rotate_left; (· exact eva); (· rfl); try refine ⟨?_, rfl⟩) | fail)
  all_goals (try rfl)
/-- How much a wave that travels turns in a step. -/
def travT (w h m n : Int) (s : Nat) : Nat := swingT (shareT m (2 * w)) (shareT n (2 * h)) s
abbrev travT_ok (c : Contract) : Prop := ∀ (σ : Heap) (w h m n : Int) (s : Nat), 3 ≤ w → w ≤ 16 → 3 ≤ h → h ≤ 16 → Ret c [.int .i64 w, .int .i64 h, .int .i64 m, .int .i64 n, .float .f32 s] σ fun v σ' => v = .float .f32 (travT w h m n s) ∧ σ' = σ
abbrev impl_travelTurns_ok := travT_ok
abbrev spec_l08Travel_ok := travT_ok
theorem impl_travelTurns_law {C : Ctab} {i1 i2 : FuncId} {c1 c2 : Contract} (h1 : Has C i1 c1 impl_quotient_ok) (h2 : Has C i2 c2 impl_turnsBy_ok) : impl_travelTurns_ok (gcC C (impl_travelTurns i1 i2) true) := by
  intro σ w h m n s g1 g2 g3 g4
  unfold travT shareT
  refine ret_gc rfl rfl ?_
  repeat' (first | refine ff ?_ | (apply EvR.aCall h1.at_; (· exact eva); (· apply h1.ok <;> exact sid); (rintro _ _ ⟨rfl, rfl⟩; refine EvR.nrm ?_)) | (apply EvR.aCall h2.at_; (· exact eva); (· apply h2.ok <;> exact sid); (rintro _ _ ⟨rfl, rfl⟩; refine EvR.nrm ?_)) | ((first | refine sR ?_ ?_ | refine sC ?_ ?_) <;> (intro hb; (try rw [hb]); (try simp only [bb] at hb); (try (exfalso; first | omega | exact hb trivial)))) | (apply endS trivial; rotate_left; (· exact eva); (· rfl); try refine ⟨?_, rfl⟩) | fail)
  all_goals (try rfl)
theorem spec_l08Travel_law {C : Ctab} {i1 i2 : FuncId} {c1 c2 : Contract} (h1 : Has C i1 c1 spec_l08Share_ok) (h2 : Has C i2 c2 spec_l08Swing_ok) : spec_l08Travel_ok (gcC C (spec_l08Travel i1 i2) true) := by
  intro σ w h m n s g1 g2 g3 g4
  unfold travT
  refine ret_gc rfl rfl ?_
  repeat' (first | refine ff ?_ | (apply EvR.aCall h1.at_; (· exact eva); (· apply h1.ok <;> exact sid); (rintro _ _ ⟨rfl, rfl⟩; refine EvR.nrm ?_)) | (apply EvR.aCall h2.at_; (· exact eva); (· apply h2.ok <;> exact sid); (rintro _ _ ⟨rfl, rfl⟩; refine EvR.nrm ?_)) | ((first | refine sR ?_ ?_ | refine sC ?_ ?_) <;> (intro hb; (try rw [hb]); (try simp only [bb] at hb); (try (exfalso; first | omega | exact hb trivial)))) | (apply endS trivial; rotate_left; (· exact eva); (· rfl); try refine ⟨?_, rfl⟩) | fail)
  all_goals (try rfl)
/-- Orders of a wave that travels. -/
def ordB (m n : Int) : Bool := inR m (-8) 8 && inR n (-8) 8 && (m != 0 || n != 0)
end Go.Abs

