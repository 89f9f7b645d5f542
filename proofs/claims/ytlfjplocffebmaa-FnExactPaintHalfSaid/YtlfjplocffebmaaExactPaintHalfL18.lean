/- Laws of functions: half planes are painted, by the program and by the reference. Conditions: the laws of what they call. -/
import Derived.Test.YtlfjplocffebmaaExactPaintHalfL17
namespace Go.Abs

set_option linter.unusedSimpArgs false
set_option linter.unusedVariables false
set_option maxHeartbeats 8000000
/- loop.example/g01201/impl.PaintHalf -/
def impl_PaintHalf_r0 : List SOper := [
  ⟨(some 5), none, .box (.tmp 0), 0⟩,
  ⟨(some 6), none, .box (.tmp 1), 0⟩,
  ⟨(some 7), none, .box (.tmp 2), 0⟩,
  ⟨(some 8), none, .box (.tmp 3), 0⟩,
  ⟨(some 9), none, .box (.tmp 4), 0⟩,
  ⟨(some 10), none, .alloc [(.int .i64 0), (.int .i64 0), (.bool false), (.slice none 0 0), (.slice none 0 0)], 0⟩,
  ⟨(some 11), none, .mov (.const (.bool false)), 0⟩]
def impl_PaintHalf_r1 (i_impl_areOther : FuncId) : List SOper := [
  ⟨(some 12), none, .load1 (.tmp 6), 0⟩,
  ⟨(some 13), none, .load1 (.tmp 7), 0⟩,
  ⟨(some 14), none, .load1 (.tmp 8), 0⟩,
  ⟨(some 15), none, .buildSlice 1 3 [(.int .i64 0), (.int .i64 0), (.int .i64 0)] [(0, 1, (.tmp 12)), (1, 1, (.tmp 13)), (2, 1, (.tmp 14))], 7⟩,
  ⟨(some 16), none, .call (.func i_impl_areOther) [(.tmp 15)], 15⟩,
  ⟨(some 17), none, .un .not (.tmp 16), 31⟩]
def impl_PaintHalf_r2 : List SOper := [
  ⟨(some 18), none, .build [(.int .i64 0), (.int .i64 0), (.bool false), (.slice none 0 0), (.slice none 0 0)] [], 0⟩,
  ⟨none, none, .store 5 (.tmp 10) (.tmp 18), 1⟩,
  ⟨(some 11), none, .mov (.const (.bool false)), 3⟩]
def impl_PaintHalf_r3 (i_impl_PaintHalfC1 i_impl_painted : FuncId) : List SOper := [
  ⟨(some 19), none, .loadN 5 (.tmp 5), 0⟩,
  ⟨(some 20), none, .loadN 2 (.tmp 9), 0⟩,
  ⟨(some 21), none, .makeFunc i_impl_PaintHalfC1 [] [(.tmp 6), (.tmp 7), (.tmp 8)], 0⟩,
  ⟨(some 22), none, .call (.func i_impl_painted) [(.tmp 19), (.tmp 20), (.tmp 21)], 7⟩,
  ⟨(some 23), none, .extract (.tmp 22) 0, 15⟩,
  ⟨(some 24), none, .extract (.tmp 22) 1, 15⟩,
  ⟨none, none, .store 5 (.tmp 10) (.tmp 23), 63⟩,
  ⟨(some 11), none, .mov (.tmp 24), 127⟩]
def impl_PaintHalf (i_impl_areOther i_impl_PaintHalfC1 i_impl_painted : FuncId) : SFunc := ⟨25, [.cellN 10 5, .tmp 11], (.kp [0, 1, 2, 3, 4] (.seq (.region impl_PaintHalf_r0 false) (.kp [5, 6, 7, 8, 9, 10] (.seq (.seq (.region (impl_PaintHalf_r1 i_impl_areOther) false) (.kp [5, 6, 7, 8, 9, 10, 17] (.cond (.tmp 17) (.seq (.region impl_PaintHalf_r2 false) .ret) .skip))) (.kp [5, 6, 7, 8, 9, 10] (.seq (.region (impl_PaintHalf_r3 i_impl_PaintHalfC1 i_impl_painted) false) .ret))))))⟩

/- loop.example/g01201/spec.l09Small -/
def spec_l09Small_r0 : List SOper := [
  ⟨(some 2), none, .mov (.const (.bool false)), 0⟩]
def spec_l09Small_r1 (i_spec_l00In : FuncId) : List SOper := [
  ⟨(some 3), none, .mov (.tmp 0), 0⟩,
  ⟨(some 4), none, .call (.func i_spec_l00In) [(.tmp 3), (.const (.int .i64 (-1000))), (.const (.int .i64 1000))], 1⟩,
  ⟨(some 2), none, .mov (.tmp 4), 3⟩]
def spec_l09Small (i_spec_l00In : FuncId) : SFunc := ⟨5, [.tmp 2], (.kp [0] (.seq (.region spec_l09Small_r0 false) (.kp [0] (.seq (.region (spec_l09Small_r1 i_spec_l00In) false) .ret))))⟩

/- loop.example/g01201/spec.l09Cells -/
def spec_l09Cells_r0 : List SOper := [
  ⟨(some 6), none, .alloc [(.int .i64 0), (.int .i64 0), (.bool false), (.slice none 0 0), (.slice none 0 0)], 0⟩]
def spec_l09Cells_r1 (i_spec_l05Own : FuncId) : List SOper := [
  ⟨(some 9), none, .mov (.tmp 0), 0⟩,
  ⟨(some 10), none, .call (.func i_spec_l05Own) [(.tmp 9)], 1⟩,
  ⟨(some 7), none, .alloc [(.int .i64 0), (.int .i64 0), (.bool false), (.slice none 0 0), (.slice none 0 0)], 0⟩,
  ⟨none, none, .store 5 (.tmp 7) (.tmp 10), 7⟩]
def spec_l09Cells_r2 : List SOper := [
  ⟨(some 11), none, .mov (.tmp 1), 0⟩,
  ⟨(some 12), none, .len false (.tmp 11), 1⟩,
  ⟨(some 13), none, .mov (.const (.int .i64 0)), 0⟩]
def spec_l09Cells_r3 : List SOper := [
  ⟨(some 14), none, .bin .lss .other (.tmp 13) (.tmp 12), 0⟩]
def spec_l09Cells_r4 : List SOper := [
  ⟨(some 15), none, .mov (.tmp 13), 0⟩,
  ⟨(some 8), none, .mov (.tmp 15), 1⟩]
def spec_l09Cells_r5 : List SOper := [
  ⟨(some 16), none, .mov (.tmp 1), 0⟩,
  ⟨(some 17), none, .mov (.tmp 8), 0⟩,
  ⟨(some 18), none, .indexAddrS 1 (.tmp 16) (.tmp 17), 3⟩,
  ⟨(some 19), none, .load1 (.tmp 18), 7⟩]
def spec_l09Cells_r6 : List SOper := [
  ⟨(some 20), none, .fieldAddr 3 (.tmp 7), 0⟩,
  ⟨(some 21), none, .load1 (.tmp 20), 1⟩,
  ⟨(some 22), none, .mov (.tmp 8), 0⟩,
  ⟨(some 23), none, .mov (.tmp 2), 0⟩,
  ⟨(some 24), none, .nilCheck (.tmp 23), 8⟩,
  ⟨(some 25), none, .fieldAddr 0 (.tmp 24), 24⟩,
  ⟨(some 26), none, .load1 (.tmp 25), 56⟩,
  ⟨(some 27), none, .indexAddrS 1 (.tmp 21) (.tmp 22), 127⟩,
  ⟨none, none, .store 1 (.tmp 27) (.tmp 26), 255⟩]
def spec_l09Cells_r7 : List SOper := [
  ⟨(some 28), none, .fieldAddr 4 (.tmp 7), 0⟩,
  ⟨(some 29), none, .load1 (.tmp 28), 1⟩,
  ⟨(some 30), none, .mov (.tmp 8), 0⟩,
  ⟨(some 31), none, .mov (.tmp 2), 0⟩,
  ⟨(some 32), none, .nilCheck (.tmp 31), 8⟩,
  ⟨(some 33), none, .fieldAddr 1 (.tmp 32), 24⟩,
  ⟨(some 34), none, .load1 (.tmp 33), 56⟩,
  ⟨(some 35), none, .indexAddrS 1 (.tmp 29) (.tmp 30), 127⟩,
  ⟨none, none, .store 1 (.tmp 35) (.tmp 34), 255⟩]
def spec_l09Cells_r8 : List SOper := [
  ⟨(some 36), none, .bin .add .other (.tmp 13) (.const (.int .i64 1)), 0⟩,
  ⟨(some 13), none, .mov (.tmp 36), 1⟩]
def spec_l09Cells_l9 : SCode := (.kp [1, 2, 6, 7, 12, 13] (.seq (.region spec_l09Cells_r3 false) (.kp [1, 2, 6, 7, 12, 13, 14] (.seq (.cond (.tmp 14) .skip (.exit 0)) (.kp [1, 2, 6, 7, 12, 13] (.seq (.block 1 (.seq (.region spec_l09Cells_r4 false) (.kp [1, 2, 6, 7, 8, 12, 13] (.seq (.region spec_l09Cells_r5 false) (.kp [1, 2, 6, 7, 8, 12, 13, 19] (.cond (.tmp 19) (.seq (.region spec_l09Cells_r6 true) (.kp [1, 2, 6, 7, 8, 12, 13] (.region spec_l09Cells_r7 true))) .skip)))))) (.kp [1, 2, 6, 7, 12, 13] (.region spec_l09Cells_r8 false))))))))
def spec_l09Cells_r10 : List SOper := [
  ⟨(some 37), none, .loadN 5 (.tmp 7), 0⟩,
  ⟨none, none, .store 5 (.tmp 6) (.tmp 37), 1⟩]
def spec_l09Cells (i_spec_l05Own : FuncId) : SFunc := ⟨38, [.cellN 6 5], (.kp [0, 1, 2] (.seq (.region spec_l09Cells_r0 false) (.kp [0, 1, 2, 6] (.seq (.region (spec_l09Cells_r1 i_spec_l05Own) false) (.kp [1, 2, 6, 7] (.seq (.seq (.region spec_l09Cells_r2 false) (.kp [1, 2, 6, 7, 12, 13] (.block 0 (.loop spec_l09Cells_l9)))) (.kp [6, 7] (.seq (.region spec_l09Cells_r10 false) .ret))))))))⟩
theorem spec_l09Cells_r6_dr : drawOkW wStat spec_l09Cells_r6 = true := by kernel_rfl
attribute [push_cast] spec_l09Cells_r6_dr
theorem spec_l09Cells_r7_dr : drawOkW wStat spec_l09Cells_r7 = true := by kernel_rfl
attribute [push_cast] spec_l09Cells_r7_dr
/- loop.example/g01201/spec.PaintHalf -/
def spec_PaintHalf_r0 : List SOper := [
  ⟨(some 5), none, .box (.tmp 0), 0⟩,
  ⟨(some 9), none, .box (.tmp 4), 0⟩,
  ⟨(some 10), none, .alloc [(.int .i64 0), (.int .i64 0), (.bool false), (.slice none 0 0), (.slice none 0 0)], 0⟩,
  ⟨(some 11), none, .mov (.const (.bool false)), 0⟩]
def spec_PaintHalf_r1 (i_spec_l02Is i_spec_l09Small i_spec_l09Is : FuncId) : List SOper := [
  ⟨(some 14), none, .call (.func i_spec_l02Is) [(.tmp 5)], 0⟩,
  ⟨(some 15), none, .un .not (.tmp 14), 1⟩,
  ⟨(some 16), none, .mov (.tmp 15), 3⟩,
  ⟨(some 17), (some (16, false)), .mov (.tmp 1), 7⟩,
  ⟨(some 18), (some (16, false)), .call (.func i_spec_l09Small) [(.tmp 17)], 15⟩,
  ⟨(some 19), (some (16, false)), .un .not (.tmp 18), 31⟩,
  ⟨(some 20), none, .pick (.tmp 16) (.const (.bool true)) (.tmp 19), 63⟩,
  ⟨(some 21), none, .mov (.tmp 20), 127⟩,
  ⟨(some 22), (some (21, false)), .mov (.tmp 2), 255⟩,
  ⟨(some 23), (some (21, false)), .call (.func i_spec_l09Small) [(.tmp 22)], 511⟩,
  ⟨(some 24), (some (21, false)), .un .not (.tmp 23), 1023⟩,
  ⟨(some 25), none, .pick (.tmp 21) (.const (.bool true)) (.tmp 24), 2047⟩,
  ⟨(some 26), none, .mov (.tmp 25), 4095⟩,
  ⟨(some 27), (some (26, false)), .mov (.tmp 3), 8191⟩,
  ⟨(some 28), (some (26, false)), .call (.func i_spec_l09Small) [(.tmp 27)], 16383⟩,
  ⟨(some 29), (some (26, false)), .un .not (.tmp 28), 32767⟩,
  ⟨(some 30), none, .pick (.tmp 26) (.const (.bool true)) (.tmp 29), 65535⟩,
  ⟨(some 31), none, .mov (.tmp 30), 131071⟩,
  ⟨(some 32), (some (31, false)), .call (.func i_spec_l09Is) [(.tmp 9)], 262143⟩,
  ⟨(some 33), (some (31, false)), .un .not (.tmp 32), 524287⟩,
  ⟨(some 34), none, .pick (.tmp 31) (.const (.bool true)) (.tmp 33), 1048575⟩]
def spec_PaintHalf_r2 : List SOper := [
  ⟨(some 35), none, .build [(.int .i64 0), (.int .i64 0), (.bool false), (.slice none 0 0), (.slice none 0 0)] [], 0⟩,
  ⟨none, none, .store 5 (.tmp 10) (.tmp 35), 1⟩,
  ⟨(some 11), none, .mov (.const (.bool false)), 3⟩]
def spec_PaintHalf_r3 : List SOper := [
  ⟨(some 36), none, .buildSlice 1 0 [] [], 0⟩,
  ⟨(some 12), none, .mov (.tmp 36), 1⟩]
def spec_PaintHalf_r4 : List SOper := [
  ⟨(some 37), none, .fieldAddr 3 (.tmp 5), 0⟩,
  ⟨(some 38), none, .load1 (.tmp 37), 1⟩,
  ⟨(some 39), none, .len false (.tmp 38), 3⟩,
  ⟨(some 40), none, .mov (.const (.int .i64 0)), 0⟩]
def spec_PaintHalf_r5 : List SOper := [
  ⟨(some 41), none, .bin .lss .other (.tmp 40) (.tmp 39), 0⟩]
def spec_PaintHalf_r6 : List SOper := [
  ⟨(some 42), none, .mov (.tmp 40), 0⟩,
  ⟨(some 13), none, .mov (.tmp 42), 1⟩]
def spec_PaintHalf_r7 : List SOper := [
  ⟨(some 43), none, .mov (.tmp 12), 0⟩,
  ⟨(some 44), none, .mov (.tmp 1), 0⟩,
  ⟨(some 45), none, .mov (.tmp 13), 0⟩,
  ⟨(some 46), none, .fieldAddr 0 (.tmp 5), 0⟩,
  ⟨(some 47), none, .load1 (.tmp 46), 8⟩,
  ⟨(some 48), none, .bin .rem .other (.tmp 45) (.tmp 47), 28⟩,
  ⟨(some 49), none, .bin .mul .other (.tmp 44) (.tmp 48), 62⟩,
  ⟨(some 50), none, .mov (.tmp 2), 0⟩,
  ⟨(some 51), none, .mov (.tmp 13), 0⟩,
  ⟨(some 52), none, .fieldAddr 0 (.tmp 5), 0⟩,
  ⟨(some 53), none, .load1 (.tmp 52), 512⟩,
  ⟨(some 54), none, .bin .quo .other (.tmp 51) (.tmp 53), 1792⟩,
  ⟨(some 55), none, .bin .mul .other (.tmp 50) (.tmp 54), 3968⟩,
  ⟨(some 56), none, .bin .add .other (.tmp 49) (.tmp 55), 8190⟩,
  ⟨(some 57), none, .mov (.tmp 3), 0⟩,
  ⟨(some 58), none, .bin .geq .other (.tmp 56) (.tmp 57), 32766⟩,
  ⟨(some 59), none, .buildSlice 1 1 [(.bool false)] [(0, 1, (.tmp 58))], 65534⟩,
  ⟨(some 60), none, .append 1 1 (.tmp 43) (.tmp 59), 131071⟩,
  ⟨(some 12), none, .mov (.tmp 60), 262143⟩]
def spec_PaintHalf_r8 : List SOper := [
  ⟨(some 61), none, .bin .add .other (.tmp 40) (.const (.int .i64 1)), 0⟩,
  ⟨(some 40), none, .mov (.tmp 61), 1⟩]
def spec_PaintHalf_l9 : SCode := (.kp [1, 2, 3, 5, 9, 10, 12, 39, 40] (.seq (.region spec_PaintHalf_r5 false) (.kp [1, 2, 3, 5, 9, 10, 12, 39, 40, 41] (.seq (.cond (.tmp 41) .skip (.exit 0)) (.kp [1, 2, 3, 5, 9, 10, 12, 39, 40] (.seq (.block 1 (.seq (.region spec_PaintHalf_r6 false) (.kp [1, 2, 3, 5, 9, 10, 12, 13, 39, 40] (.region spec_PaintHalf_r7 true)))) (.kp [1, 2, 3, 5, 9, 10, 12, 39, 40] (.region spec_PaintHalf_r8 false))))))))
def spec_PaintHalf_r10 (i_spec_l09Cells : FuncId) : List SOper := [
  ⟨(some 62), none, .mov (.tmp 12), 0⟩,
  ⟨(some 63), none, .call (.func i_spec_l09Cells) [(.tmp 5), (.tmp 62), (.tmp 9)], 1⟩,
  ⟨none, none, .store 5 (.tmp 10) (.tmp 63), 3⟩,
  ⟨(some 11), none, .mov (.const (.bool true)), 7⟩]
def spec_PaintHalf (i_spec_l02Is i_spec_l09Small i_spec_l09Is i_spec_l09Cells : FuncId) : SFunc := ⟨64, [.cellN 10 5, .tmp 11], (.kp [0, 1, 2, 3, 4] (.seq (.region spec_PaintHalf_r0 false) (.kp [1, 2, 3, 5, 9, 10] (.seq (.seq (.region (spec_PaintHalf_r1 i_spec_l02Is i_spec_l09Small i_spec_l09Is) false) (.kp [1, 2, 3, 5, 9, 10, 34] (.cond (.tmp 34) (.seq (.region spec_PaintHalf_r2 false) .ret) .skip))) (.kp [1, 2, 3, 5, 9, 10] (.seq (.region spec_PaintHalf_r3 false) (.kp [1, 2, 3, 5, 9, 10, 12] (.seq (.seq (.region spec_PaintHalf_r4 false) (.kp [1, 2, 3, 5, 9, 10, 12, 39, 40] (.block 0 (.loop spec_PaintHalf_l9)))) (.kp [5, 9, 10, 12] (.seq (.region (spec_PaintHalf_r10 i_spec_l09Cells) false) .ret))))))))))⟩
theorem spec_PaintHalf_r7_dr : drawOkW wStat spec_PaintHalf_r7 = true := by kernel_rfl
attribute [push_cast] spec_PaintHalf_r7_dr
def halfOk (w h : Int) (sp lo : List Nat) (a b d : Int) (s l : Nat) : Bool := ([a, b, d].all fun n => inR n (-1000) 1000) && paintOk w h sp lo s l
def PaintHalf_ok (c : Contract) : Prop := ∀ (σ : Heap) (w h : Int) (wr : Bool) (sv lv : Value) (sp lo : List Nat) (a b d : Int) (s l : Nat), ShR σ sv lv sp lo → sp.length ≤ 1048576 → lo.length ≤ 1048576 →
    Ret c [shV w h wr sv lv, .int .i64 a, .int .i64 b, .int .i64 d, .agg #[.float .f32 s, .float .f32 l]] σ fun v σ' => v = shRes (halfOk w h sp lo a b d s l) σ.length w h wr (paintP (halfP a b d) w.toNat sp s) (paintP (halfP a b d) w.toNat lo l) ∧ σ' = σ ++ shRows (halfOk w h sp lo a b d s l) (paintP (halfP a b d) w.toNat sp s) (paintP (halfP a b d) w.toNat lo l)
abbrev impl_PaintHalf_ok := PaintHalf_ok
abbrev spec_PaintHalf_ok := PaintHalf_ok

theorem impl_PaintHalf_law {C : Ctab} {i1 i2 i3 : FuncId} {c1 c2 c3 : Contract} (h1 : Has C i1 c1 impl_areOther_ok) (h2 : impl_PaintHalfC1_ok c2) (h3 : Has C i3 c3 (impl_painted_ok i2 c2)) : impl_PaintHalf_ok (gcC C (impl_PaintHalf i1 i2 i3) true) := by
  intro σ w h wr sv lv sp lo a b d s l hr hn1 hn2
  have hr0 := hr
  obtain ⟨r1, r2⟩ := hr
  cases hc : [a, b, d].all fun n => inR n (-1000) 1000
  · rw [show halfOk w h sp lo a b d s l = false from by unfold halfOk; rw [hc]; rfl, shRes_f, shRows_f]
    refine ret_gc rfl rfl ?_
    repeat' (first | apply Ev.sq | apply Ev.rg | refine Ev.aKp ?_ | apply thenQ.n | apply thenQ.e | apply thenQ.r | apply blkQ.n | apply blkQ.e | refine blkQ.x ?_ rfl | apply blkQ.r | refine Ev.aT ?_ | refine Ev.aF ?_ | apply Ev.skip | apply Ev.exit | apply Ev.ret | apply Ev.bk | refine EvR.mv ?_ | refine EvR.fa ?_ | refine EvR.l1 ?_ | refine EvR.aNotSF ?_ | refine EvR.aNotST ?_ | refine EvR.aMetT ?_ | refine EvR.aMetF ?_ | refine EvR.aUS ?_ | refine EvR.mvc ?_ | refine EvR.lv ?_ | refine EvR.lp ?_ | refine EvR.lNp ?_ | refine EvR.pkT ?_ | refine EvR.pkF ?_ | refine EvR.lN ?_ | refine EvR.ix ?_ | refine EvR.le ?_ | refine EvR.ixo ?_ | refine EvR.l1o ?_ | refine EvR.lei ?_ | refine EvR.leb ?_ | refine EvR.lnr ?_ | refine EvR.lns ?_ | refine EvR.nt ?_ | refine EvR.lt ?_ | refine EvR.le_ ?_ | refine EvR.gt ?_ | refine EvR.ge ?_ | refine EvR.eqi ?_ | refine EvR.nei ?_ | refine EvR.add ?_ | refine EvR.sub ?_ | refine EvR.mul ?_ | refine EvR.rem ?_ | refine EvR.quo ?_ | refine EvR.nc ?_ | refine EvR.ex ?_ | refine EvR.f1 ?_ | refine EvR.fadd ?_ | refine EvR.fsub ?_ | refine EvR.fmul ?_ | refine EvR.fquo ?_ | refine EvR.flt_ ?_ | refine EvR.fle_ ?_ | refine EvR.fgt_ ?_ | refine EvR.fge_ ?_ | refine EvR.feq_ ?_ | refine EvR.fne_ ?_ | refine EvR.cv ?_ | refine EvR.cvu ?_ | refine EvR.cvf ?_ | refine EvR.cvw ?_ | refine EvR.bx ?_ | refine EvR.aNotNT ?_ | refine EvR.aNotNF ?_ | refine EvR.aUN ?_ | refine EvR.nl ?_ | refine EvR.so ?_ | (apply Ev.regionQ drk; (· exact quie)) | (apply Ev.regionN0 drk; (· exact quie)) | (apply Ev.regionA drk (by assumption); (· exact quie)) | (apply Ev.regionNA drk (by assumption); (· exact quie)) | (apply Ev.regionS0 drk; (· exact quie)) | (refine EvR.aSplB ?_ ?_ <;> (intro hb; rw [hb]; (try simp only [Bool.not_eq_true', Bool.not_eq_false', Bool.not_eq_eq_eq_not, Bool.not_true, Bool.not_false, decide_eq_true_eq, decide_eq_false_iff_not, Bool.and_eq_true, Bool.and_eq_false_iff, Bool.or_eq_true, Bool.or_eq_false_iff] at hb); (try (exfalso; omega)))) | (refine Ev.aSplB ?_ ?_ <;> (intro hb; (try rw [hb]); (try simp only [Bool.not_eq_true', Bool.not_eq_false', Bool.not_eq_eq_eq_not, Bool.not_true, Bool.not_false, decide_eq_true_eq, decide_eq_false_iff_not, Bool.and_eq_true, Bool.and_eq_false_iff, Bool.or_eq_true, Bool.or_eq_false_iff] at hb); (try (exfalso; omega)))) | (apply EvR.aS0; (· exact evc)) | (apply EvR.aN0; (· exact evc)) | (apply endS trivial; rotate_left; (· exact eva); (· rfl); try refine ⟨?_, rfl⟩) | fail)
    (apply EvR.aCall h1.at_; (· exact eva); (· exact  h1.ok _ _ [a, b, d] (Row.own rfl (by decide) rfl) (by simp)); (rintro _ _ ⟨rfl, rfl⟩; refine EvR.nrm ?_))
    rw [hc]
    repeat' (first | apply Ev.sq | apply Ev.rg | refine Ev.aKp ?_ | apply thenQ.n | apply thenQ.e | apply thenQ.r | apply blkQ.n | apply blkQ.e | refine blkQ.x ?_ rfl | apply blkQ.r | refine Ev.aT ?_ | refine Ev.aF ?_ | apply Ev.skip | apply Ev.exit | apply Ev.ret | apply Ev.bk | refine EvR.mv ?_ | refine EvR.fa ?_ | refine EvR.l1 ?_ | refine EvR.aNotSF ?_ | refine EvR.aNotST ?_ | refine EvR.aMetT ?_ | refine EvR.aMetF ?_ | refine EvR.aUS ?_ | refine EvR.mvc ?_ | refine EvR.lv ?_ | refine EvR.lp ?_ | refine EvR.lNp ?_ | refine EvR.pkT ?_ | refine EvR.pkF ?_ | refine EvR.lN ?_ | refine EvR.ix ?_ | refine EvR.le ?_ | refine EvR.ixo ?_ | refine EvR.l1o ?_ | refine EvR.lei ?_ | refine EvR.leb ?_ | refine EvR.lnr ?_ | refine EvR.lns ?_ | refine EvR.nt ?_ | refine EvR.lt ?_ | refine EvR.le_ ?_ | refine EvR.gt ?_ | refine EvR.ge ?_ | refine EvR.eqi ?_ | refine EvR.nei ?_ | refine EvR.add ?_ | refine EvR.sub ?_ | refine EvR.mul ?_ | refine EvR.rem ?_ | refine EvR.quo ?_ | refine EvR.nc ?_ | refine EvR.ex ?_ | refine EvR.f1 ?_ | refine EvR.fadd ?_ | refine EvR.fsub ?_ | refine EvR.fmul ?_ | refine EvR.fquo ?_ | refine EvR.flt_ ?_ | refine EvR.fle_ ?_ | refine EvR.fgt_ ?_ | refine EvR.fge_ ?_ | refine EvR.feq_ ?_ | refine EvR.fne_ ?_ | refine EvR.cv ?_ | refine EvR.cvu ?_ | refine EvR.cvf ?_ | refine EvR.cvw ?_ | refine EvR.bx ?_ | refine EvR.aNotNT ?_ | refine EvR.aNotNF ?_ | refine EvR.aUN ?_ | refine EvR.nl ?_ | refine EvR.so ?_ | (apply Ev.regionQ drk; (· exact quie)) | (apply Ev.regionN0 drk; (· exact quie)) | (apply Ev.regionA drk (by assumption); (· exact quie)) | (apply Ev.regionNA drk (by assumption); (· exact quie)) | (apply Ev.regionS0 drk; (· exact quie)) | (refine EvR.aSplB ?_ ?_ <;> (intro hb; rw [hb]; (try simp only [Bool.not_eq_true', Bool.not_eq_false', Bool.not_eq_eq_eq_not, Bool.not_true, Bool.not_false, decide_eq_true_eq, decide_eq_false_iff_not, Bool.and_eq_true, Bool.and_eq_false_iff, Bool.or_eq_true, Bool.or_eq_false_iff] at hb); (try (exfalso; omega)))) | (refine Ev.aSplB ?_ ?_ <;> (intro hb; (try rw [hb]); (try simp only [Bool.not_eq_true', Bool.not_eq_false', Bool.not_eq_eq_eq_not, Bool.not_true, Bool.not_false, decide_eq_true_eq, decide_eq_false_iff_not, Bool.and_eq_true, Bool.and_eq_false_iff, Bool.or_eq_true, Bool.or_eq_false_iff] at hb); (try (exfalso; omega)))) | (apply EvR.aS0; (· exact evc)) | (apply EvR.aN0; (· exact evc)) | (apply endS trivial; rotate_left; (· exact eva); (· rfl); try refine ⟨?_, rfl⟩) | fail)
    simp
  have hb : -1000 ≤ a ∧ a ≤ 1000 ∧ -1000 ≤ b ∧ b ≤ 1000 := by simp [inR] at hc; omega
  obtain ⟨b1, b2, b3, b4⟩ := hb
  have hst : ∀ (x y : Nat), x ≤ 16 → y ≤ 16 → ∀ τ, Ret c2 ([.int .i64 x, .int .i64 y] ++ (#[Value.pointer (some ⟨σ.length + 1, 0, none⟩), .pointer (some ⟨σ.length + 2, 0, none⟩), .pointer (some ⟨σ.length + 3, 0, none⟩)] : Array Value).toList) (σ ++ [⟨[.int .i64 w, .int .i64 h, .bool wr, sv, lv], 0, true⟩, varI a, varI b, varI d, ⟨[.float .f32 s, .float .f32 l], 0, true⟩, ⟨[.int .i64 0, .int .i64 0, .bool false, .slice none 0 0, .slice none 0 0], 0, true⟩, ⟨i64s [a, b, d], 1, true⟩] ++ τ) fun v σ' => v = .bool (halfP a b d x y) ∧ σ' = σ ++ [⟨[.int .i64 w, .int .i64 h, .bool wr, sv, lv], 0, true⟩, varI a, varI b, varI d, ⟨[.float .f32 s, .float .f32 l], 0, true⟩, ⟨[.int .i64 0, .int .i64 0, .bool false, .slice none 0 0, .slice none 0 0], 0, true⟩, ⟨i64s [a, b, d], 1, true⟩] ++ τ := by
    intro x y hx hy τ
    exact h2 _ _ _ _ a b d x y (by rw [List.append_assoc, hget]; rfl) (by rw [List.append_assoc, hget]; rfl) (by rw [List.append_assoc, hget]; rfl) b1 b2 b3 b4 (by omega) (by omega) (by omega) (by omega)
  cases hp : paintOk w h sp lo s l
  · rw [show halfOk w h sp lo a b d s l = false from by unfold halfOk; rw [hp, Bool.and_false], shRes_f, shRows_f]
    refine ret_gc rfl rfl ?_
    repeat' (first | apply Ev.sq | apply Ev.rg | refine Ev.aKp ?_ | apply thenQ.n | apply thenQ.e | apply thenQ.r | apply blkQ.n | apply blkQ.e | refine blkQ.x ?_ rfl | apply blkQ.r | refine Ev.aT ?_ | refine Ev.aF ?_ | apply Ev.skip | apply Ev.exit | apply Ev.ret | apply Ev.bk | refine EvR.mv ?_ | refine EvR.fa ?_ | refine EvR.l1 ?_ | refine EvR.aNotSF ?_ | refine EvR.aNotST ?_ | refine EvR.aMetT ?_ | refine EvR.aMetF ?_ | refine EvR.aUS ?_ | refine EvR.mvc ?_ | refine EvR.lv ?_ | refine EvR.lp ?_ | refine EvR.lNp ?_ | refine EvR.pkT ?_ | refine EvR.pkF ?_ | refine EvR.lN ?_ | refine EvR.ix ?_ | refine EvR.le ?_ | refine EvR.ixo ?_ | refine EvR.l1o ?_ | refine EvR.lei ?_ | refine EvR.leb ?_ | refine EvR.lnr ?_ | refine EvR.lns ?_ | refine EvR.nt ?_ | refine EvR.lt ?_ | refine EvR.le_ ?_ | refine EvR.gt ?_ | refine EvR.ge ?_ | refine EvR.eqi ?_ | refine EvR.nei ?_ | refine EvR.add ?_ | refine EvR.sub ?_ | refine EvR.mul ?_ | refine EvR.rem ?_ | refine EvR.quo ?_ | refine EvR.nc ?_ | refine EvR.ex ?_ | refine EvR.f1 ?_ | refine EvR.fadd ?_ | refine EvR.fsub ?_ | refine EvR.fmul ?_ | refine EvR.fquo ?_ | refine EvR.flt_ ?_ | refine EvR.fle_ ?_ | refine EvR.fgt_ ?_ | refine EvR.fge_ ?_ | refine EvR.feq_ ?_ | refine EvR.fne_ ?_ | refine EvR.cv ?_ | refine EvR.cvu ?_ | refine EvR.cvf ?_ | refine EvR.cvw ?_ | refine EvR.bx ?_ | refine EvR.aNotNT ?_ | refine EvR.aNotNF ?_ | refine EvR.aUN ?_ | refine EvR.nl ?_ | refine EvR.so ?_ | (apply Ev.regionQ drk; (· exact quie)) | (apply Ev.regionN0 drk; (· exact quie)) | (apply Ev.regionA drk (by assumption); (· exact quie)) | (apply Ev.regionNA drk (by assumption); (· exact quie)) | (apply Ev.regionS0 drk; (· exact quie)) | (refine EvR.aSplB ?_ ?_ <;> (intro hb; rw [hb]; (try simp only [Bool.not_eq_true', Bool.not_eq_false', Bool.not_eq_eq_eq_not, Bool.not_true, Bool.not_false, decide_eq_true_eq, decide_eq_false_iff_not, Bool.and_eq_true, Bool.and_eq_false_iff, Bool.or_eq_true, Bool.or_eq_false_iff] at hb); (try (exfalso; omega)))) | (refine Ev.aSplB ?_ ?_ <;> (intro hb; (try rw [hb]); (try simp only [Bool.not_eq_true', Bool.not_eq_false', Bool.not_eq_eq_eq_not, Bool.not_true, Bool.not_false, decide_eq_true_eq, decide_eq_false_iff_not, Bool.and_eq_true, Bool.and_eq_false_iff, Bool.or_eq_true, Bool.or_eq_false_iff] at hb); (try (exfalso; omega)))) | (apply EvR.aS0; (· exact evc)) | (apply EvR.aN0; (· exact evc)) | (apply endS trivial; rotate_left; (· exact eva); (· rfl); try refine ⟨?_, rfl⟩) | fail)
    (apply EvR.aCall h1.at_; (· exact eva); (· exact  h1.ok _ _ [a, b, d] (Row.own rfl (by decide) rfl) (by simp)); (rintro _ _ ⟨rfl, rfl⟩; refine EvR.nrm ?_))
    rw [hc]
    repeat' (first | apply Ev.sq | apply Ev.rg | refine Ev.aKp ?_ | apply thenQ.n | apply thenQ.e | apply thenQ.r | apply blkQ.n | apply blkQ.e | refine blkQ.x ?_ rfl | apply blkQ.r | refine Ev.aT ?_ | refine Ev.aF ?_ | apply Ev.skip | apply Ev.exit | apply Ev.ret | apply Ev.bk | refine EvR.mv ?_ | refine EvR.fa ?_ | refine EvR.l1 ?_ | refine EvR.aNotSF ?_ | refine EvR.aNotST ?_ | refine EvR.aMetT ?_ | refine EvR.aMetF ?_ | refine EvR.aUS ?_ | refine EvR.mvc ?_ | refine EvR.lv ?_ | refine EvR.lp ?_ | refine EvR.lNp ?_ | refine EvR.pkT ?_ | refine EvR.pkF ?_ | refine EvR.lN ?_ | refine EvR.ix ?_ | refine EvR.le ?_ | refine EvR.ixo ?_ | refine EvR.l1o ?_ | refine EvR.lei ?_ | refine EvR.leb ?_ | refine EvR.lnr ?_ | refine EvR.lns ?_ | refine EvR.nt ?_ | refine EvR.lt ?_ | refine EvR.le_ ?_ | refine EvR.gt ?_ | refine EvR.ge ?_ | refine EvR.eqi ?_ | refine EvR.nei ?_ | refine EvR.add ?_ | refine EvR.sub ?_ | refine EvR.mul ?_ | refine EvR.rem ?_ | refine EvR.quo ?_ | refine EvR.nc ?_ | refine EvR.ex ?_ | refine EvR.f1 ?_ | refine EvR.fadd ?_ | refine EvR.fsub ?_ | refine EvR.fmul ?_ | refine EvR.fquo ?_ | refine EvR.flt_ ?_ | refine EvR.fle_ ?_ | refine EvR.fgt_ ?_ | refine EvR.fge_ ?_ | refine EvR.feq_ ?_ | refine EvR.fne_ ?_ | refine EvR.cv ?_ | refine EvR.cvu ?_ | refine EvR.cvf ?_ | refine EvR.cvw ?_ | refine EvR.bx ?_ | refine EvR.aNotNT ?_ | refine EvR.aNotNF ?_ | refine EvR.aUN ?_ | refine EvR.nl ?_ | refine EvR.so ?_ | (apply Ev.regionQ drk; (· exact quie)) | (apply Ev.regionN0 drk; (· exact quie)) | (apply Ev.regionA drk (by assumption); (· exact quie)) | (apply Ev.regionNA drk (by assumption); (· exact quie)) | (apply Ev.regionS0 drk; (· exact quie)) | (refine EvR.aSplB ?_ ?_ <;> (intro hb; rw [hb]; (try simp only [Bool.not_eq_true', Bool.not_eq_false', Bool.not_eq_eq_eq_not, Bool.not_true, Bool.not_false, decide_eq_true_eq, decide_eq_false_iff_not, Bool.and_eq_true, Bool.and_eq_false_iff, Bool.or_eq_true, Bool.or_eq_false_iff] at hb); (try (exfalso; omega)))) | (refine Ev.aSplB ?_ ?_ <;> (intro hb; (try rw [hb]); (try simp only [Bool.not_eq_true', Bool.not_eq_false', Bool.not_eq_eq_eq_not, Bool.not_true, Bool.not_false, decide_eq_true_eq, decide_eq_false_iff_not, Bool.and_eq_true, Bool.and_eq_false_iff, Bool.or_eq_true, Bool.or_eq_false_iff] at hb); (try (exfalso; omega)))) | (apply EvR.aS0; (· exact evc)) | (apply EvR.aN0; (· exact evc)) | (apply endS trivial; rotate_left; (· exact eva); (· rfl); try refine ⟨?_, rfl⟩) | fail)
    (apply EvR.aCall h3.at_; (· exact eva); (· exact  h3.ok _ w h wr sv lv sp lo s l _ (halfP a b d) ⟨r1.ext _, r2.ext _⟩ hn1 hn2 hst); (rintro _ _ ⟨rfl, rfl⟩; refine EvR.nrm ?_))
    rw [hp]
    simp only [shRes_f, shRows_f, List.append_nil]
    repeat' (first | apply Ev.sq | apply Ev.rg | refine Ev.aKp ?_ | apply thenQ.n | apply thenQ.e | apply thenQ.r | apply blkQ.n | apply blkQ.e | refine blkQ.x ?_ rfl | apply blkQ.r | refine Ev.aT ?_ | refine Ev.aF ?_ | apply Ev.skip | apply Ev.exit | apply Ev.ret | apply Ev.bk | refine EvR.mv ?_ | refine EvR.fa ?_ | refine EvR.l1 ?_ | refine EvR.aNotSF ?_ | refine EvR.aNotST ?_ | refine EvR.aMetT ?_ | refine EvR.aMetF ?_ | refine EvR.aUS ?_ | refine EvR.mvc ?_ | refine EvR.lv ?_ | refine EvR.lp ?_ | refine EvR.lNp ?_ | refine EvR.pkT ?_ | refine EvR.pkF ?_ | refine EvR.lN ?_ | refine EvR.ix ?_ | refine EvR.le ?_ | refine EvR.ixo ?_ | refine EvR.l1o ?_ | refine EvR.lei ?_ | refine EvR.leb ?_ | refine EvR.lnr ?_ | refine EvR.lns ?_ | refine EvR.nt ?_ | refine EvR.lt ?_ | refine EvR.le_ ?_ | refine EvR.gt ?_ | refine EvR.ge ?_ | refine EvR.eqi ?_ | refine EvR.nei ?_ | refine EvR.add ?_ | refine EvR.sub ?_ | refine EvR.mul ?_ | refine EvR.rem ?_ | refine EvR.quo ?_ | refine EvR.nc ?_ | refine EvR.ex ?_ | refine EvR.f1 ?_ | refine EvR.fadd ?_ | refine EvR.fsub ?_ | refine EvR.fmul ?_ | refine EvR.fquo ?_ | refine EvR.flt_ ?_ | refine EvR.fle_ ?_ | refine EvR.fgt_ ?_ | refine EvR.fge_ ?_ | refine EvR.feq_ ?_ | refine EvR.fne_ ?_ | refine EvR.cv ?_ | refine EvR.cvu ?_ | refine EvR.cvf ?_ | refine EvR.cvw ?_ | refine EvR.bx ?_ | refine EvR.aNotNT ?_ | refine EvR.aNotNF ?_ | refine EvR.aUN ?_ | refine EvR.nl ?_ | refine EvR.so ?_ | (apply Ev.regionQ drk; (· exact quie)) | (apply Ev.regionN0 drk; (· exact quie)) | (apply Ev.regionA drk (by assumption); (· exact quie)) | (apply Ev.regionNA drk (by assumption); (· exact quie)) | (apply Ev.regionS0 drk; (· exact quie)) | (refine EvR.aSplB ?_ ?_ <;> (intro hb; rw [hb]; (try simp only [Bool.not_eq_true', Bool.not_eq_false', Bool.not_eq_eq_eq_not, Bool.not_true, Bool.not_false, decide_eq_true_eq, decide_eq_false_iff_not, Bool.and_eq_true, Bool.and_eq_false_iff, Bool.or_eq_true, Bool.or_eq_false_iff] at hb); (try (exfalso; omega)))) | (refine Ev.aSplB ?_ ?_ <;> (intro hb; (try rw [hb]); (try simp only [Bool.not_eq_true', Bool.not_eq_false', Bool.not_eq_eq_eq_not, Bool.not_true, Bool.not_false, decide_eq_true_eq, decide_eq_false_iff_not, Bool.and_eq_true, Bool.and_eq_false_iff, Bool.or_eq_true, Bool.or_eq_false_iff] at hb); (try (exfalso; omega)))) | (apply EvR.aS0; (· exact evc)) | (apply EvR.aN0; (· exact evc)) | (apply endS trivial; rotate_left; (· exact eva); (· rfl); try refine ⟨?_, rfl⟩) | fail)
    simp
  · rw [show halfOk w h sp lo a b d s l = true from by unfold halfOk; rw [hc, hp]; rfl, shRes_t, shRows_t]
    refine ret_gc rfl rfl ?_
    repeat' (first | apply Ev.sq | apply Ev.rg | refine Ev.aKp ?_ | apply thenQ.n | apply thenQ.e | apply thenQ.r | apply blkQ.n | apply blkQ.e | refine blkQ.x ?_ rfl | apply blkQ.r | refine Ev.aT ?_ | refine Ev.aF ?_ | apply Ev.skip | apply Ev.exit | apply Ev.ret | apply Ev.bk | refine EvR.mv ?_ | refine EvR.fa ?_ | refine EvR.l1 ?_ | refine EvR.aNotSF ?_ | refine EvR.aNotST ?_ | refine EvR.aMetT ?_ | refine EvR.aMetF ?_ | refine EvR.aUS ?_ | refine EvR.mvc ?_ | refine EvR.lv ?_ | refine EvR.lp ?_ | refine EvR.lNp ?_ | refine EvR.pkT ?_ | refine EvR.pkF ?_ | refine EvR.lN ?_ | refine EvR.ix ?_ | refine EvR.le ?_ | refine EvR.ixo ?_ | refine EvR.l1o ?_ | refine EvR.lei ?_ | refine EvR.leb ?_ | refine EvR.lnr ?_ | refine EvR.lns ?_ | refine EvR.nt ?_ | refine EvR.lt ?_ | refine EvR.le_ ?_ | refine EvR.gt ?_ | refine EvR.ge ?_ | refine EvR.eqi ?_ | refine EvR.nei ?_ | refine EvR.add ?_ | refine EvR.sub ?_ | refine EvR.mul ?_ | refine EvR.rem ?_ | refine EvR.quo ?_ | refine EvR.nc ?_ | refine EvR.ex ?_ | refine EvR.f1 ?_ | refine EvR.fadd ?_ | refine EvR.fsub ?_ | refine EvR.fmul ?_ | refine EvR.fquo ?_ | refine EvR.flt_ ?_ | refine EvR.fle_ ?_ | refine EvR.fgt_ ?_ | refine EvR.fge_ ?_ | refine EvR.feq_ ?_ | refine EvR.fne_ ?_ | refine EvR.cv ?_ | refine EvR.cvu ?_ | refine EvR.cvf ?_ | refine EvR.cvw ?_ | refine EvR.bx ?_ | refine EvR.aNotNT ?_ | refine EvR.aNotNF ?_ | refine EvR.aUN ?_ | refine EvR.nl ?_ | refine EvR.so ?_ | (apply Ev.regionQ drk; (· exact quie)) | (apply Ev.regionN0 drk; (· exact quie)) | (apply Ev.regionA drk (by assumption); (· exact quie)) | (apply Ev.regionNA drk (by assumption); (· exact quie)) | (apply Ev.regionS0 drk; (· exact quie)) | (refine EvR.aSplB ?_ ?_ <;> (intro hb; rw [hb]; (try simp only [Bool.not_eq_true', Bool.not_eq_false', Bool.not_eq_eq_eq_not, Bool.not_true, Bool.not_false, decide_eq_true_eq, decide_eq_false_iff_not, Bool.and_eq_true, Bool.and_eq_false_iff, Bool.or_eq_true, Bool.or_eq_false_iff] at hb); (try (exfalso; omega)))) | (refine Ev.aSplB ?_ ?_ <;> (intro hb; (try rw [hb]); (try simp only [Bool.not_eq_true', Bool.not_eq_false', Bool.not_eq_eq_eq_not, Bool.not_true, Bool.not_false, decide_eq_true_eq, decide_eq_false_iff_not, Bool.and_eq_true, Bool.and_eq_false_iff, Bool.or_eq_true, Bool.or_eq_false_iff] at hb); (try (exfalso; omega)))) | (apply EvR.aS0; (· exact evc)) | (apply EvR.aN0; (· exact evc)) | (apply endS trivial; rotate_left; (· exact eva); (· rfl); try refine ⟨?_, rfl⟩) | fail)
    (apply EvR.aCall h1.at_; (· exact eva); (· exact  h1.ok _ _ [a, b, d] (Row.own rfl (by decide) rfl) (by simp)); (rintro _ _ ⟨rfl, rfl⟩; refine EvR.nrm ?_))
    rw [hc]
    repeat' (first | apply Ev.sq | apply Ev.rg | refine Ev.aKp ?_ | apply thenQ.n | apply thenQ.e | apply thenQ.r | apply blkQ.n | apply blkQ.e | refine blkQ.x ?_ rfl | apply blkQ.r | refine Ev.aT ?_ | refine Ev.aF ?_ | apply Ev.skip | apply Ev.exit | apply Ev.ret | apply Ev.bk | refine EvR.mv ?_ | refine EvR.fa ?_ | refine EvR.l1 ?_ | refine EvR.aNotSF ?_ | refine EvR.aNotST ?_ | refine EvR.aMetT ?_ | refine EvR.aMetF ?_ | refine EvR.aUS ?_ | refine EvR.mvc ?_ | refine EvR.lv ?_ | refine EvR.lp ?_ | refine EvR.lNp ?_ | refine EvR.pkT ?_ | refine EvR.pkF ?_ | refine EvR.lN ?_ | refine EvR.ix ?_ | refine EvR.le ?_ | refine EvR.ixo ?_ | refine EvR.l1o ?_ | refine EvR.lei ?_ | refine EvR.leb ?_ | refine EvR.lnr ?_ | refine EvR.lns ?_ | refine EvR.nt ?_ | refine EvR.lt ?_ | refine EvR.le_ ?_ | refine EvR.gt ?_ | refine EvR.ge ?_ | refine EvR.eqi ?_ | refine EvR.nei ?_ | refine EvR.add ?_ | refine EvR.sub ?_ | refine EvR.mul ?_ | refine EvR.rem ?_ | refine EvR.quo ?_ | refine EvR.nc ?_ | refine EvR.ex ?_ | refine EvR.f1 ?_ | refine EvR.fadd ?_ | refine EvR.fsub ?_ | refine EvR.fmul ?_ | refine EvR.fquo ?_ | refine EvR.flt_ ?_ | refine EvR.fle_ ?_ | refine EvR.fgt_ ?_ | refine EvR.fge_ ?_ | refine EvR.feq_ ?_ | refine EvR.fne_ ?_ | refine EvR.cv ?_ | refine EvR.cvu ?_ | refine EvR.cvf ?_ | refine EvR.cvw ?_ | refine EvR.bx ?_ | refine EvR.aNotNT ?_ | refine EvR.aNotNF ?_ | refine EvR.aUN ?_ | refine EvR.nl ?_ | refine EvR.so ?_ | (apply Ev.regionQ drk; (· exact quie)) | (apply Ev.regionN0 drk; (· exact quie)) | (apply Ev.regionA drk (by assumption); (· exact quie)) | (apply Ev.regionNA drk (by assumption); (· exact quie)) | (apply Ev.regionS0 drk; (· exact quie)) | (refine EvR.aSplB ?_ ?_ <;> (intro hb; rw [hb]; (try simp only [Bool.not_eq_true', Bool.not_eq_false', Bool.not_eq_eq_eq_not, Bool.not_true, Bool.not_false, decide_eq_true_eq, decide_eq_false_iff_not, Bool.and_eq_true, Bool.and_eq_false_iff, Bool.or_eq_true, Bool.or_eq_false_iff] at hb); (try (exfalso; omega)))) | (refine Ev.aSplB ?_ ?_ <;> (intro hb; (try rw [hb]); (try simp only [Bool.not_eq_true', Bool.not_eq_false', Bool.not_eq_eq_eq_not, Bool.not_true, Bool.not_false, decide_eq_true_eq, decide_eq_false_iff_not, Bool.and_eq_true, Bool.and_eq_false_iff, Bool.or_eq_true, Bool.or_eq_false_iff] at hb); (try (exfalso; omega)))) | (apply EvR.aS0; (· exact evc)) | (apply EvR.aN0; (· exact evc)) | (apply endS trivial; rotate_left; (· exact eva); (· rfl); try refine ⟨?_, rfl⟩) | fail)
    (apply EvR.aCall h3.at_; (· exact eva); (· exact  h3.ok _ w h wr sv lv sp lo s l _ (halfP a b d) ⟨r1.ext _, r2.ext _⟩ hn1 hn2 hst); (rintro _ _ ⟨rfl, rfl⟩; refine EvR.nrm ?_))
    rw [hp]
    simp only [shRes_t, shRows_t]
    refine EvR.nrm ?_
    repeat' (first | apply Ev.sq | apply Ev.rg | refine Ev.aKp ?_ | apply thenQ.n | apply thenQ.e | apply thenQ.r | apply blkQ.n | apply blkQ.e | refine blkQ.x ?_ rfl | apply blkQ.r | refine Ev.aT ?_ | refine Ev.aF ?_ | apply Ev.skip | apply Ev.exit | apply Ev.ret | apply Ev.bk | refine EvR.mv ?_ | refine EvR.fa ?_ | refine EvR.l1 ?_ | refine EvR.aNotSF ?_ | refine EvR.aNotST ?_ | refine EvR.aMetT ?_ | refine EvR.aMetF ?_ | refine EvR.aUS ?_ | refine EvR.mvc ?_ | refine EvR.lv ?_ | refine EvR.lp ?_ | refine EvR.lNp ?_ | refine EvR.pkT ?_ | refine EvR.pkF ?_ | refine EvR.lN ?_ | refine EvR.ix ?_ | refine EvR.le ?_ | refine EvR.ixo ?_ | refine EvR.l1o ?_ | refine EvR.lei ?_ | refine EvR.leb ?_ | refine EvR.lnr ?_ | refine EvR.lns ?_ | refine EvR.nt ?_ | refine EvR.lt ?_ | refine EvR.le_ ?_ | refine EvR.gt ?_ | refine EvR.ge ?_ | refine EvR.eqi ?_ | refine EvR.nei ?_ | refine EvR.add ?_ | refine EvR.sub ?_ | refine EvR.mul ?_ | refine EvR.rem ?_ | refine EvR.quo ?_ | refine EvR.nc ?_ | refine EvR.ex ?_ | refine EvR.f1 ?_ | refine EvR.fadd ?_ | refine EvR.fsub ?_ | refine EvR.fmul ?_ | refine EvR.fquo ?_ | refine EvR.flt_ ?_ | refine EvR.fle_ ?_ | refine EvR.fgt_ ?_ | refine EvR.fge_ ?_ | refine EvR.feq_ ?_ | refine EvR.fne_ ?_ | refine EvR.cv ?_ | refine EvR.cvu ?_ | refine EvR.cvf ?_ | refine EvR.cvw ?_ | refine EvR.bx ?_ | refine EvR.aNotNT ?_ | refine EvR.aNotNF ?_ | refine EvR.aUN ?_ | refine EvR.nl ?_ | refine EvR.so ?_ | (apply Ev.regionQ drk; (· exact quie)) | (apply Ev.regionN0 drk; (· exact quie)) | (apply Ev.regionA drk (by assumption); (· exact quie)) | (apply Ev.regionNA drk (by assumption); (· exact quie)) | (apply Ev.regionS0 drk; (· exact quie)) | (refine EvR.aSplB ?_ ?_ <;> (intro hb; rw [hb]; (try simp only [Bool.not_eq_true', Bool.not_eq_false', Bool.not_eq_eq_eq_not, Bool.not_true, Bool.not_false, decide_eq_true_eq, decide_eq_false_iff_not, Bool.and_eq_true, Bool.and_eq_false_iff, Bool.or_eq_true, Bool.or_eq_false_iff] at hb); (try (exfalso; omega)))) | (refine Ev.aSplB ?_ ?_ <;> (intro hb; (try rw [hb]); (try simp only [Bool.not_eq_true', Bool.not_eq_false', Bool.not_eq_eq_eq_not, Bool.not_true, Bool.not_false, decide_eq_true_eq, decide_eq_false_iff_not, Bool.and_eq_true, Bool.and_eq_false_iff, Bool.or_eq_true, Bool.or_eq_false_iff] at hb); (try (exfalso; omega)))) | (apply EvR.aS0; (· exact evc)) | (apply EvR.aN0; (· exact evc)) | (apply endS trivial; rotate_left; (· exact eva); (· rfl); try refine ⟨?_, rfl⟩) | fail)
    (apply endR [7, 8] trivial ⟨rfl, rfl⟩; (· exact eva); (· simp [gcTop, gcVal, gcLeaf, gcLeaves, gcVals, constOk, gc_lt, gc_lt0]); (· rfl); (· decide); (· simp [allConst, f32s, i64s, b8s, bools, constOk]))
end Go.Abs

