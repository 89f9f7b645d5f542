/- Laws of single functions: desks, whether one is valid; the row's function. Conditions: the laws of what they call. -/
import Derived.Test.YtnibmlgdnhiglaaWvL13
namespace Go.Abs
set_option linter.unusedSimpArgs false
set_option linter.unusedVariables false
set_option maxHeartbeats 8000000
/- loop.example/g01201/spec.l11Is -/
def spec_l11Is_r0 : List SOper := [
  ⟨(some 2), none, .mov (.const (.bool false)), 0⟩]
def spec_l11Is_r1 (i_spec_l03Both i_spec_l00In : FuncId) : List SOper := [
  ⟨(some 3), none, .mov (.tmp 0), 0⟩,
  ⟨(some 4), none, .nilCheck (.tmp 3), 1⟩,
  ⟨(some 5), none, .fieldAddr 0 (.tmp 4), 3⟩,
  ⟨(some 6), none, .mov (.tmp 0), 0⟩,
  ⟨(some 7), none, .nilCheck (.tmp 6), 8⟩,
  ⟨(some 8), none, .fieldAddr 5 (.tmp 7), 24⟩,
  ⟨(some 9), none, .call (.func i_spec_l03Both) [(.tmp 5), (.tmp 8)], 63⟩,
  ⟨(some 10), none, .mov (.tmp 9), 127⟩,
  ⟨(some 11), (some (10, true)), .mov (.tmp 0), 255⟩,
  ⟨(some 12), (some (10, true)), .nilCheck (.tmp 11), 511⟩,
  ⟨(some 13), (some (10, true)), .fieldAddr 8 (.tmp 12), 1023⟩,
  ⟨(some 14), (some (10, true)), .load1 (.tmp 13), 2047⟩,
  ⟨(some 15), (some (10, true)), .call (.func i_spec_l00In) [(.tmp 14), (.const (.int .i64 0)), (.const (.int .i64 100000))], 4095⟩,
  ⟨(some 16), none, .pick (.tmp 10) (.tmp 15) (.const (.bool false)), 8191⟩,
  ⟨(some 2), none, .mov (.tmp 16), 16383⟩]
def spec_l11Is (i_spec_l03Both i_spec_l00In : FuncId) : SFunc := ⟨17, [.tmp 2], (.kp [0] (.seq (.region spec_l11Is_r0 false) (.kp [0] (.seq (.region (spec_l11Is_r1 i_spec_l03Both i_spec_l00In) true) .ret))))⟩
/- loop.example/g01201/spec.ValidDesk -/
def spec_ValidDesk_r0 : List SOper := [
  ⟨(some 1), none, .box (.tmp 0), 0⟩,
  ⟨(some 2), none, .mov (.const (.bool false)), 0⟩]
def spec_ValidDesk_r1 (i_spec_l11Is : FuncId) : List SOper := [
  ⟨(some 3), none, .call (.func i_spec_l11Is) [(.tmp 1)], 0⟩,
  ⟨(some 2), none, .mov (.tmp 3), 1⟩]
def spec_ValidDesk (i_spec_l11Is : FuncId) : SFunc := ⟨4, [.tmp 2], (.kp [0] (.seq (.region spec_ValidDesk_r0 false) (.kp [1] (.seq (.region (spec_ValidDesk_r1 i_spec_l11Is) false) .ret))))⟩
/- loop.example/g01201/impl.ValidDesk -/
def impl_ValidDesk_r0 : List SOper := [
  ⟨(some 1), none, .box (.tmp 0), 0⟩,
  ⟨(some 2), none, .mov (.const (.bool false)), 0⟩]
def impl_ValidDesk_r1 (i_impl_IsField i_impl_within : FuncId) : List SOper := [
  ⟨(some 3), none, .fieldAddr 0 (.tmp 1), 0⟩,
  ⟨(some 4), none, .loadN 5 (.tmp 3), 1⟩,
  ⟨(some 5), none, .fieldAddr 5 (.tmp 1), 0⟩,
  ⟨(some 6), none, .loadN 3 (.tmp 5), 4⟩,
  ⟨(some 7), none, .call (.func i_impl_IsField) [(.tmp 4), (.tmp 6)], 15⟩,
  ⟨(some 8), none, .mov (.tmp 7), 31⟩,
  ⟨(some 9), (some (8, true)), .fieldAddr 8 (.tmp 1), 63⟩,
  ⟨(some 10), (some (8, true)), .load1 (.tmp 9), 127⟩,
  ⟨(some 11), (some (8, true)), .call (.func i_impl_within) [(.tmp 10), (.const (.int .i64 0)), (.const (.int .i64 100000))], 255⟩,
  ⟨(some 12), none, .pick (.tmp 8) (.tmp 11) (.const (.bool false)), 511⟩,
  ⟨(some 2), none, .mov (.tmp 12), 1023⟩]
def impl_ValidDesk (i_impl_IsField i_impl_within : FuncId) : SFunc := ⟨13, [.tmp 2], (.kp [0] (.seq (.region impl_ValidDesk_r0 false) (.kp [1] (.seq (.region (impl_ValidDesk_r1 i_impl_IsField i_impl_within) false) .ret))))⟩
/- loop.example/g01201/laws.szDesk -/
def laws_szDesk_r0 : List SOper := [
  ⟨(some 2), none, .box (.tmp 0), 0⟩,
  ⟨(some 4), none, .mov (.const (.int .i64 0)), 0⟩]
def laws_szDesk_r1 (i_laws_szSheet : FuncId) : List SOper := [
  ⟨(some 5), none, .fieldAddr 0 (.tmp 2), 0⟩,
  ⟨(some 6), none, .loadN 5 (.tmp 5), 1⟩,
  ⟨(some 7), none, .mov (.tmp 1), 0⟩,
  ⟨(some 8), none, .call (.func i_laws_szSheet) [(.tmp 6), (.tmp 7)], 7⟩,
  ⟨(some 1), none, .mov (.tmp 8), 15⟩]
def laws_szDesk_r2 : List SOper := [
  ⟨(some 9), none, .mov (.tmp 1), 0⟩,
  ⟨(some 10), none, .bin .lss .other (.tmp 9) (.const (.int .i64 0)), 1⟩]
def laws_szDesk_r3 : List SOper := [
  ⟨(some 4), none, .mov (.const (.int .i64 (-1))), 0⟩]
def laws_szDesk_r4 (i_laws_szField : FuncId) : List SOper := [
  ⟨(some 11), none, .fieldAddr 5 (.tmp 2), 0⟩,
  ⟨(some 12), none, .loadN 3 (.tmp 11), 1⟩,
  ⟨(some 13), none, .mov (.tmp 1), 0⟩,
  ⟨(some 14), none, .call (.func i_laws_szField) [(.tmp 12), (.tmp 13)], 7⟩,
  ⟨(some 1), none, .mov (.tmp 14), 15⟩]
def laws_szDesk_r5 : List SOper := [
  ⟨(some 15), none, .mov (.tmp 1), 0⟩,
  ⟨(some 16), none, .bin .lss .other (.tmp 15) (.const (.int .i64 0)), 1⟩]
def laws_szDesk_r6 : List SOper := [
  ⟨(some 4), none, .mov (.const (.int .i64 (-1))), 0⟩]
def laws_szDesk_r7 : List SOper := [
  ⟨(some 17), none, .mov (.tmp 1), 0⟩,
  ⟨(some 4), none, .mov (.tmp 17), 1⟩]
def laws_szDesk (i_laws_szSheet i_laws_szField : FuncId) : SFunc := ⟨18, [.tmp 4], (.kp [0, 1] (.seq (.region laws_szDesk_r0 false) (.kp [1, 2] (.seq (.region (laws_szDesk_r1 i_laws_szSheet) false) (.kp [1, 2] (.seq (.seq (.region laws_szDesk_r2 false) (.kp [1, 2, 10] (.cond (.tmp 10) (.seq (.region laws_szDesk_r3 false) .ret) .skip))) (.kp [1, 2] (.seq (.region (laws_szDesk_r4 i_laws_szField) false) (.kp [1] (.seq (.seq (.region laws_szDesk_r5 false) (.kp [1, 16] (.cond (.tmp 16) (.seq (.region laws_szDesk_r6 false) .ret) .skip))) (.kp [1] (.seq (.region laws_szDesk_r7 false) .ret))))))))))))⟩
/- loop.example/g01201/laws.toDesk -/
def laws_toDesk_r0 : List SOper := [
  ⟨(some 1), none, .box (.tmp 0), 0⟩,
  ⟨(some 2), none, .alloc [(.int .i64 0), (.int .i64 0), (.bool false), (.slice none 0 0), (.slice none 0 0), (.slice none 0 0), (.slice none 0 0), (.slice none 0 0), (.int .i64 0)], 0⟩]
def laws_toDesk_r1 : List SOper := [
  ⟨(some 3), none, .alloc [(.int .i64 0), (.int .i64 0), (.bool false), (.slice none 0 0), (.slice none 0 0), (.slice none 0 0), (.slice none 0 0), (.slice none 0 0), (.int .i64 0)], 0⟩]
def laws_toDesk_r2 (i_laws_toSheet : FuncId) : List SOper := [
  ⟨(some 4), none, .fieldAddr 0 (.tmp 1), 0⟩,
  ⟨(some 5), none, .loadN 5 (.tmp 4), 1⟩,
  ⟨(some 6), none, .call (.func i_laws_toSheet) [(.tmp 5)], 3⟩,
  ⟨(some 7), none, .fieldAddr 0 (.tmp 3), 7⟩,
  ⟨none, none, .store 5 (.tmp 7) (.tmp 6), 15⟩]
def laws_toDesk_r3 (i_laws_toField : FuncId) : List SOper := [
  ⟨(some 8), none, .fieldAddr 5 (.tmp 1), 0⟩,
  ⟨(some 9), none, .loadN 3 (.tmp 8), 1⟩,
  ⟨(some 10), none, .call (.func i_laws_toField) [(.tmp 9)], 3⟩,
  ⟨(some 11), none, .fieldAddr 5 (.tmp 3), 7⟩,
  ⟨none, none, .store 3 (.tmp 11) (.tmp 10), 15⟩]
def laws_toDesk_r4 : List SOper := [
  ⟨(some 12), none, .fieldAddr 8 (.tmp 1), 0⟩,
  ⟨(some 13), none, .load1 (.tmp 12), 1⟩,
  ⟨(some 14), none, .fieldAddr 8 (.tmp 3), 3⟩,
  ⟨none, none, .store 1 (.tmp 14) (.tmp 13), 7⟩]
def laws_toDesk_r5 : List SOper := [
  ⟨(some 15), none, .loadN 9 (.tmp 3), 0⟩,
  ⟨none, none, .store 9 (.tmp 2) (.tmp 15), 1⟩]
def laws_toDesk (i_laws_toSheet i_laws_toField : FuncId) : SFunc := ⟨16, [.cellN 2 9], (.kp [0] (.seq (.region laws_toDesk_r0 false) (.kp [1, 2] (.seq (.region laws_toDesk_r1 false) (.kp [1, 2, 3] (.seq (.region (laws_toDesk_r2 i_laws_toSheet) false) (.kp [1, 2, 3] (.seq (.region (laws_toDesk_r3 i_laws_toField) false) (.kp [1, 2, 3] (.seq (.region laws_toDesk_r4 false) (.kp [2, 3] (.seq (.region laws_toDesk_r5 false) .ret))))))))))))⟩
/- loop.example/g01201/laws.eqDesk -/
def laws_eqDesk_r0 : List SOper := [
  ⟨(some 2), none, .box (.tmp 0), 0⟩,
  ⟨(some 3), none, .box (.tmp 1), 0⟩,
  ⟨(some 4), none, .mov (.const (.bool false)), 0⟩]
def laws_eqDesk_r1 (i_laws_eqSheet : FuncId) : List SOper := [
  ⟨(some 5), none, .fieldAddr 0 (.tmp 2), 0⟩,
  ⟨(some 6), none, .loadN 5 (.tmp 5), 1⟩,
  ⟨(some 7), none, .fieldAddr 0 (.tmp 3), 0⟩,
  ⟨(some 8), none, .loadN 5 (.tmp 7), 4⟩,
  ⟨(some 9), none, .call (.func i_laws_eqSheet) [(.tmp 6), (.tmp 8)], 15⟩,
  ⟨(some 10), none, .un .not (.tmp 9), 31⟩]
def laws_eqDesk_r2 : List SOper := [
  ⟨(some 4), none, .mov (.const (.bool false)), 0⟩]
def laws_eqDesk_r3 (i_laws_eqField : FuncId) : List SOper := [
  ⟨(some 11), none, .fieldAddr 5 (.tmp 2), 0⟩,
  ⟨(some 12), none, .loadN 3 (.tmp 11), 1⟩,
  ⟨(some 13), none, .fieldAddr 5 (.tmp 3), 0⟩,
  ⟨(some 14), none, .loadN 3 (.tmp 13), 4⟩,
  ⟨(some 15), none, .call (.func i_laws_eqField) [(.tmp 12), (.tmp 14)], 15⟩,
  ⟨(some 16), none, .un .not (.tmp 15), 31⟩]
def laws_eqDesk_r4 : List SOper := [
  ⟨(some 4), none, .mov (.const (.bool false)), 0⟩]
def laws_eqDesk_r5 : List SOper := [
  ⟨(some 17), none, .fieldAddr 8 (.tmp 2), 0⟩,
  ⟨(some 18), none, .load1 (.tmp 17), 1⟩,
  ⟨(some 19), none, .fieldAddr 8 (.tmp 3), 0⟩,
  ⟨(some 20), none, .load1 (.tmp 19), 4⟩,
  ⟨(some 21), none, .bin .neq .other (.tmp 18) (.tmp 20), 15⟩]
def laws_eqDesk_r6 : List SOper := [
  ⟨(some 4), none, .mov (.const (.bool false)), 0⟩]
def laws_eqDesk_r7 : List SOper := [
  ⟨(some 4), none, .mov (.const (.bool true)), 0⟩]
def laws_eqDesk (i_laws_eqSheet i_laws_eqField : FuncId) : SFunc := ⟨22, [.tmp 4], (.kp [0, 1] (.seq (.region laws_eqDesk_r0 false) (.kp [2, 3] (.seq (.seq (.region (laws_eqDesk_r1 i_laws_eqSheet) false) (.kp [2, 3, 10] (.cond (.tmp 10) (.seq (.region laws_eqDesk_r2 false) .ret) .skip))) (.kp [2, 3] (.seq (.seq (.region (laws_eqDesk_r3 i_laws_eqField) false) (.kp [2, 3, 16] (.cond (.tmp 16) (.seq (.region laws_eqDesk_r4 false) .ret) .skip))) (.kp [2, 3] (.seq (.seq (.region laws_eqDesk_r5 false) (.kp [21] (.cond (.tmp 21) (.seq (.region laws_eqDesk_r6 false) .ret) .skip))) (.kp [] (.seq (.region laws_eqDesk_r7 false) .ret))))))))))⟩
/- loop.example/g01201/laws.FnExactValidDesk -/
def laws_FnExactValidDesk_r0 : List SOper := [
  ⟨(some 1), none, .box (.tmp 0), 0⟩,
  ⟨(some 2), none, .mov (.const (.bool false)), 0⟩]
def laws_FnExactValidDesk_r1 : List SOper := [
  ⟨(some 3), none, .mov (.const (.int .i64 1048576)), 0⟩]
def laws_FnExactValidDesk_r2 (i_laws_szDesk : FuncId) : List SOper := [
  ⟨(some 7), none, .loadN 9 (.tmp 1), 0⟩,
  ⟨(some 8), none, .mov (.tmp 3), 0⟩,
  ⟨(some 9), none, .call (.func i_laws_szDesk) [(.tmp 7), (.tmp 8)], 3⟩,
  ⟨(some 3), none, .mov (.tmp 9), 7⟩]
def laws_FnExactValidDesk_r3 : List SOper := [
  ⟨(some 10), none, .mov (.tmp 3), 0⟩,
  ⟨(some 11), none, .bin .lss .other (.tmp 10) (.const (.int .i64 0)), 1⟩]
def laws_FnExactValidDesk_r4 : List SOper := [
  ⟨(some 2), none, .mov (.const (.bool true)), 0⟩]
def laws_FnExactValidDesk_r5 (i_laws_toDesk i_spec_ValidDesk : FuncId) : List SOper := [
  ⟨(some 12), none, .loadN 9 (.tmp 1), 0⟩,
  ⟨(some 13), none, .call (.func i_laws_toDesk) [(.tmp 12)], 1⟩,
  ⟨(some 14), none, .call (.func i_spec_ValidDesk) [(.tmp 13)], 3⟩,
  ⟨(some 4), none, .mov (.tmp 14), 7⟩]
def laws_FnExactValidDesk_r6 (i_laws_toDesk : FuncId) : List SOper := [
  ⟨(some 15), none, .loadN 9 (.tmp 1), 0⟩,
  ⟨(some 16), none, .call (.func i_laws_toDesk) [(.tmp 15)], 1⟩,
  ⟨(some 5), none, .alloc [(.int .i64 0), (.int .i64 0), (.bool false), (.slice none 0 0), (.slice none 0 0), (.slice none 0 0), (.slice none 0 0), (.slice none 0 0), (.int .i64 0)], 0⟩,
  ⟨none, none, .store 9 (.tmp 5) (.tmp 16), 7⟩]
def laws_FnExactValidDesk_r7 (i_impl_ValidDesk : FuncId) : List SOper := [
  ⟨(some 17), none, .loadN 9 (.tmp 5), 0⟩,
  ⟨(some 18), none, .call (.func i_impl_ValidDesk) [(.tmp 17)], 1⟩,
  ⟨(some 6), none, .mov (.tmp 18), 3⟩]
def laws_FnExactValidDesk_r8 : List SOper := [
  ⟨(some 19), none, .mov (.tmp 6), 0⟩,
  ⟨(some 20), none, .mov (.tmp 4), 0⟩,
  ⟨(some 21), none, .bin .neq .bool (.tmp 19) (.tmp 20), 3⟩]
def laws_FnExactValidDesk_r9 : List SOper := [
  ⟨(some 2), none, .mov (.const (.bool false)), 0⟩]
def laws_FnExactValidDesk_r10 (i_laws_toDesk i_laws_eqDesk : FuncId) : List SOper := [
  ⟨(some 22), none, .loadN 9 (.tmp 5), 0⟩,
  ⟨(some 23), none, .loadN 9 (.tmp 1), 0⟩,
  ⟨(some 24), none, .call (.func i_laws_toDesk) [(.tmp 23)], 2⟩,
  ⟨(some 25), none, .call (.func i_laws_eqDesk) [(.tmp 22), (.tmp 24)], 7⟩,
  ⟨(some 26), none, .un .not (.tmp 25), 15⟩]
def laws_FnExactValidDesk_r11 : List SOper := [
  ⟨(some 2), none, .mov (.const (.bool false)), 0⟩]
def laws_FnExactValidDesk_r12 : List SOper := [
  ⟨(some 2), none, .mov (.const (.bool true)), 0⟩]
def laws_FnExactValidDesk (i_laws_szDesk i_laws_toDesk i_spec_ValidDesk i_impl_ValidDesk i_laws_eqDesk : FuncId) : SFunc := ⟨27, [.tmp 2], (.kp [0] (.seq (.region laws_FnExactValidDesk_r0 false) (.kp [1] (.seq (.region laws_FnExactValidDesk_r1 false) (.kp [1, 3] (.seq (.region (laws_FnExactValidDesk_r2 i_laws_szDesk) false) (.kp [1, 3] (.seq (.seq (.region laws_FnExactValidDesk_r3 false) (.kp [1, 11] (.cond (.tmp 11) (.seq (.region laws_FnExactValidDesk_r4 false) .ret) .skip))) (.kp [1] (.seq (.region (laws_FnExactValidDesk_r5 i_laws_toDesk i_spec_ValidDesk) false) (.kp [1, 4] (.seq (.region (laws_FnExactValidDesk_r6 i_laws_toDesk) false) (.kp [1, 4, 5] (.seq (.region (laws_FnExactValidDesk_r7 i_impl_ValidDesk) false) (.kp [1, 4, 5, 6] (.seq (.seq (.region laws_FnExactValidDesk_r8 false) (.kp [1, 5, 21] (.cond (.tmp 21) (.seq (.region laws_FnExactValidDesk_r9 false) .ret) .skip))) (.kp [1, 5] (.seq (.seq (.region (laws_FnExactValidDesk_r10 i_laws_toDesk i_laws_eqDesk) true) (.kp [26] (.cond (.tmp 26) (.seq (.region laws_FnExactValidDesk_r11 false) .ret) .skip))) (.kp [] (.seq (.region laws_FnExactValidDesk_r12 false) .ret))))))))))))))))))))⟩

/-- The value of a desk. -/
abbrev dkV (w h : Int) (wr : Bool) (sv lv ev xv yv : Value) (t : Int) : Value := .agg #[.int .i64 w, .int .i64 h, .bool wr, sv, lv, ev, xv, yv, .int .i64 t]
def isDesk (w h : Int) (wr : Bool) (sp lo e x y : List Nat) (t : Int) : Bool := isField w h wr sp lo e x y && inR t 0 100000

def spec_l11Is_ok (c : Contract) : Prop := ∀ (σ : Heap) (b : Nat) (w h : Int) (wr : Bool) (sv lv : Value) (sp lo : List Nat) (ev xv yv : Value) (e x y : List Nat) (t : Int) (r : Bool), σ[b]? = some ⟨[.int .i64 w, .int .i64 h, .bool wr, sv, lv, ev, xv, yv, .int .i64 t], 0, r⟩ →
    ShR σ sv lv sp lo → sp.length ≤ 1048576 → lo.length ≤ 1048576 → FlR σ ev xv yv e x y → e.length ≤ 1048576 → x.length ≤ 1048576 → y.length ≤ 1048576 →
    Ret c [.pointer (some ⟨b, 0, none⟩)] σ fun v σ' => v = .bool (isDesk w h wr sp lo e x y t) ∧ σ' = σ
theorem spec_l11Is_law {C : Ctab} {i j : FuncId} {c d : Contract} (h1 : Has C i c spec_l03Both_ok) (h2 : Has C j d spec_l00In_ok) : spec_l11Is_ok (gcC C (spec_l11Is i j) true) := by
  intro σ b w h wr sv lv sp lo ev xv yv e x y t r hb hr hn1 hn2 hf hm1 hm2 hm3
  obtain ⟨r1, r2⟩ := hr
  obtain ⟨r3, r4, r5⟩ := hf
  have p1 : PtAt σ b (0 + 0) [.int .i64 w, .int .i64 h, .bool wr, sv, lv] := PtAt.part hb _ _ rfl
  have p2 : PtAt σ b (0 + 5) [ev, xv, yv] := PtAt.part hb _ _ rfl
  have p0 := PtAt.whole hb
  unfold isDesk
  refine ret_gc rfl rfl ?_
  repeat' (first | apply Ev.sq | apply Ev.rg | refine Ev.aKp ?_ | apply thenQ.n | apply thenQ.e | apply thenQ.r | apply blkQ.n | apply blkQ.e | refine blkQ.x ?_ rfl | apply blkQ.r | refine Ev.aT ?_ | refine Ev.aF ?_ | apply Ev.skip | apply Ev.exit | apply Ev.ret | apply Ev.bk | refine EvR.mv ?_ | refine EvR.fa ?_ | refine EvR.l1 ?_ | refine EvR.aNotSF ?_ | refine EvR.aNotST ?_ | refine EvR.aMetT ?_ | refine EvR.aMetF ?_ | refine EvR.aUS ?_ | refine EvR.mvc ?_ | refine EvR.lp ?_ | refine EvR.lNp ?_ | refine EvR.pkT ?_ | refine EvR.pkF ?_ | refine EvR.lN ?_ | refine EvR.ix ?_ | refine EvR.le ?_ | refine EvR.ixo ?_ | refine EvR.l1o ?_ | refine EvR.lei ?_ | refine EvR.leb ?_ | refine EvR.lnr ?_ | refine EvR.lns ?_ | refine EvR.nt ?_ | refine EvR.lt ?_ | refine EvR.le_ ?_ | refine EvR.gt ?_ | refine EvR.ge ?_ | refine EvR.eqi ?_ | refine EvR.nei ?_ | refine EvR.add ?_ | refine EvR.sub ?_ | refine EvR.mul ?_ | refine EvR.rem ?_ | refine EvR.quo ?_ | refine EvR.nc ?_ | refine EvR.ex ?_ | refine EvR.f1 ?_ | refine EvR.fadd ?_ | refine EvR.fsub ?_ | refine EvR.fmul ?_ | refine EvR.fquo ?_ | refine EvR.flt_ ?_ | refine EvR.fle_ ?_ | refine EvR.fgt_ ?_ | refine EvR.fge_ ?_ | refine EvR.feq_ ?_ | refine EvR.fne_ ?_ | refine EvR.cv ?_ | refine EvR.cvu ?_ | refine EvR.cvf ?_ | refine EvR.cvw ?_ | refine EvR.bx ?_ | refine EvR.aNotNT ?_ | refine EvR.aNotNF ?_ | refine EvR.aUN ?_ | refine EvR.nl ?_ | (apply EvR.aCall h1.at_; (· exact eva); (· apply h1.ok <;> exact sid); (rintro _ _ ⟨rfl, rfl⟩; refine EvR.nrm ?_)) | (apply EvR.aCall h2.at_; (· exact eva); (· apply h2.ok <;> exact sid); (rintro _ _ ⟨rfl, rfl⟩; refine EvR.nrm ?_)) | (apply Ev.regionQ (by kernel_rfl); (· exact quie)) | (refine EvR.aSplB ?_ ?_ <;> (intro hb; rw [hb]; (try simp only [Bool.not_eq_true', Bool.not_eq_false', Bool.not_eq_eq_eq_not, Bool.not_true, Bool.not_false, decide_eq_true_eq, decide_eq_false_iff_not, Bool.and_eq_true, Bool.and_eq_false_iff, Bool.or_eq_true, Bool.or_eq_false_iff] at hb); (try (exfalso; omega)))) | (refine Ev.aSplB ?_ ?_ <;> (intro hb; (try rw [hb]); (try simp only [Bool.not_eq_true', Bool.not_eq_false', Bool.not_eq_eq_eq_not, Bool.not_true, Bool.not_false, decide_eq_true_eq, decide_eq_false_iff_not, Bool.and_eq_true, Bool.and_eq_false_iff, Bool.or_eq_true, Bool.or_eq_false_iff] at hb); (try (exfalso; omega)))) | (apply EvR.aS0; (· exact evc)) | (apply EvR.aN0; (· exact evc)) | (apply endS trivial; rotate_left; (· exact eva); (· rfl); try refine ⟨?_, rfl⟩) | fail)
  all_goals simp [*]

def ValidDesk_ok (c : Contract) : Prop := ∀ (σ : Heap) (w h : Int) (wr : Bool) (sv lv : Value) (sp lo : List Nat) (ev xv yv : Value) (e x y : List Nat) (t : Int),
    ShR σ sv lv sp lo → sp.length ≤ 1048576 → lo.length ≤ 1048576 → FlR σ ev xv yv e x y → e.length ≤ 1048576 → x.length ≤ 1048576 → y.length ≤ 1048576 →
    Ret c [dkV w h wr sv lv ev xv yv t] σ fun v σ' => v = .bool (isDesk w h wr sp lo e x y t) ∧ σ' = σ
abbrev spec_ValidDesk_ok := ValidDesk_ok
abbrev impl_ValidDesk_ok := ValidDesk_ok
theorem spec_ValidDesk_law {C : Ctab} {i : FuncId} {c : Contract} (h1 : Has C i c spec_l11Is_ok) : spec_ValidDesk_ok (gcC C (spec_ValidDesk i) true) := by
  intro σ w h wr sv lv sp lo ev xv yv e x y t hr hn1 hn2 hf hm1 hm2 hm3
  obtain ⟨r1, r2⟩ := hr
  obtain ⟨r3, r4, r5⟩ := hf
  refine ret_gc rfl rfl ?_
  repeat' (first | apply Ev.sq | apply Ev.rg | refine Ev.aKp ?_ | apply thenQ.n | apply thenQ.e | apply thenQ.r | apply blkQ.n | apply blkQ.e | refine blkQ.x ?_ rfl | apply blkQ.r | refine Ev.aT ?_ | refine Ev.aF ?_ | apply Ev.skip | apply Ev.exit | apply Ev.ret | apply Ev.bk | refine EvR.mv ?_ | refine EvR.fa ?_ | refine EvR.l1 ?_ | refine EvR.aNotSF ?_ | refine EvR.aNotST ?_ | refine EvR.aMetT ?_ | refine EvR.aMetF ?_ | refine EvR.aUS ?_ | refine EvR.mvc ?_ | refine EvR.lp ?_ | refine EvR.lNp ?_ | refine EvR.pkT ?_ | refine EvR.pkF ?_ | refine EvR.lN ?_ | refine EvR.ix ?_ | refine EvR.le ?_ | refine EvR.ixo ?_ | refine EvR.l1o ?_ | refine EvR.lei ?_ | refine EvR.leb ?_ | refine EvR.lnr ?_ | refine EvR.lns ?_ | refine EvR.nt ?_ | refine EvR.lt ?_ | refine EvR.le_ ?_ | refine EvR.gt ?_ | refine EvR.ge ?_ | refine EvR.eqi ?_ | refine EvR.nei ?_ | refine EvR.add ?_ | refine EvR.sub ?_ | refine EvR.mul ?_ | refine EvR.rem ?_ | refine EvR.quo ?_ | refine EvR.nc ?_ | refine EvR.ex ?_ | refine EvR.f1 ?_ | refine EvR.fadd ?_ | refine EvR.fsub ?_ | refine EvR.fmul ?_ | refine EvR.fquo ?_ | refine EvR.flt_ ?_ | refine EvR.fle_ ?_ | refine EvR.fgt_ ?_ | refine EvR.fge_ ?_ | refine EvR.feq_ ?_ | refine EvR.fne_ ?_ | refine EvR.cv ?_ | refine EvR.cvu ?_ | refine EvR.cvf ?_ | refine EvR.cvw ?_ | refine EvR.bx ?_ | refine EvR.aNotNT ?_ | refine EvR.aNotNF ?_ | refine EvR.aUN ?_ | refine EvR.nl ?_ | (apply Ev.regionQ (by kernel_rfl); (· exact quie)) | (refine EvR.aSplB ?_ ?_ <;> (intro hb; rw [hb]; (try simp only [Bool.not_eq_true', Bool.not_eq_false', Bool.not_eq_eq_eq_not, Bool.not_true, Bool.not_false, decide_eq_true_eq, decide_eq_false_iff_not, Bool.and_eq_true, Bool.and_eq_false_iff, Bool.or_eq_true, Bool.or_eq_false_iff] at hb); (try (exfalso; omega)))) | (refine Ev.aSplB ?_ ?_ <;> (intro hb; (try rw [hb]); (try simp only [Bool.not_eq_true', Bool.not_eq_false', Bool.not_eq_eq_eq_not, Bool.not_true, Bool.not_false, decide_eq_true_eq, decide_eq_false_iff_not, Bool.and_eq_true, Bool.and_eq_false_iff, Bool.or_eq_true, Bool.or_eq_false_iff] at hb); (try (exfalso; omega)))) | (apply EvR.aS0; (· exact evc)) | (apply EvR.aN0; (· exact evc)) | (apply endS trivial; rotate_left; (· exact eva); (· rfl); try refine ⟨?_, rfl⟩) | fail)
  (apply EvR.callF h1.at_; (· simp only [push_cast, Nat.reduceEqDiff, reduceIte, Nat.reduceAdd, Nat.reduceLeDiff] <;> with_reducible rfl); (· exact  h1.ok _ _ w h wr sv lv sp lo ev xv yv e x y t true (hget _ _ 0) ⟨r1.ext _, r2.ext _⟩ hn1 hn2 ⟨r3.ext _, r4.ext _, r5.ext _⟩ hm1 hm2 hm3); (· intro _; simp only [push_cast, Nat.reduceEqDiff, reduceIte, Nat.reduceAdd, Nat.reduceLeDiff] <;> with_reducible rfl); rintro _ _ ⟨rfl, rfl⟩; try dsimp only)
  repeat' (first | apply Ev.sq | apply Ev.rg | refine Ev.aKp ?_ | apply thenQ.n | apply thenQ.e | apply thenQ.r | apply blkQ.n | apply blkQ.e | refine blkQ.x ?_ rfl | apply blkQ.r | refine Ev.aT ?_ | refine Ev.aF ?_ | apply Ev.skip | apply Ev.exit | apply Ev.ret | apply Ev.bk | refine EvR.mv ?_ | refine EvR.fa ?_ | refine EvR.l1 ?_ | refine EvR.aNotSF ?_ | refine EvR.aNotST ?_ | refine EvR.aMetT ?_ | refine EvR.aMetF ?_ | refine EvR.aUS ?_ | refine EvR.mvc ?_ | refine EvR.lp ?_ | refine EvR.lNp ?_ | refine EvR.pkT ?_ | refine EvR.pkF ?_ | refine EvR.lN ?_ | refine EvR.ix ?_ | refine EvR.le ?_ | refine EvR.ixo ?_ | refine EvR.l1o ?_ | refine EvR.lei ?_ | refine EvR.leb ?_ | refine EvR.lnr ?_ | refine EvR.lns ?_ | refine EvR.nt ?_ | refine EvR.lt ?_ | refine EvR.le_ ?_ | refine EvR.gt ?_ | refine EvR.ge ?_ | refine EvR.eqi ?_ | refine EvR.nei ?_ | refine EvR.add ?_ | refine EvR.sub ?_ | refine EvR.mul ?_ | refine EvR.rem ?_ | refine EvR.quo ?_ | refine EvR.nc ?_ | refine EvR.ex ?_ | refine EvR.f1 ?_ | refine EvR.fadd ?_ | refine EvR.fsub ?_ | refine EvR.fmul ?_ | refine EvR.fquo ?_ | refine EvR.flt_ ?_ | refine EvR.fle_ ?_ | refine EvR.fgt_ ?_ | refine EvR.fge_ ?_ | refine EvR.feq_ ?_ | refine EvR.fne_ ?_ | refine EvR.cv ?_ | refine EvR.cvu ?_ | refine EvR.cvf ?_ | refine EvR.cvw ?_ | refine EvR.bx ?_ | refine EvR.aNotNT ?_ | refine EvR.aNotNF ?_ | refine EvR.aUN ?_ | refine EvR.nl ?_ | (apply Ev.regionQ (by kernel_rfl); (· exact quie)) | (refine EvR.aSplB ?_ ?_ <;> (intro hb; rw [hb]; (try simp only [Bool.not_eq_true', Bool.not_eq_false', Bool.not_eq_eq_eq_not, Bool.not_true, Bool.not_false, decide_eq_true_eq, decide_eq_false_iff_not, Bool.and_eq_true, Bool.and_eq_false_iff, Bool.or_eq_true, Bool.or_eq_false_iff] at hb); (try (exfalso; omega)))) | (refine Ev.aSplB ?_ ?_ <;> (intro hb; (try rw [hb]); (try simp only [Bool.not_eq_true', Bool.not_eq_false', Bool.not_eq_eq_eq_not, Bool.not_true, Bool.not_false, decide_eq_true_eq, decide_eq_false_iff_not, Bool.and_eq_true, Bool.and_eq_false_iff, Bool.or_eq_true, Bool.or_eq_false_iff] at hb); (try (exfalso; omega)))) | (apply EvR.aS0; (· exact evc)) | (apply EvR.aN0; (· exact evc)) | (apply endS trivial; rotate_left; (· exact eva); (· rfl); try refine ⟨?_, rfl⟩) | fail)
  rfl
theorem impl_ValidDesk_law {C : Ctab} {i j : FuncId} {c d : Contract} (h1 : Has C i c impl_IsField_ok) (h2 : Has C j d impl_within_ok) : impl_ValidDesk_ok (gcC C (impl_ValidDesk i j) true) := by
  intro σ w h wr sv lv sp lo ev xv yv e x y t hr hn1 hn2 hf hm1 hm2 hm3
  obtain ⟨r1, r2⟩ := hr
  obtain ⟨r3, r4, r5⟩ := hf
  unfold isDesk
  refine ret_gc rfl rfl ?_
  repeat' (first | apply Ev.sq | apply Ev.rg | refine Ev.aKp ?_ | apply thenQ.n | apply thenQ.e | apply thenQ.r | apply blkQ.n | apply blkQ.e | refine blkQ.x ?_ rfl | apply blkQ.r | refine Ev.aT ?_ | refine Ev.aF ?_ | apply Ev.skip | apply Ev.exit | apply Ev.ret | apply Ev.bk | refine EvR.mv ?_ | refine EvR.fa ?_ | refine EvR.l1 ?_ | refine EvR.aNotSF ?_ | refine EvR.aNotST ?_ | refine EvR.aMetT ?_ | refine EvR.aMetF ?_ | refine EvR.aUS ?_ | refine EvR.mvc ?_ | refine EvR.lp ?_ | refine EvR.lNp ?_ | refine EvR.pkT ?_ | refine EvR.pkF ?_ | refine EvR.lN ?_ | refine EvR.ix ?_ | refine EvR.le ?_ | refine EvR.ixo ?_ | refine EvR.l1o ?_ | refine EvR.lei ?_ | refine EvR.leb ?_ | refine EvR.lnr ?_ | refine EvR.lns ?_ | refine EvR.nt ?_ | refine EvR.lt ?_ | refine EvR.le_ ?_ | refine EvR.gt ?_ | refine EvR.ge ?_ | refine EvR.eqi ?_ | refine EvR.nei ?_ | refine EvR.add ?_ | refine EvR.sub ?_ | refine EvR.mul ?_ | refine EvR.rem ?_ | refine EvR.quo ?_ | refine EvR.nc ?_ | refine EvR.ex ?_ | refine EvR.f1 ?_ | refine EvR.fadd ?_ | refine EvR.fsub ?_ | refine EvR.fmul ?_ | refine EvR.fquo ?_ | refine EvR.flt_ ?_ | refine EvR.fle_ ?_ | refine EvR.fgt_ ?_ | refine EvR.fge_ ?_ | refine EvR.feq_ ?_ | refine EvR.fne_ ?_ | refine EvR.cv ?_ | refine EvR.cvu ?_ | refine EvR.cvf ?_ | refine EvR.cvw ?_ | refine EvR.bx ?_ | refine EvR.aNotNT ?_ | refine EvR.aNotNF ?_ | refine EvR.aUN ?_ | refine EvR.nl ?_ | (apply EvR.aCall h1.at_; (· exact eva); (· apply h1.ok <;> exact sid); (rintro _ _ ⟨rfl, rfl⟩; refine EvR.nrm ?_)) | (apply EvR.aCall h2.at_; (· exact eva); (· apply h2.ok <;> exact sid); (rintro _ _ ⟨rfl, rfl⟩; refine EvR.nrm ?_)) | (apply Ev.regionQ (by kernel_rfl); (· exact quie)) | (refine EvR.aSplB ?_ ?_ <;> (intro hb; rw [hb]; (try simp only [Bool.not_eq_true', Bool.not_eq_false', Bool.not_eq_eq_eq_not, Bool.not_true, Bool.not_false, decide_eq_true_eq, decide_eq_false_iff_not, Bool.and_eq_true, Bool.and_eq_false_iff, Bool.or_eq_true, Bool.or_eq_false_iff] at hb); (try (exfalso; omega)))) | (refine Ev.aSplB ?_ ?_ <;> (intro hb; (try rw [hb]); (try simp only [Bool.not_eq_true', Bool.not_eq_false', Bool.not_eq_eq_eq_not, Bool.not_true, Bool.not_false, decide_eq_true_eq, decide_eq_false_iff_not, Bool.and_eq_true, Bool.and_eq_false_iff, Bool.or_eq_true, Bool.or_eq_false_iff] at hb); (try (exfalso; omega)))) | (apply EvR.aS0; (· exact evc)) | (apply EvR.aN0; (· exact evc)) | (apply endS trivial; rotate_left; (· exact eva); (· rfl); try refine ⟨?_, rfl⟩) | fail)
  all_goals simp [*]

def laws_toDesk_ok (c : Contract) : Prop := ∀ (σ : Heap) (w h : Int) (wr : Bool) (sv lv : Value) (sp lo : List Nat) (ev xv yv : Value) (e x y : List Nat) (t : Int),
    ShR σ sv lv sp lo → sp.length ≤ 1048576 → lo.length ≤ 1048576 → FlR σ ev xv yv e x y → e.length ≤ 1048576 → x.length ≤ 1048576 → y.length ≤ 1048576 →
    Ret c [dkV w h wr sv lv ev xv yv t] σ fun v σ' => v = dkV w h wr (slV σ.length sp.length) (slV (σ.length + 1) lo.length) (slV (σ.length + 2) e.length) (slV (σ.length + 3) x.length) (slV (σ.length + 4) y.length) t ∧ σ' = σ ++ [rowO sp, rowO lo, rowO e, rowO x, rowO y]
theorem laws_toDesk_law {C : Ctab} {i j : FuncId} {c d : Contract} (h1 : Has C i c laws_toSheet_ok) (h2 : Has C j d laws_toField_ok) : laws_toDesk_ok (gcC C (laws_toDesk i j) true) := by
  intro σ w h wr sv lv sp lo ev xv yv e x y t hr hn1 hn2 hf hm1 hm2 hm3
  obtain ⟨r1, r2⟩ := hr
  obtain ⟨r3, r4, r5⟩ := hf
  refine ret_gc rfl rfl ?_
  repeat' (first | apply Ev.sq | apply Ev.rg | refine Ev.aKp ?_ | apply thenQ.n | apply thenQ.e | apply thenQ.r | apply blkQ.n | apply blkQ.e | refine blkQ.x ?_ rfl | apply blkQ.r | refine Ev.aT ?_ | refine Ev.aF ?_ | apply Ev.skip | apply Ev.exit | apply Ev.ret | apply Ev.bk | refine EvR.mv ?_ | refine EvR.fa ?_ | refine EvR.l1 ?_ | refine EvR.aNotSF ?_ | refine EvR.aNotST ?_ | refine EvR.aMetT ?_ | refine EvR.aMetF ?_ | refine EvR.aUS ?_ | refine EvR.mvc ?_ | refine EvR.lp ?_ | refine EvR.lNp ?_ | refine EvR.pkT ?_ | refine EvR.pkF ?_ | refine EvR.lN ?_ | refine EvR.ix ?_ | refine EvR.le ?_ | refine EvR.ixo ?_ | refine EvR.l1o ?_ | refine EvR.lei ?_ | refine EvR.leb ?_ | refine EvR.lnr ?_ | refine EvR.lns ?_ | refine EvR.nt ?_ | refine EvR.lt ?_ | refine EvR.le_ ?_ | refine EvR.gt ?_ | refine EvR.ge ?_ | refine EvR.eqi ?_ | refine EvR.nei ?_ | refine EvR.add ?_ | refine EvR.sub ?_ | refine EvR.mul ?_ | refine EvR.rem ?_ | refine EvR.quo ?_ | refine EvR.nc ?_ | refine EvR.ex ?_ | refine EvR.f1 ?_ | refine EvR.fadd ?_ | refine EvR.fsub ?_ | refine EvR.fmul ?_ | refine EvR.fquo ?_ | refine EvR.flt_ ?_ | refine EvR.fle_ ?_ | refine EvR.fgt_ ?_ | refine EvR.fge_ ?_ | refine EvR.feq_ ?_ | refine EvR.fne_ ?_ | refine EvR.cv ?_ | refine EvR.cvu ?_ | refine EvR.cvf ?_ | refine EvR.cvw ?_ | refine EvR.bx ?_ | refine EvR.aNotNT ?_ | refine EvR.aNotNF ?_ | refine EvR.aUN ?_ | refine EvR.nl ?_ | (apply EvR.aCall h1.at_; (· exact eva); (· apply h1.ok <;> exact sid); (rintro _ _ ⟨rfl, rfl⟩; refine EvR.nrm ?_)) | (apply EvR.aCall h2.at_; (· exact eva); (· apply h2.ok <;> exact sid); (rintro _ _ ⟨rfl, rfl⟩; refine EvR.nrm ?_)) | (apply Ev.regionQ (by kernel_rfl); (· exact quie)) | (refine EvR.aSplB ?_ ?_ <;> (intro hb; rw [hb]; (try simp only [Bool.not_eq_true', Bool.not_eq_false', Bool.not_eq_eq_eq_not, Bool.not_true, Bool.not_false, decide_eq_true_eq, decide_eq_false_iff_not, Bool.and_eq_true, Bool.and_eq_false_iff, Bool.or_eq_true, Bool.or_eq_false_iff] at hb); (try (exfalso; omega)))) | (refine Ev.aSplB ?_ ?_ <;> (intro hb; (try rw [hb]); (try simp only [Bool.not_eq_true', Bool.not_eq_false', Bool.not_eq_eq_eq_not, Bool.not_true, Bool.not_false, decide_eq_true_eq, decide_eq_false_iff_not, Bool.and_eq_true, Bool.and_eq_false_iff, Bool.or_eq_true, Bool.or_eq_false_iff] at hb); (try (exfalso; omega)))) | (apply EvR.aS0; (· exact evc)) | (apply EvR.aN0; (· exact evc)) | (apply endS trivial; rotate_left; (· exact eva); (· rfl); try refine ⟨?_, rfl⟩) | fail)
  (apply endR [3, 4, 5, 6, 7] trivial ⟨rfl, rfl⟩; (· exact eva); (· simp [gcTop, gcVal, gcLeaf, gcLeaves, gcVals, constOk, gc_lt, gc_lt0]); (· rfl); (· decide); (· simp [allConst, f32s, i64s, b8s, bools, constOk]))

def laws_eqDesk_ok (c : Contract) : Prop := ∀ (σ : Heap) (w h : Int) (wr : Bool) (sp lo e x y : List Nat) (t : Int) (sv lv ev xv yv sv' lv' ev' xv' yv' : Value),
    ShR σ sv lv sp lo → ShR σ sv' lv' sp lo → sp.length ≤ 1048576 → lo.length ≤ 1048576 → FlR σ ev xv yv e x y → FlR σ ev' xv' yv' e x y → e.length ≤ 1048576 → x.length ≤ 1048576 → y.length ≤ 1048576 →
    Ret c [dkV w h wr sv lv ev xv yv t, dkV w h wr sv' lv' ev' xv' yv' t] σ fun v σ' => v = .bool true ∧ σ' = σ
theorem laws_eqDesk_law {C : Ctab} {i j : FuncId} {c d : Contract} (h1 : Has C i c laws_eqSheet_ok) (h2 : Has C j d laws_eqField_ok) : laws_eqDesk_ok (gcC C (laws_eqDesk i j) true) := by
  intro σ w h wr sp lo e x y t sv lv ev xv yv sv' lv' ev' xv' yv' hr hr' hn1 hn2 hf hf' hm1 hm2 hm3
  obtain ⟨r1, r2⟩ := hr
  obtain ⟨r3, r4, r5⟩ := hf
  obtain ⟨r1', r2'⟩ := hr'
  obtain ⟨r3', r4', r5'⟩ := hf'
  refine ret_gc rfl rfl ?_
  repeat' (first | apply Ev.sq | apply Ev.rg | refine Ev.aKp ?_ | apply thenQ.n | apply thenQ.e | apply thenQ.r | apply blkQ.n | apply blkQ.e | refine blkQ.x ?_ rfl | apply blkQ.r | refine Ev.aT ?_ | refine Ev.aF ?_ | apply Ev.skip | apply Ev.exit | apply Ev.ret | apply Ev.bk | refine EvR.mv ?_ | refine EvR.fa ?_ | refine EvR.l1 ?_ | refine EvR.aNotSF ?_ | refine EvR.aNotST ?_ | refine EvR.aMetT ?_ | refine EvR.aMetF ?_ | refine EvR.aUS ?_ | refine EvR.mvc ?_ | refine EvR.lp ?_ | refine EvR.lNp ?_ | refine EvR.pkT ?_ | refine EvR.pkF ?_ | refine EvR.lN ?_ | refine EvR.ix ?_ | refine EvR.le ?_ | refine EvR.ixo ?_ | refine EvR.l1o ?_ | refine EvR.lei ?_ | refine EvR.leb ?_ | refine EvR.lnr ?_ | refine EvR.lns ?_ | refine EvR.nt ?_ | refine EvR.lt ?_ | refine EvR.le_ ?_ | refine EvR.gt ?_ | refine EvR.ge ?_ | refine EvR.eqi ?_ | refine EvR.nei ?_ | refine EvR.add ?_ | refine EvR.sub ?_ | refine EvR.mul ?_ | refine EvR.rem ?_ | refine EvR.quo ?_ | refine EvR.nc ?_ | refine EvR.ex ?_ | refine EvR.f1 ?_ | refine EvR.fadd ?_ | refine EvR.fsub ?_ | refine EvR.fmul ?_ | refine EvR.fquo ?_ | refine EvR.flt_ ?_ | refine EvR.fle_ ?_ | refine EvR.fgt_ ?_ | refine EvR.fge_ ?_ | refine EvR.feq_ ?_ | refine EvR.fne_ ?_ | refine EvR.cv ?_ | refine EvR.cvu ?_ | refine EvR.cvf ?_ | refine EvR.cvw ?_ | refine EvR.bx ?_ | refine EvR.aNotNT ?_ | refine EvR.aNotNF ?_ | refine EvR.aUN ?_ | refine EvR.nl ?_ | (apply EvR.aCall h1.at_; (· exact eva); (· apply h1.ok <;> exact sid); (rintro _ _ ⟨rfl, rfl⟩; refine EvR.nrm ?_)) | (apply EvR.aCall h2.at_; (· exact eva); (· apply h2.ok <;> exact sid); (rintro _ _ ⟨rfl, rfl⟩; refine EvR.nrm ?_)) | (apply Ev.regionQ (by kernel_rfl); (· exact quie)) | (refine EvR.aSplB ?_ ?_ <;> (intro hb; rw [hb]; (try simp only [Bool.not_eq_true', Bool.not_eq_false', Bool.not_eq_eq_eq_not, Bool.not_true, Bool.not_false, decide_eq_true_eq, decide_eq_false_iff_not, Bool.and_eq_true, Bool.and_eq_false_iff, Bool.or_eq_true, Bool.or_eq_false_iff] at hb); (try (exfalso; omega)))) | (refine Ev.aSplB ?_ ?_ <;> (intro hb; (try rw [hb]); (try simp only [Bool.not_eq_true', Bool.not_eq_false', Bool.not_eq_eq_eq_not, Bool.not_true, Bool.not_false, decide_eq_true_eq, decide_eq_false_iff_not, Bool.and_eq_true, Bool.and_eq_false_iff, Bool.or_eq_true, Bool.or_eq_false_iff] at hb); (try (exfalso; omega)))) | (apply EvR.aS0; (· exact evc)) | (apply EvR.aN0; (· exact evc)) | (apply endS trivial; rotate_left; (· exact eva); (· rfl); try refine ⟨?_, rfl⟩) | fail)
  all_goals rfl

theorem sz1_fact (n : Nat) (left : Int) : -1 ≤ sz1 n left ∧ (0 ≤ left → sz1 n left ≤ left) ∧ (0 ≤ sz1 n left → (n : Int) ≤ left) := by
  unfold sz1; split <;> omega
theorem szSheet_fact (sp lo : List Nat) (left : Int) (h : 0 ≤ left) : -1 ≤ szSheet sp lo left ∧ szSheet sp lo left ≤ left ∧ (0 ≤ szSheet sp lo left → (sp.length : Int) ≤ left ∧ (lo.length : Int) ≤ left) := by
  have h1 := sz1_fact sp.length left
  have h2 := sz1_fact lo.length (sz1 sp.length left)
  unfold szSheet
  split
  · omega
  · split <;> omega
theorem szField_fact (e x y : List Nat) (left : Int) (h : 0 ≤ left) : -1 ≤ szAll [e.length, x.length, y.length] left ∧ szAll [e.length, x.length, y.length] left ≤ left ∧ (0 ≤ szAll [e.length, x.length, y.length] left → (e.length : Int) ≤ left ∧ (x.length : Int) ≤ left ∧ (y.length : Int) ≤ left) := by
  have h1 := sz1_fact e.length left
  have h2 := sz1_fact x.length (sz1 e.length left)
  have h3 := sz1_fact y.length (sz1 x.length (sz1 e.length left))
  simp only [szAll]
  split
  · omega
  · split
    · omega
    · split <;> omega
def szDesk (sp lo e x y : List Nat) (left : Int) : Int := if szSheet sp lo left < 0 then -1 else if szAll [e.length, x.length, y.length] (szSheet sp lo left) < 0 then -1 else szAll [e.length, x.length, y.length] (szSheet sp lo left)
theorem szDesk_fact (sp lo e x y : List Nat) (left : Int) (h : 0 ≤ left) : -1 ≤ szDesk sp lo e x y left ∧ szDesk sp lo e x y left ≤ left ∧ (0 ≤ szDesk sp lo e x y left → (sp.length : Int) ≤ left ∧ (lo.length : Int) ≤ left ∧ (e.length : Int) ≤ left ∧ (x.length : Int) ≤ left ∧ (y.length : Int) ≤ left) := by
  have h1 := szSheet_fact sp lo left h
  unfold szDesk
  split
  · omega
  · have h2 := szField_fact e x y (szSheet sp lo left) (by omega)
    split <;> omega
def laws_szDesk_ok (c : Contract) : Prop := ∀ (σ : Heap) (w h : Int) (wr : Bool) (sv lv : Value) (sp lo : List Nat) (ev xv yv : Value) (e x y : List Nat) (t : Int) (left : Int),
    ShR σ sv lv sp lo → sp.length ≤ 9223372036854775807 → lo.length ≤ 9223372036854775807 → FlR σ ev xv yv e x y → e.length ≤ 9223372036854775807 → x.length ≤ 9223372036854775807 → y.length ≤ 9223372036854775807 → 0 ≤ left → left ≤ 1048576 →
    Ret c [dkV w h wr sv lv ev xv yv t, .int .i64 left] σ fun v σ' => v = .int .i64 (szDesk sp lo e x y left) ∧ σ' = σ
theorem laws_szDesk_law {C : Ctab} {i j : FuncId} {c d : Contract} (h1 : Has C i c laws_szSheet_ok) (h2 : Has C j d laws_szField_ok) : laws_szDesk_ok (gcC C (laws_szDesk i j) true) := by
  intro σ w h wr sv lv sp lo ev xv yv e x y t left hr hn1 hn2 hf hm1 hm2 hm3 h0 hle
  obtain ⟨r1, r2⟩ := hr
  obtain ⟨r3, r4, r5⟩ := hf
  have z1 := szSheet_fact sp lo left h0
  unfold szDesk
  refine ret_gc rfl rfl ?_
  repeat' (first | apply Ev.sq | apply Ev.rg | refine Ev.aKp ?_ | apply thenQ.n | apply thenQ.e | apply thenQ.r | apply blkQ.n | apply blkQ.e | refine blkQ.x ?_ rfl | apply blkQ.r | refine Ev.aT ?_ | refine Ev.aF ?_ | apply Ev.skip | apply Ev.exit | apply Ev.ret | apply Ev.bk | refine EvR.mv ?_ | refine EvR.fa ?_ | refine EvR.l1 ?_ | refine EvR.aNotSF ?_ | refine EvR.aNotST ?_ | refine EvR.aMetT ?_ | refine EvR.aMetF ?_ | refine EvR.aUS ?_ | refine EvR.mvc ?_ | refine EvR.lp ?_ | refine EvR.lNp ?_ | refine EvR.pkT ?_ | refine EvR.pkF ?_ | refine EvR.lN ?_ | refine EvR.ix ?_ | refine EvR.le ?_ | refine EvR.ixo ?_ | refine EvR.l1o ?_ | refine EvR.lei ?_ | refine EvR.leb ?_ | refine EvR.lnr ?_ | refine EvR.lns ?_ | refine EvR.nt ?_ | refine EvR.lt ?_ | refine EvR.le_ ?_ | refine EvR.gt ?_ | refine EvR.ge ?_ | refine EvR.eqi ?_ | refine EvR.nei ?_ | refine EvR.add ?_ | refine EvR.sub ?_ | refine EvR.mul ?_ | refine EvR.rem ?_ | refine EvR.quo ?_ | refine EvR.nc ?_ | refine EvR.ex ?_ | refine EvR.f1 ?_ | refine EvR.fadd ?_ | refine EvR.fsub ?_ | refine EvR.fmul ?_ | refine EvR.fquo ?_ | refine EvR.flt_ ?_ | refine EvR.fle_ ?_ | refine EvR.fgt_ ?_ | refine EvR.fge_ ?_ | refine EvR.feq_ ?_ | refine EvR.fne_ ?_ | refine EvR.cv ?_ | refine EvR.cvu ?_ | refine EvR.cvf ?_ | refine EvR.cvw ?_ | refine EvR.bx ?_ | refine EvR.aNotNT ?_ | refine EvR.aNotNF ?_ | refine EvR.aUN ?_ | refine EvR.nl ?_ | (apply EvR.aCall h1.at_; (· exact eva); (· apply h1.ok <;> exact sid); (rintro _ _ ⟨rfl, rfl⟩; refine EvR.nrm ?_)) | (apply EvR.aCall h2.at_; (· exact eva); (· apply h2.ok <;> exact sid); (rintro _ _ ⟨rfl, rfl⟩; refine EvR.nrm ?_)) | (apply Ev.regionQ (by kernel_rfl); (· exact quie)) | (refine EvR.aSplB ?_ ?_ <;> (intro hb; rw [hb]; (try simp only [Bool.not_eq_true', Bool.not_eq_false', Bool.not_eq_eq_eq_not, Bool.not_true, Bool.not_false, decide_eq_true_eq, decide_eq_false_iff_not, Bool.and_eq_true, Bool.and_eq_false_iff, Bool.or_eq_true, Bool.or_eq_false_iff] at hb); (try (exfalso; omega)))) | (refine Ev.aSplB ?_ ?_ <;> (intro hb; (try rw [hb]); (try simp only [Bool.not_eq_true', Bool.not_eq_false', Bool.not_eq_eq_eq_not, Bool.not_true, Bool.not_false, decide_eq_true_eq, decide_eq_false_iff_not, Bool.and_eq_true, Bool.and_eq_false_iff, Bool.or_eq_true, Bool.or_eq_false_iff] at hb); (try (exfalso; omega)))) | (apply EvR.aS0; (· exact evc)) | (apply EvR.aN0; (· exact evc)) | (apply endS trivial; rotate_left; (· exact eva); (· rfl); try refine ⟨?_, rfl⟩) | fail)
  all_goals simp [*]

abbrev deskK : Bool × List CK := (true, [.int .i64, .int .i64, .bool, .rowF .f32, .rowF .f32, .rowF .f32, .rowF .f32, .rowF .f32, .int .i64])
theorem desk_abs {σ : Heap} {v : Value} (h : argAbs σ true [.int .i64, .int .i64, .bool, .rowF .f32, .rowF .f32, .rowF .f32, .rowF .f32, .rowF .f32, .int .i64] v) :
    ∃ w h wr sv lv sp lo ev xv yv e x y t, v = dkV w h wr sv lv ev xv yv t ∧ ShR σ sv lv sp lo ∧ sp.length ≤ 9223372036854775807 ∧ lo.length ≤ 9223372036854775807 ∧ FlR σ ev xv yv e x y ∧ e.length ≤ 9223372036854775807 ∧ x.length ≤ 9223372036854775807 ∧ y.length ≤ 9223372036854775807 := by
  obtain ⟨cs, h1, h2⟩ := h
  obtain ⟨_, _, rfl, ⟨w, rfl, hw⟩, g1⟩ := absAll_cons h1
  obtain ⟨_, _, rfl, ⟨h, rfl, hh⟩, g2⟩ := absAll_cons g1
  obtain ⟨_, _, rfl, ⟨wr, rfl⟩, g3⟩ := absAll_cons g2
  obtain ⟨_, _, rfl, ⟨sp, hs, hs2, _⟩, g4⟩ := absAll_cons g3
  obtain ⟨_, _, rfl, ⟨lo, hl, hl2, _⟩, g5⟩ := absAll_cons g4
  obtain ⟨_, _, rfl, ⟨e, he, he2, _⟩, g6⟩ := absAll_cons g5
  obtain ⟨_, _, rfl, ⟨x, hx, hx2, _⟩, g7⟩ := absAll_cons g6
  obtain ⟨_, _, rfl, ⟨y, hy, hy2, _⟩, g8⟩ := absAll_cons g7
  obtain ⟨_, _, rfl, ⟨t, rfl, ht⟩, g9⟩ := absAll_cons g8
  cases absAll_nil g9
  rw [maxLen_eq] at hs2 hl2 he2 hx2 hy2
  exact ⟨w, h, wr, _, _, sp, lo, _, _, _, e, x, y, t, h2, ⟨hs, hl⟩, hs2, hl2, ⟨he, hx, hy⟩, he2, hx2, hy2⟩

def laws_FnExactValidDesk_ok (c : Contract) : Prop := AlwaysTrue [deskK] c
theorem laws_FnExactValidDesk_law {C : Ctab} {i1 i2 i3 i4 i5 : FuncId} {c1 c2 c3 c4 c5 : Contract} (h1 : Has C i1 c1 laws_szDesk_ok) (h2 : Has C i2 c2 laws_toDesk_ok) (h3 : Has C i3 c3 spec_ValidDesk_ok) (h4 : Has C i4 c4 impl_ValidDesk_ok)
    (h5 : Has C i5 c5 laws_eqDesk_ok) : laws_FnExactValidDesk_ok (gcC C (laws_FnExactValidDesk i1 i2 i3 i4 i5) true) := by
  intro σ avs h
  match avs, h with
  | [v], ⟨ha, _⟩ =>
    obtain ⟨w, h, wr, sv, lv, sp, lo, ev, xv, yv, e, x, y, t, rfl, ⟨r1, r2⟩, hb1, hb2, ⟨r3, r4, r5⟩, hb3, hb4, hb5⟩ := desk_abs ha
    have z := szDesk_fact sp lo e x y 1048576 (by omega)
    refine ret_gc rfl rfl ?_
    repeat' (first | apply Ev.sq | apply Ev.rg | refine Ev.aKp ?_ | apply thenQ.n | apply thenQ.e | apply thenQ.r | apply blkQ.n | apply blkQ.e | refine blkQ.x ?_ rfl | apply blkQ.r | refine Ev.aT ?_ | refine Ev.aF ?_ | apply Ev.skip | apply Ev.exit | apply Ev.ret | apply Ev.bk | refine EvR.mv ?_ | refine EvR.fa ?_ | refine EvR.l1 ?_ | refine EvR.aNotSF ?_ | refine EvR.aNotST ?_ | refine EvR.aMetT ?_ | refine EvR.aMetF ?_ | refine EvR.aUS ?_ | refine EvR.mvc ?_ | refine EvR.lp ?_ | refine EvR.lNp ?_ | refine EvR.pkT ?_ | refine EvR.pkF ?_ | refine EvR.lN ?_ | refine EvR.ix ?_ | refine EvR.le ?_ | refine EvR.ixo ?_ | refine EvR.l1o ?_ | refine EvR.lei ?_ | refine EvR.leb ?_ | refine EvR.lnr ?_ | refine EvR.lns ?_ | refine EvR.nt ?_ | refine EvR.lt ?_ | refine EvR.le_ ?_ | refine EvR.gt ?_ | refine EvR.ge ?_ | refine EvR.eqi ?_ | refine EvR.nei ?_ | refine EvR.add ?_ | refine EvR.sub ?_ | refine EvR.mul ?_ | refine EvR.rem ?_ | refine EvR.quo ?_ | refine EvR.nc ?_ | refine EvR.ex ?_ | refine EvR.f1 ?_ | refine EvR.fadd ?_ | refine EvR.fsub ?_ | refine EvR.fmul ?_ | refine EvR.fquo ?_ | refine EvR.flt_ ?_ | refine EvR.fle_ ?_ | refine EvR.fgt_ ?_ | refine EvR.fge_ ?_ | refine EvR.feq_ ?_ | refine EvR.fne_ ?_ | refine EvR.cv ?_ | refine EvR.cvu ?_ | refine EvR.cvf ?_ | refine EvR.cvw ?_ | refine EvR.bx ?_ | refine EvR.aNotNT ?_ | refine EvR.aNotNF ?_ | refine EvR.aUN ?_ | refine EvR.nl ?_ | (apply EvR.aCall h1.at_; (· exact eva); (· apply h1.ok <;> exact sid); (rintro _ _ ⟨rfl, rfl⟩; refine EvR.nrm ?_)) | (apply EvR.aCall h2.at_; (· exact eva); (· apply h2.ok <;> exact sid); (rintro _ _ ⟨rfl, rfl⟩; refine EvR.nrm ?_)) | (apply EvR.aCall h3.at_; (· exact eva); (· apply h3.ok <;> exact sid); (rintro _ _ ⟨rfl, rfl⟩; refine EvR.nrm ?_)) | (apply EvR.aCall h4.at_; (· exact eva); (· apply h4.ok <;> exact sid); (rintro _ _ ⟨rfl, rfl⟩; refine EvR.nrm ?_)) | (apply EvR.aCall h5.at_; (· exact eva); (· apply h5.ok <;> exact sid); (rintro _ _ ⟨rfl, rfl⟩; refine EvR.nrm ?_)) | (apply Ev.regionQ (by kernel_rfl); (· exact quie)) | (refine EvR.aSplB ?_ ?_ <;> (intro hb; rw [hb]; (try simp only [Bool.not_eq_true', Bool.not_eq_false', Bool.not_eq_eq_eq_not, Bool.not_true, Bool.not_false, decide_eq_true_eq, decide_eq_false_iff_not, Bool.and_eq_true, Bool.and_eq_false_iff, Bool.or_eq_true, Bool.or_eq_false_iff] at hb); (try (exfalso; omega)))) | (refine Ev.aSplB ?_ ?_ <;> (intro hb; (try rw [hb]); (try simp only [Bool.not_eq_true', Bool.not_eq_false', Bool.not_eq_eq_eq_not, Bool.not_true, Bool.not_false, decide_eq_true_eq, decide_eq_false_iff_not, Bool.and_eq_true, Bool.and_eq_false_iff, Bool.or_eq_true, Bool.or_eq_false_iff] at hb); (try (exfalso; omega)))) | (apply EvR.aS0; (· exact evc)) | (apply EvR.aN0; (· exact evc)) | (apply endS trivial; rotate_left; (· exact eva); (· rfl); try refine ⟨?_, rfl⟩) | fail)
    all_goals rfl
end Go.Abs
