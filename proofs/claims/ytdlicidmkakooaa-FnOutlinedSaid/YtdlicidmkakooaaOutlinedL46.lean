/- Laws of single functions: the source of draws. Conditions: the laws of what they call. -/
import Derived.Test.YtdlicidmkakooaaOutlinedL36
import Derived.Test.YtdlicidmkakooaaOutlinedL26
namespace Go.Abs

set_option linter.unusedSimpArgs false
set_option linter.unusedVariables false
set_option maxHeartbeats 8000000
set_option maxRecDepth 20000
/- (*loop.example/g01201/spec.l00Src).next -/
def spec_l00Src_next_r0 : List SOper := [
 ⟨some 2, none, .mov (.const (.int .i64 0)), 0⟩]
def spec_l00Src_next_r1 : List SOper := [
 ⟨some 3, none, .mov (.const (.int .i64 0)), 0⟩]
def spec_l00Src_next_r2 : List SOper := [
 ⟨some 4, none, .mov (.tmp 0), 0⟩,
 ⟨some 5, none, .nilCheck (.tmp 4), 1⟩,
 ⟨some 6, none, .fieldAddr 1 (.tmp 5), 3⟩,
 ⟨some 7, none, .load1 (.tmp 6), 7⟩,
 ⟨some 8, none, .mov (.tmp 0), 0⟩,
 ⟨some 9, none, .nilCheck (.tmp 8), 16⟩,
 ⟨some 10, none, .fieldAddr 0 (.tmp 9), 48⟩,
 ⟨some 11, none, .load1 (.tmp 10), 112⟩,
 ⟨some 12, none, .len false (.tmp 11), 240⟩,
 ⟨some 13, none, .bin .lss .other (.tmp 7) (.tmp 12), 511⟩]
def spec_l00Src_next_r3 : List SOper := [
 ⟨some 14, none, .mov (.tmp 0), 0⟩,
 ⟨some 15, none, .nilCheck (.tmp 14), 1⟩,
 ⟨some 16, none, .fieldAddr 0 (.tmp 15), 3⟩,
 ⟨some 17, none, .load1 (.tmp 16), 7⟩,
 ⟨some 18, none, .mov (.tmp 0), 0⟩,
 ⟨some 19, none, .nilCheck (.tmp 18), 16⟩,
 ⟨some 20, none, .fieldAddr 1 (.tmp 19), 48⟩,
 ⟨some 21, none, .load1 (.tmp 20), 112⟩,
 ⟨some 22, none, .indexAddrS 1 (.tmp 17) (.tmp 21), 255⟩,
 ⟨some 23, none, .load1 (.tmp 22), 511⟩,
 ⟨some 24, none, .conv (.toInt .i64) (.tmp 23), 1023⟩,
 ⟨some 3, none, .mov (.tmp 24), 2047⟩]
def spec_l00Src_next_r4 : List SOper := [
 ⟨some 25, none, .mov (.tmp 0), 0⟩,
 ⟨some 26, none, .nilCheck (.tmp 25), 1⟩,
 ⟨some 27, none, .fieldAddr 1 (.tmp 26), 3⟩,
 ⟨some 28, none, .load1 (.tmp 27), 7⟩,
 ⟨some 29, none, .bin .add .other (.tmp 28) (.const (.int .i64 1)), 15⟩,
 ⟨some 30, none, .nilCheck (.tmp 25), 31⟩,
 ⟨some 31, none, .fieldAddr 1 (.tmp 30), 63⟩,
 ⟨none, none, .store 1 (.tmp 31) (.tmp 29), 127⟩]
def spec_l00Src_next_r5 : List SOper := [
 ⟨some 32, none, .mov (.tmp 0), 0⟩,
 ⟨some 33, none, .mov (.tmp 0), 0⟩,
 ⟨some 34, none, .nilCheck (.tmp 33), 2⟩,
 ⟨some 35, none, .fieldAddr 2 (.tmp 34), 6⟩,
 ⟨some 36, none, .load1 (.tmp 35), 14⟩,
 ⟨some 37, none, .bin .mul .other (.tmp 36) (.const (.int .u64 6364136223846793005)), 30⟩,
 ⟨some 38, none, .mov (.tmp 3), 0⟩,
 ⟨some 39, none, .conv (.toInt .u64) (.tmp 38), 64⟩,
 ⟨some 40, none, .bin .add .other (.tmp 37) (.tmp 39), 254⟩,
 ⟨some 41, none, .bin .add .other (.tmp 40) (.const (.int .u64 1442695040888963407)), 510⟩,
 ⟨some 42, none, .nilCheck (.tmp 32), 1023⟩,
 ⟨some 43, none, .fieldAddr 2 (.tmp 42), 2047⟩,
 ⟨none, none, .store 1 (.tmp 43) (.tmp 41), 4095⟩]
def spec_l00Src_next_r6 : List SOper := [
 ⟨some 44, none, .mov (.tmp 0), 0⟩,
 ⟨some 45, none, .nilCheck (.tmp 44), 1⟩,
 ⟨some 46, none, .fieldAddr 1 (.tmp 45), 3⟩,
 ⟨some 47, none, .load1 (.tmp 46), 7⟩,
 ⟨some 48, none, .mov (.tmp 0), 0⟩,
 ⟨some 49, none, .nilCheck (.tmp 48), 16⟩,
 ⟨some 50, none, .fieldAddr 0 (.tmp 49), 48⟩,
 ⟨some 51, none, .load1 (.tmp 50), 112⟩,
 ⟨some 52, none, .len false (.tmp 51), 240⟩,
 ⟨some 53, none, .bin .leq .other (.tmp 47) (.tmp 52), 511⟩]
def spec_l00Src_next_r7 : List SOper := [
 ⟨some 54, none, .mov (.tmp 3), 0⟩,
 ⟨some 2, none, .mov (.tmp 54), 1⟩]
def spec_l00Src_next_r8 : List SOper := [
 ⟨some 55, none, .mov (.tmp 0), 0⟩,
 ⟨some 56, none, .nilCheck (.tmp 55), 1⟩,
 ⟨some 57, none, .fieldAddr 2 (.tmp 56), 3⟩,
 ⟨some 58, none, .load1 (.tmp 57), 7⟩,
 ⟨some 59, none, .bin .shr .other (.tmp 58) (.const (.int .u64 40)), 15⟩,
 ⟨some 60, none, .bin .and .other (.tmp 59) (.const (.int .u64 255)), 31⟩,
 ⟨some 61, none, .conv (.toInt .i64) (.tmp 60), 63⟩,
 ⟨some 2, none, .mov (.tmp 61), 127⟩]
def spec_l00Src_next : SFunc := ⟨62, [.tmp 2], (.kp [0] (.seq (.region spec_l00Src_next_r0 false) (.kp [0] (.seq (.region spec_l00Src_next_r1 false) (.kp [0,3] (.seq (.seq (.region spec_l00Src_next_r2 true) (.kp [0,3,13] (.cond (.tmp 13) (.region spec_l00Src_next_r3 true) .skip))) (.kp [0,3] (.seq (.region spec_l00Src_next_r4 false) (.kp [0,3] (.seq (.region spec_l00Src_next_r5 false) (.kp [0,3] (.seq (.seq (.region spec_l00Src_next_r6 true) (.kp [0,3,53] (.cond (.tmp 53) (.seq (.region spec_l00Src_next_r7 false) .ret) .skip))) (.kp [0] (.seq (.region spec_l00Src_next_r8 false) .ret))))))))))))))⟩
theorem spec_l00Src_next_r2_dr : drawOkW wStat spec_l00Src_next_r2 = true := by kernel_rfl
attribute [push_cast] spec_l00Src_next_r2_dr
theorem spec_l00Src_next_r3_dr : drawOkW wStat spec_l00Src_next_r3 = true := by kernel_rfl
attribute [push_cast] spec_l00Src_next_r3_dr
theorem spec_l00Src_next_r6_dr : drawOkW wStat spec_l00Src_next_r6 = true := by kernel_rfl
attribute [push_cast] spec_l00Src_next_r6_dr
/- (*loop.example/g01201/spec.l00Src).pick -/
def spec_l00Src_pick_r0 : List SOper := [
 ⟨some 4, none, .mov (.const (.int .i64 0)), 0⟩]
def spec_l00Src_pick_r1 : List SOper := [
 ⟨some 6, none, .mov (.tmp 1), 0⟩,
 ⟨some 7, none, .bin .leq .other (.tmp 6) (.const (.int .i64 1)), 1⟩]
def spec_l00Src_pick_r2 : List SOper := [
 ⟨some 4, none, .mov (.const (.int .i64 0)), 0⟩]
def spec_l00Src_pick_r3 (i_spec_l00Src_next : FuncId) : List SOper := [
 ⟨some 8, none, .mov (.tmp 0), 0⟩,
 ⟨some 9, none, .call (.func i_spec_l00Src_next) [(.tmp 8)], 1⟩,
 ⟨some 5, none, .mov (.tmp 9), 3⟩]
def spec_l00Src_pick_r4 : List SOper := [
 ⟨some 10, none, .mov (.tmp 1), 0⟩,
 ⟨some 11, none, .bin .gtr .other (.tmp 10) (.const (.int .i64 200)), 1⟩]
def spec_l00Src_pick_r5 (i_spec_l00Src_next : FuncId) : List SOper := [
 ⟨some 12, none, .mov (.tmp 5), 0⟩,
 ⟨some 13, none, .bin .mul .other (.tmp 12) (.const (.int .i64 256)), 1⟩,
 ⟨some 14, none, .mov (.tmp 0), 0⟩,
 ⟨some 15, none, .call (.func i_spec_l00Src_next) [(.tmp 14)], 4⟩,
 ⟨some 16, none, .bin .add .other (.tmp 13) (.tmp 15), 15⟩,
 ⟨some 5, none, .mov (.tmp 16), 31⟩]
def spec_l00Src_pick_r6 : List SOper := [
 ⟨some 17, none, .mov (.tmp 5), 0⟩,
 ⟨some 18, none, .mov (.tmp 1), 0⟩,
 ⟨some 19, none, .bin .rem .other (.tmp 17) (.tmp 18), 3⟩,
 ⟨some 4, none, .mov (.tmp 19), 7⟩]
def spec_l00Src_pick (i_spec_l00Src_next : FuncId) : SFunc := ⟨20, [.tmp 4], (.kp [0,1] (.seq (.region spec_l00Src_pick_r0 false) (.kp [0,1] (.seq (.seq (.region spec_l00Src_pick_r1 false) (.kp [0,1,7] (.cond (.tmp 7) (.seq (.region spec_l00Src_pick_r2 false) .ret) .skip))) (.kp [0,1] (.seq (.region (spec_l00Src_pick_r3 i_spec_l00Src_next) false) (.kp [0,1,5] (.seq (.seq (.region spec_l00Src_pick_r4 false) (.kp [0,1,5,11] (.cond (.tmp 11) (.region (spec_l00Src_pick_r5 i_spec_l00Src_next) false) .skip))) (.kp [1,5] (.seq (.region spec_l00Src_pick_r6 false) .ret))))))))))⟩

/- (*loop.example/g01201/spec.l00Src).one -/
def spec_l00Src_one_r0 : List SOper := [
 ⟨some 4, none, .mov (.const (.bool false)), 0⟩]
def spec_l00Src_one_r1 (i_spec_l00Src_pick : FuncId) : List SOper := [
 ⟨some 5, none, .mov (.tmp 0), 0⟩,
 ⟨some 6, none, .mov (.tmp 1), 0⟩,
 ⟨some 7, none, .call (.func i_spec_l00Src_pick) [(.tmp 5), (.tmp 6)], 3⟩,
 ⟨some 8, none, .bin .eql .other (.tmp 7) (.const (.int .i64 0)), 7⟩,
 ⟨some 4, none, .mov (.tmp 8), 15⟩]
def spec_l00Src_one (i_spec_l00Src_pick : FuncId) : SFunc := ⟨9, [.tmp 4], (.kp [0,1] (.seq (.region spec_l00Src_one_r0 false) (.kp [0,1] (.seq (.region (spec_l00Src_one_r1 i_spec_l00Src_pick) false) .ret))))⟩

/- loop.example/g01201/spec.l01DrawPlain -/
def spec_l01DrawPlain_r0 : List SOper := [
 ⟨some 2, none, .mov (.const (.float .f32 0)), 0⟩]
def spec_l01DrawPlain_r1 (i_spec_l00Src_pick : FuncId) : List SOper := [
 ⟨some 4, none, .mov (.tmp 0), 0⟩,
 ⟨some 5, none, .call (.func i_spec_l00Src_pick) [(.tmp 4), (.const (.int .i64 129))], 1⟩,
 ⟨some 6, none, .bin .sub .other (.tmp 5) (.const (.int .i64 64)), 3⟩,
 ⟨some 3, none, .mov (.tmp 6), 7⟩]
def spec_l01DrawPlain_r2 (i_spec_l00Src_one : FuncId) : List SOper := [
 ⟨some 7, none, .mov (.tmp 0), 0⟩,
 ⟨some 8, none, .call (.func i_spec_l00Src_one) [(.tmp 7), (.const (.int .i64 4))], 1⟩]
def spec_l01DrawPlain_r3 : List SOper := [
 ⟨some 9, none, .mov (.tmp 3), 0⟩,
 ⟨some 10, none, .conv (.toFloat .f32) (.tmp 9), 1⟩,
 ⟨some 11, none, .bin .quo .other (.tmp 10) (.const (.float .f32 1088421888)), 3⟩,
 ⟨some 2, none, .mov (.tmp 11), 7⟩]
def spec_l01DrawPlain_r4 : List SOper := [
 ⟨some 12, none, .mov (.tmp 3), 0⟩,
 ⟨some 13, none, .conv (.toFloat .f32) (.tmp 12), 1⟩,
 ⟨some 14, none, .bin .quo .other (.tmp 13) (.const (.float .f32 1098907648)), 3⟩,
 ⟨some 2, none, .mov (.tmp 14), 7⟩]
def spec_l01DrawPlain (i_spec_l00Src_pick i_spec_l00Src_one : FuncId) : SFunc := ⟨15, [.tmp 2], (.kp [0] (.seq (.region spec_l01DrawPlain_r0 false) (.kp [0] (.seq (.region (spec_l01DrawPlain_r1 i_spec_l00Src_pick) false) (.kp [0,3] (.seq (.seq (.region (spec_l01DrawPlain_r2 i_spec_l00Src_one) false) (.kp [3,8] (.cond (.tmp 8) (.seq (.region spec_l01DrawPlain_r3 false) .ret) .skip))) (.kp [3] (.seq (.region spec_l01DrawPlain_r4 false) .ret))))))))⟩

/- (*loop.example/g01201/spec.l00Src).among -/
def spec_l00Src_among_r0 : List SOper := [
 ⟨some 4, none, .mov (.const (.int .i64 0)), 0⟩]
def spec_l00Src_among_r1 (i_spec_l00Src_pick : FuncId) : List SOper := [
 ⟨some 5, none, .mov (.tmp 1), 0⟩,
 ⟨some 6, none, .mov (.tmp 0), 0⟩,
 ⟨some 7, none, .mov (.tmp 1), 0⟩,
 ⟨some 8, none, .len false (.tmp 7), 4⟩,
 ⟨some 9, none, .call (.func i_spec_l00Src_pick) [(.tmp 6), (.tmp 8)], 14⟩,
 ⟨some 10, none, .indexAddrS 1 (.tmp 5) (.tmp 9), 31⟩,
 ⟨some 11, none, .load1 (.tmp 10), 63⟩,
 ⟨some 4, none, .mov (.tmp 11), 127⟩]
def spec_l00Src_among (i_spec_l00Src_pick : FuncId) : SFunc := ⟨12, [.tmp 4], (.kp [0,1] (.seq (.region spec_l00Src_among_r0 false) (.kp [0,1] (.seq (.region (spec_l00Src_among_r1 i_spec_l00Src_pick) false) .ret))))⟩


/-- A source of draws: its bytes, its place, its seed. -/
abbrev srcO (cv : Value) (p : Int) (d : Int) : AObj := ⟨[cv, .int .i64 p, .int .u64 d], 0, true⟩
section
variable {C : Ctab} {F : Frame} {τ l : Heap}
/-- A cell of an old variable is written. -/
theorem EvR.stv {Q} {n b off : Nat} {rest : List SOper} {x y : Operand} {v : Value} {cells cells' : List Value} (h2 : τ[b]? = some ⟨cells, 0, true⟩) (ho : off < cells.length) (h1 : eval F x = .pointer (some ⟨b, off, none⟩)) (h3 : eval F y = v) (hv : cellOk v = true) (hc : v.cells = #[v]) (h4 : cells.set off v = cells')
    (h : EvR C rest F (τ.set b ⟨cells', 0, true⟩ ++ l) Q) : EvR C (⟨none, none, .store 1 x y, n⟩ :: rest) F (τ ++ l) Q := by
  subst h4
  have hlt := (List.getElem?_eq_some_iff.1 h2).1
  have e : (τ ++ l)[b]? = some ⟨cells, 0, true⟩ := by rw [List.getElem?_append_left hlt]; exact h2
  refine EvR.opN (v := undef) (σ' := τ.set b ⟨cells.set off v, 0, true⟩ ++ l) ?_ h
  have hs : splice cells off [v] = cells.set off v := by
    unfold splice
    rw [List.set_eq_take_append_cons_drop, if_pos ho]
    simp
  simp only [evOp, h1, h3, aStore, e, hc]
  rw [if_pos (by simp [ptrOk, hv]; omega)]
  simp only [hs, Option.map_some]
  rw [List.set_append_left _ _ hlt]
end


/-- A function that writes, whose rubbish stays. -/
theorem ret_bw {C : Ctab} {S : SFunc} {args : List Value} {σ : Heap} {Q : Value → Heap → Prop} {n : Nat} {rs : List SRes} {body : SCode} (hS : S = ⟨n, rs, body⟩) (hn : Nat.ble args.length n = true)
    (h : Ev C body (argFrame 0 args) (σ ++ []) (atEnd rs Q)) : Ret (bodyC C S false) args σ Q := by
  subst hS
  rw [List.append_nil] at h
  exact ret_of_ev (Nat.le_of_ble_eq_true hn) (fun hq => by cases hq) h
section
variable {C : Ctab} {F : Frame} {τ l : Heap}
/-- The seed is written; what it becomes is not told. -/
theorem EvR.stSeed {Q} {n b : Nat} {rest : List SOper} {x y : Operand} {cv : Value} {p d e : Int} (h2 : τ[b]? = some (srcO cv p d)) (h1 : eval F x = .pointer (some ⟨b, 2, none⟩)) (h3 : eval F y = .int .u64 e)
    (h : ∀ E, EvR C rest F (τ.set b (srcO cv p E) ++ l) Q) : EvR C (⟨none, none, .store 1 x y, n⟩ :: rest) F (τ ++ l) Q :=
  EvR.stv (b := b) (off := 2) h2 (by simp) h1 h3 rfl rfl rfl (h e)
end
theorem low8 (e : Int) : 0 ≤ IntKind.i64.wrap (IntKind.u64.wrap ((BitVec.ofInt IntKind.u64.bits e &&& BitVec.ofInt IntKind.u64.bits 255).toNat : Int)) ∧ IntKind.i64.wrap (IntKind.u64.wrap ((BitVec.ofInt IntKind.u64.bits e &&& BitVec.ofInt IntKind.u64.bits 255).toNat : Int)) ≤ 255 := by
  have e2 : (BitVec.ofInt 64 255).toNat = 255 := by decide
  have h : (BitVec.ofInt IntKind.u64.bits e &&& BitVec.ofInt IntKind.u64.bits 255).toNat ≤ 255 := by
    show (BitVec.ofInt 64 e &&& BitVec.ofInt 64 255).toNat ≤ 255
    rw [BitVec.toNat_and, e2]
    exact Nat.and_le_right
  rw [wrapu64 (by omega), wrap64 (by omega) (by omega)]
  omega
def spec_l00Src_next_ok (c : Contract) : Prop := ∀ (σ : Heap) (b : Nat) (cv : Value) (code : List UInt8) (p d : Int), σ[b]? = some (srcO cv p d) → Row σ 1 cv code.length (b8s code) → 0 ≤ p → p ≤ 1048576 → code.length ≤ 1048576 →
    Ret c [.pointer (some ⟨b, 0, none⟩)] σ fun v σ' => ∃ r d', 0 ≤ r ∧ r ≤ 255 ∧ v = .int .i64 r ∧ σ' = σ.set b (srcO cv (p + 1) d')
theorem spec_l00Src_next_law {C : Ctab} : spec_l00Src_next_ok (bodyC C spec_l00Src_next false) := by
  intro σ b cv code p d hsrc hr p0 p1 hc
  have hp := PtAt.whole hsrc
  have hlt := (List.getElem?_eq_some_iff.1 hsrc).1
  have hbyte : ∀ i : Nat, i < code.length → aLoad1 (σ ++ []) (elemP 1 cv i) = some (byteV (code.getD i 0)) := fun i hi => by
    rw [(hr.ext []).load hi, b8s_get hi]
  have hlen : aLen false cv = some (.int .i64 code.length) := hr.len
  refine ret_bw rfl rfl ?_
  repeat' (first | refine ff ?_ | ((first | refine sR ?_ ?_ | refine sC ?_ ?_) <;> (intro hb; (try rw [hb]); (try simp only [bb] at hb); (try (exfalso; first | omega | exact hb trivial)))) | (apply endS trivial; rotate_left; (· exact eva); (· rfl); try refine ⟨?_, rfl⟩) | fail)
  any_goals
    refine EvR.opS (v := byteV (code.getD p.toNat 0)) (by show (aLoad1 _ (elemP 1 cv p.toNat)).map _ = _; rw [hbyte _ (by omega)]; rfl) ?_
    have hbt := UInt8.toNat_lt (code.getD p.toNat 0)
    repeat' (first | refine ff ?_ | ((first | refine sR ?_ ?_ | refine sC ?_ ?_) <;> (intro hb; (try rw [hb]); (try simp only [bb] at hb); (try (exfalso; first | omega | exact hb trivial)))) | (apply endS trivial; rotate_left; (· exact eva); (· rfl); try refine ⟨?_, rfl⟩) | fail)
  all_goals refine EvR.stv (b := b) (off := 1) hsrc (by simp) rfl rfl rfl rfl rfl ?_
  all_goals
    obtain ⟨τ, hτ⟩ : ∃ s, s = σ.set b (srcO cv (p + 1) d) := ⟨_, rfl⟩
    have hb1 : τ[b]? = some (srcO cv (p + 1) d) := by rw [hτ, List.getElem?_set_self hlt]
    have hp1 := PtAt.whole hb1
    show EvR _ _ _ (σ.set b (srcO cv (p + 1) d) ++ []) _
    rw [← hτ]
    repeat' (first | refine ff ?_ | ((first | refine sR ?_ ?_ | refine sC ?_ ?_) <;> (intro hb; (try rw [hb]); (try simp only [bb] at hb); (try (exfalso; first | omega | exact hb trivial)))) | (apply endS trivial; rotate_left; (· exact eva); (· rfl); try refine ⟨?_, rfl⟩) | fail)
    refine EvR.stSeed hb1 rfl rfl ?_
    intro E
    obtain ⟨τ2, hτ2⟩ : ∃ s, s = τ.set b (srcO cv (p + 1) E) := ⟨_, rfl⟩
    have hb2 : τ2[b]? = some (srcO cv (p + 1) E) := by rw [hτ2, List.getElem?_set_self (by rw [hτ, List.length_set]; exact hlt)]
    have hp2 := PtAt.whole hb2
    have hfin : τ2 ++ [] = σ.set b (srcO cv (p + 1) E) := by rw [List.append_nil, hτ2, hτ, List.set_set]
    rw [← hτ2]
    repeat' (first | refine ff ?_ | ((first | refine sR ?_ ?_ | refine sC ?_ ?_) <;> (intro hb; (try rw [hb]); (try simp only [bb] at hb); (try (exfalso; first | omega | exact hb trivial)))) | (apply endS trivial; rotate_left; (· exact eva); (· rfl); try refine ⟨?_, rfl⟩) | fail)
  all_goals
    apply atEnd_ret
    · exact eva
    · first
        | exact ⟨_, E, by omega, by omega, rfl, hfin⟩
        | exact ⟨_, E, (low8 _).1, (low8 _).2, rfl, hfin⟩

/-- A source at a place of the heap. -/
structure Src (σ : Heap) (b : Nat) (cv : Value) (code : List UInt8) (p d : Int) : Prop where
  at_ : σ[b]? = some (srcO cv p d)
  row : Row σ 1 cv code.length (b8s code)
theorem Src.lt {σ : Heap} {b : Nat} {cv : Value} {code : List UInt8} {p d : Int} (h : Src σ b cv code p d) : b < σ.length := (List.getElem?_eq_some_iff.1 h.at_).1
theorem Src.ext {σ : Heap} {b : Nat} {cv : Value} {code : List UInt8} {p d : Int} (h : Src σ b cv code p d) (l : Heap) : Src (σ ++ l) b cv code p d :=
  ⟨by rw [List.getElem?_append_left h.lt]; exact h.at_, h.row.ext l⟩
theorem row_set {σ : Heap} {b n : Nat} {v : Value} {cs cells : List Value} {r : Bool} {X : AObj} (h : Row σ 1 v n cs) (hb : σ[b]? = some ⟨cells, 0, r⟩) : Row (σ.set b X) 1 v n cs := by
  unfold Row at h ⊢
  split at h
  · exact h
  · obtain ⟨h1, h2, obj, h3, h4⟩ := h
    refine ⟨h1, h2, obj, ?_, h4⟩
    obtain ⟨g1, g2, g3, g4⟩ := rowAt_spec h3
    refine rowAt_mk ?_ g2 g3 g4
    rw [List.getElem?_set_ne]
    · exact g1
    · rintro rfl
      rw [hb] at g1
      cases g1
      simp at g2
  · exact h.elim
theorem Src.step {σ : Heap} {b : Nat} {cv : Value} {code : List UInt8} {p d : Int} (h : Src σ b cv code p d) (p' d' : Int) : Src (σ.set b (srcO cv p' d')) b cv code p' d' :=
  ⟨List.getElem?_set_self h.lt, row_set h.row h.at_⟩
theorem Src.same {σ : Heap} {b : Nat} {cv : Value} {code : List UInt8} {p d : Int} (h : Src σ b cv code p d) : σ.set b (srcO cv p d) = σ := set_same h.at_

/-- A draw below n. -/
def spec_l00Src_pick_ok (c : Contract) : Prop := ∀ (σ : Heap) (b : Nat) (cv : Value) (code : List UInt8) (p d n : Int), Src σ b cv code p d → 0 ≤ p → p ≤ 900000 → code.length ≤ 1048576 → 1 ≤ n → n ≤ 100000 →
    Ret c [.pointer (some ⟨b, 0, none⟩), .int .i64 n] σ fun v σ' => ∃ r p' d', 0 ≤ r ∧ r < n ∧ p ≤ p' ∧ p' ≤ p + 2 ∧ v = .int .i64 r ∧ σ' = σ.set b (srcO cv p' d')
theorem spec_l00Src_pick_law {C : Ctab} {i : FuncId} {c : Contract} (h1 : HasW C i c spec_l00Src_next_ok) : spec_l00Src_pick_ok (bodyC C (spec_l00Src_pick i) false) := by
  intro σ b cv code p d n hs p0 p1 hc n1 n2
  refine ret_bw rfl rfl ?_
  repeat' (first | refine ff ?_ | ((first | refine sR ?_ ?_ | refine sC ?_ ?_) <;> (intro hb; (try rw [hb]); (try simp only [bb] at hb); (try (exfalso; first | omega | exact hb trivial)))) | (apply endS trivial; rotate_left; (· exact eva); (· rfl); try refine ⟨?_, rfl⟩) | fail)
  · apply atEnd_ret
    · exact eva
    · exact ⟨0, p, d, by omega, by omega, by omega, by omega, rfl, by rw [hs.same, List.append_nil]⟩
  apply EvR.aCall h1.at_; (· exact eva); (· exact h1.ok _ b cv code p d (hs.ext _).at_ (hs.ext _).row p0 (by omega) hc); rintro _ _ ⟨r, d1, r0, r1, rfl, rfl⟩
  rw [List.set_append_left _ _ hs.lt]
  refine EvR.nrm ?_
  have hs1 := hs.step (p + 1) d1
  repeat' (first | refine ff ?_ | ((first | refine sR ?_ ?_ | refine sC ?_ ?_) <;> (intro hb; (try rw [hb]); (try simp only [bb] at hb); (try (exfalso; first | omega | exact hb trivial)))) | (apply endS trivial; rotate_left; (· exact eva); (· rfl); try refine ⟨?_, rfl⟩) | fail)
  · apply EvR.aCall h1.at_; (· exact eva); (· exact h1.ok _ b cv code (p + 1) d1 (hs1.ext _).at_ (hs1.ext _).row (by omega) (by omega) hc); rintro _ _ ⟨q, d2, q0, q1, rfl, rfl⟩
    rw [List.set_append_left _ _ hs1.lt, List.set_set]
    refine EvR.nrm ?_
    repeat' (first | refine ff ?_ | ((first | refine sR ?_ ?_ | refine sC ?_ ?_) <;> (intro hb; (try rw [hb]); (try simp only [bb] at hb); (try (exfalso; first | omega | exact hb trivial)))) | (apply endS trivial; rotate_left; (· exact eva); (· rfl); try refine ⟨?_, rfl⟩) | fail)
    apply atEnd_ret
    · exact eva
    · exact ⟨_, p + 1 + 1, d2, Int.emod_nonneg _ (by omega), Int.emod_lt_of_pos _ (by omega), by omega, by omega, rfl, by rw [List.append_nil]⟩
  · apply atEnd_ret
    · exact eva
    · exact ⟨_, p + 1, d1, Int.emod_nonneg _ (by omega), Int.emod_lt_of_pos _ (by omega), by omega, by omega, rfl, by rw [List.append_nil]⟩

def spec_l00Src_one_ok (c : Contract) : Prop := ∀ (σ : Heap) (b : Nat) (cv : Value) (code : List UInt8) (p d n : Int), Src σ b cv code p d → 0 ≤ p → p ≤ 900000 → code.length ≤ 1048576 → 1 ≤ n → n ≤ 100000 →
    Ret c [.pointer (some ⟨b, 0, none⟩), .int .i64 n] σ fun v σ' => ∃ (t : Bool) (p' d' : Int), p ≤ p' ∧ p' ≤ p + 2 ∧ v = .bool t ∧ σ' = σ.set b (srcO cv p' d')
theorem spec_l00Src_one_law {C : Ctab} {i : FuncId} {c : Contract} (h1 : HasW C i c spec_l00Src_pick_ok) : spec_l00Src_one_ok (bodyC C (spec_l00Src_one i) false) := by
  intro σ b cv code p d n hs p0 p1 hc n1 n2
  refine ret_bw rfl rfl ?_
  repeat' (first | refine ff ?_ | ((first | refine sR ?_ ?_ | refine sC ?_ ?_) <;> (intro hb; (try rw [hb]); (try simp only [bb] at hb); (try (exfalso; first | omega | exact hb trivial)))) | (apply endS trivial; rotate_left; (· exact eva); (· rfl); try refine ⟨?_, rfl⟩) | fail)
  apply EvR.aCall h1.at_; (· exact eva); (· exact h1.ok _ b cv code p d n (hs.ext _) p0 p1 hc n1 n2); rintro _ _ ⟨r, p', d1, r0, r1, q0, q1, rfl, rfl⟩
  rw [List.set_append_left _ _ hs.lt]
  refine EvR.nrm ?_
  repeat' (first | refine ff ?_ | ((first | refine sR ?_ ?_ | refine sC ?_ ?_) <;> (intro hb; (try rw [hb]); (try simp only [bb] at hb); (try (exfalso; first | omega | exact hb trivial)))) | (apply endS trivial; rotate_left; (· exact eva); (· rfl); try refine ⟨?_, rfl⟩) | fail)
  apply atEnd_ret
  · exact eva
  · exact ⟨_, p', d1, q0, q1, rfl, by rw [List.append_nil]⟩

theorem fbin_lt (op : BinOp) (x y : Nat) : fbin op .f32 x y < 4294967296 := by
  unfold fbin
  cases h : floatBits op .f32 x y with
  | none => decide
  | some r => exact wf32 (floatBits_wf h)
/-- A draw of a number: of 32 bits, it may be any. -/
def draw_ok (k m : Int) (c : Contract) : Prop := ∀ (σ : Heap) (b : Nat) (cv : Value) (code : List UInt8) (p d : Int), Src σ b cv code p d → 0 ≤ p → p ≤ m → code.length ≤ 1048576 →
    Ret c [.pointer (some ⟨b, 0, none⟩)] σ fun v σ' => ∃ (y : Nat) (p' d' : Int) (rub : Heap), y < 4294967296 ∧ p ≤ p' ∧ p' ≤ p + k ∧ v = .float .f32 y ∧ σ' = σ.set b (srcO cv p' d') ++ rub
abbrev spec_l01DrawPlain_ok := draw_ok 4 800000
theorem spec_l01DrawPlain_law {C : Ctab} {i j : FuncId} {c c' : Contract} (h1 : HasW C i c spec_l00Src_pick_ok) (h2 : HasW C j c' spec_l00Src_one_ok) : spec_l01DrawPlain_ok (bodyC C (spec_l01DrawPlain i j) false) := by
  intro σ b cv code p d hs p0 p1 hc
  refine ret_bw rfl rfl ?_
  repeat' (first | refine ff ?_ | ((first | refine sR ?_ ?_ | refine sC ?_ ?_) <;> (intro hb; (try rw [hb]); (try simp only [bb] at hb); (try (exfalso; first | omega | exact hb trivial)))) | (apply endS trivial; rotate_left; (· exact eva); (· rfl); try refine ⟨?_, rfl⟩) | fail)
  apply EvR.aCall h1.at_; (· exact eva); (· exact h1.ok _ b cv code p d 129 (hs.ext _) p0 (by omega) hc (by omega) (by omega)); rintro _ _ ⟨r, p', d1, r0, r1, q0, q1, rfl, rfl⟩
  rw [List.set_append_left _ _ hs.lt]
  refine EvR.nrm ?_
  have hs1 := hs.step p' d1
  repeat' (first | refine ff ?_ | ((first | refine sR ?_ ?_ | refine sC ?_ ?_) <;> (intro hb; (try rw [hb]); (try simp only [bb] at hb); (try (exfalso; first | omega | exact hb trivial)))) | (apply endS trivial; rotate_left; (· exact eva); (· rfl); try refine ⟨?_, rfl⟩) | fail)
  apply EvR.aCall h2.at_; (· exact eva); (· exact h2.ok _ b cv code p' d1 4 (hs1.ext _) (by omega) (by omega) hc (by omega) (by omega)); rintro _ _ ⟨t, p2, d2, q2, q3, rfl, rfl⟩
  rw [List.set_append_left _ _ hs1.lt, List.set_set]
  refine EvR.nrm ?_
  repeat' (first | refine ff ?_ | ((first | refine sR ?_ ?_ | refine sC ?_ ?_) <;> (intro hb; (try rw [hb]); (try simp only [bb] at hb); (try (exfalso; first | omega | exact hb trivial)))) | (apply endS trivial; rotate_left; (· exact eva); (· rfl); try refine ⟨?_, rfl⟩) | fail)
  all_goals
    apply atEnd_ret
    · exact eva
    · exact ⟨_, p2, d2, [], fbin_lt _ _ _, by omega, by omega, rfl, rfl⟩

def spec_l00Src_among_ok (c : Contract) : Prop := ∀ (σ : Heap) (b : Nat) (cv : Value) (code : List UInt8) (p d : Int) (v : Value) (xs : List Int), Src σ b cv code p d → 0 ≤ p → p ≤ 900000 → code.length ≤ 1048576 → Row σ 1 v xs.length (i64s xs) → 1 ≤ xs.length → xs.length ≤ 1000 →
    Ret c [.pointer (some ⟨b, 0, none⟩), v] σ fun v σ' => ∃ y p' d', y ∈ xs ∧ p ≤ p' ∧ p' ≤ p + 2 ∧ v = .int .i64 y ∧ σ' = σ.set b (srcO cv p' d')
theorem spec_l00Src_among_law {C : Ctab} {i : FuncId} {c : Contract} (h1 : HasW C i c spec_l00Src_pick_ok) : spec_l00Src_among_ok (bodyC C (spec_l00Src_among i) false) := by
  intro σ b cv code p d v xs hs p0 p1 hc hr n1 n2
  have hlen : aLen false v = some (.int .i64 xs.length) := hr.len
  refine ret_bw rfl rfl ?_
  repeat' (first | refine ff ?_ | ((first | refine sR ?_ ?_ | refine sC ?_ ?_) <;> (intro hb; (try rw [hb]); (try simp only [bb] at hb); (try (exfalso; first | omega | exact hb trivial)))) | (apply endS trivial; rotate_left; (· exact eva); (· rfl); try refine ⟨?_, rfl⟩) | fail)
  apply EvR.aCall h1.at_; (· exact eva); (· exact h1.ok _ b cv code p d xs.length (hs.ext _) p0 p1 hc (by omega) (by omega)); rintro _ _ ⟨r, p', d1, r0, r1, q0, q1, rfl, rfl⟩
  rw [List.set_append_left _ _ hs.lt]
  refine EvR.nrm ?_
  have hr2 : Row (σ.set b (srcO cv p' d1)) 1 v xs.length (i64s xs) := row_set hr hs.at_
  repeat' (first | refine ff ?_ | ((first | refine sR ?_ ?_ | refine sC ?_ ?_) <;> (intro hb; (try rw [hb]); (try simp only [bb] at hb); (try (exfalso; first | omega | exact hb trivial)))) | (apply endS trivial; rotate_left; (· exact eva); (· rfl); try refine ⟨?_, rfl⟩) | fail)
  apply atEnd_ret
  · exact eva
  · refine ⟨_, p', d1, ?_, q0, q1, rfl, by rw [List.append_nil]⟩
    rw [List.getD_eq_getElem?_getD, List.getElem?_eq_getElem (by omega)]
    simp
end Go.Abs

