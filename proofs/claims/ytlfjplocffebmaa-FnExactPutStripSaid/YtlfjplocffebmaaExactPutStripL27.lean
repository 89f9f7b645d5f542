/- Laws of functions: strips are put into fields by the program. Conditions: the laws of what they call. -/
import Derived.Test.YtlfjplocffebmaaExactPutStripL26
namespace Go.Abs

set_option linter.unusedSimpArgs false
set_option linter.unusedVariables false
set_option maxHeartbeats 8000000
/- loop.example/g01201/impl.put -/
def impl_put_r0 : List SOper := [
  ⟨(some 4), none, .box (.tmp 0), 0⟩,
  ⟨(some 6), none, .box (.tmp 2), 0⟩,
  ⟨(some 7), none, .box (.tmp 3), 0⟩]
def impl_put_r1 : List SOper := [
  ⟨(some 9), none, .fieldAddr 0 (.tmp 6), 0⟩,
  ⟨(some 10), none, .load1 (.tmp 9), 1⟩,
  ⟨(some 11), none, .fieldAddr 0 (.tmp 4), 0⟩,
  ⟨(some 12), none, .load1 (.tmp 11), 4⟩,
  ⟨(some 13), none, .bin .mul .other (.tmp 10) (.tmp 12), 15⟩,
  ⟨(some 8), none, .mov (.tmp 13), 31⟩]
def impl_put_r2 : List SOper := [
  ⟨(some 14), none, .mov (.tmp 1), 0⟩,
  ⟨(some 15), none, .nilCheck (.tmp 14), 1⟩,
  ⟨(some 16), none, .fieldAddr 0 (.tmp 15), 3⟩,
  ⟨(some 17), none, .load1 (.tmp 16), 7⟩,
  ⟨(some 18), none, .mov (.tmp 8), 0⟩,
  ⟨(some 19), none, .sliceSl 1 (.tmp 17) (some (.tmp 18)) none, 31⟩,
  ⟨(some 20), none, .fieldAddr 0 (.tmp 7), 0⟩,
  ⟨(some 21), none, .load1 (.tmp 20), 64⟩,
  ⟨(some 22), none, .copy 1 (.tmp 19) (.tmp 21), 255⟩]
def impl_put_r3 : List SOper := [
  ⟨(some 23), none, .mov (.tmp 1), 0⟩,
  ⟨(some 24), none, .nilCheck (.tmp 23), 1⟩,
  ⟨(some 25), none, .fieldAddr 1 (.tmp 24), 3⟩,
  ⟨(some 26), none, .load1 (.tmp 25), 7⟩,
  ⟨(some 27), none, .mov (.tmp 8), 0⟩,
  ⟨(some 28), none, .sliceSl 1 (.tmp 26) (some (.tmp 27)) none, 31⟩,
  ⟨(some 29), none, .fieldAddr 1 (.tmp 7), 0⟩,
  ⟨(some 30), none, .load1 (.tmp 29), 64⟩,
  ⟨(some 31), none, .copy 1 (.tmp 28) (.tmp 30), 255⟩]
def impl_put_r4 : List SOper := [
  ⟨(some 32), none, .mov (.tmp 1), 0⟩,
  ⟨(some 33), none, .nilCheck (.tmp 32), 1⟩,
  ⟨(some 34), none, .fieldAddr 2 (.tmp 33), 3⟩,
  ⟨(some 35), none, .load1 (.tmp 34), 7⟩,
  ⟨(some 36), none, .mov (.tmp 8), 0⟩,
  ⟨(some 37), none, .sliceSl 1 (.tmp 35) (some (.tmp 36)) none, 31⟩,
  ⟨(some 38), none, .fieldAddr 2 (.tmp 7), 0⟩,
  ⟨(some 39), none, .load1 (.tmp 38), 64⟩,
  ⟨(some 40), none, .copy 1 (.tmp 37) (.tmp 39), 255⟩]
def impl_put : SFunc := ⟨41, [], (.kp [0, 1, 2, 3] (.seq (.region impl_put_r0 false) (.kp [1, 4, 6, 7] (.seq (.region impl_put_r1 false) (.kp [1, 7, 8] (.seq (.region impl_put_r2 true) (.kp [1, 7, 8] (.seq (.region impl_put_r3 true) (.kp [1, 7, 8] (.region impl_put_r4 true))))))))))⟩
theorem impl_put_r2_dr : drawOkW wStat impl_put_r2 = true := by kernel_rfl
attribute [push_cast] impl_put_r2_dr
theorem impl_put_r3_dr : drawOkW wStat impl_put_r3 = true := by kernel_rfl
attribute [push_cast] impl_put_r3_dr
theorem impl_put_r4_dr : drawOkW wStat impl_put_r4 = true := by kernel_rfl
attribute [push_cast] impl_put_r4_dr
/- loop.example/g01201/impl.PutStrip -/
def impl_PutStrip_r0 : List SOper := [
  ⟨(some 4), none, .box (.tmp 0), 0⟩,
  ⟨(some 5), none, .box (.tmp 1), 0⟩,
  ⟨(some 6), none, .box (.tmp 2), 0⟩,
  ⟨(some 7), none, .box (.tmp 3), 0⟩,
  ⟨(some 8), none, .alloc [(.slice none 0 0), (.slice none 0 0), (.slice none 0 0)], 0⟩,
  ⟨(some 9), none, .mov (.const (.bool false)), 0⟩]
def impl_PutStrip_r1 (i_impl_IsField i_impl_IsStrip : FuncId) : List SOper := [
  ⟨(some 12), none, .loadN 5 (.tmp 4), 0⟩,
  ⟨(some 13), none, .loadN 3 (.tmp 5), 0⟩,
  ⟨(some 14), none, .call (.func i_impl_IsField) [(.tmp 12), (.tmp 13)], 3⟩,
  ⟨(some 15), none, .un .not (.tmp 14), 7⟩,
  ⟨(some 16), none, .mov (.tmp 15), 15⟩,
  ⟨(some 17), (some (16, false)), .loadN 5 (.tmp 4), 31⟩,
  ⟨(some 18), (some (16, false)), .loadN 2 (.tmp 6), 31⟩,
  ⟨(some 19), (some (16, false)), .call (.func i_impl_IsStrip) [(.tmp 17), (.tmp 18)], 127⟩,
  ⟨(some 20), (some (16, false)), .un .not (.tmp 19), 255⟩,
  ⟨(some 21), none, .pick (.tmp 16) (.const (.bool true)) (.tmp 20), 511⟩]
def impl_PutStrip_r2 : List SOper := [
  ⟨(some 22), none, .build [(.slice none 0 0), (.slice none 0 0), (.slice none 0 0)] [], 0⟩,
  ⟨none, none, .store 3 (.tmp 8) (.tmp 22), 1⟩,
  ⟨(some 9), none, .mov (.const (.bool false)), 3⟩]
def impl_PutStrip_r3 : List SOper := [
  ⟨(some 23), none, .fieldAddr 1 (.tmp 6), 0⟩,
  ⟨(some 24), none, .load1 (.tmp 23), 1⟩,
  ⟨(some 25), none, .fieldAddr 0 (.tmp 4), 0⟩,
  ⟨(some 26), none, .load1 (.tmp 25), 4⟩,
  ⟨(some 27), none, .bin .mul .other (.tmp 24) (.tmp 26), 15⟩,
  ⟨(some 10), none, .mov (.tmp 27), 31⟩]
def impl_PutStrip_r4 : List SOper := [
  ⟨(some 28), none, .fieldAddr 0 (.tmp 7), 0⟩,
  ⟨(some 29), none, .load1 (.tmp 28), 1⟩,
  ⟨(some 30), none, .len false (.tmp 29), 3⟩,
  ⟨(some 31), none, .mov (.tmp 10), 0⟩,
  ⟨(some 32), none, .bin .neq .other (.tmp 30) (.tmp 31), 15⟩,
  ⟨(some 33), none, .mov (.tmp 32), 31⟩,
  ⟨(some 34), (some (33, false)), .fieldAddr 1 (.tmp 7), 63⟩,
  ⟨(some 35), (some (33, false)), .load1 (.tmp 34), 127⟩,
  ⟨(some 36), (some (33, false)), .len false (.tmp 35), 255⟩,
  ⟨(some 37), (some (33, false)), .mov (.tmp 10), 63⟩,
  ⟨(some 38), (some (33, false)), .bin .neq .other (.tmp 36) (.tmp 37), 1023⟩,
  ⟨(some 39), none, .pick (.tmp 33) (.const (.bool true)) (.tmp 38), 2047⟩,
  ⟨(some 40), none, .mov (.tmp 39), 4095⟩,
  ⟨(some 41), (some (40, false)), .fieldAddr 2 (.tmp 7), 8191⟩,
  ⟨(some 42), (some (40, false)), .load1 (.tmp 41), 16383⟩,
  ⟨(some 43), (some (40, false)), .len false (.tmp 42), 32767⟩,
  ⟨(some 44), (some (40, false)), .mov (.tmp 10), 8191⟩,
  ⟨(some 45), (some (40, false)), .bin .neq .other (.tmp 43) (.tmp 44), 131071⟩,
  ⟨(some 46), none, .pick (.tmp 40) (.const (.bool true)) (.tmp 45), 262143⟩]
def impl_PutStrip_r5 : List SOper := [
  ⟨(some 47), none, .build [(.slice none 0 0), (.slice none 0 0), (.slice none 0 0)] [], 0⟩,
  ⟨none, none, .store 3 (.tmp 8) (.tmp 47), 1⟩,
  ⟨(some 9), none, .mov (.const (.bool false)), 3⟩]
def impl_PutStrip_r6 (i_impl_copyField : FuncId) : List SOper := [
  ⟨(some 48), none, .loadN 3 (.tmp 5), 0⟩,
  ⟨(some 49), none, .call (.func i_impl_copyField) [(.tmp 48)], 1⟩,
  ⟨(some 11), none, .alloc [(.slice none 0 0), (.slice none 0 0), (.slice none 0 0)], 0⟩,
  ⟨none, none, .store 3 (.tmp 11) (.tmp 49), 7⟩]
def impl_PutStrip_r7 (i_impl_put : FuncId) : List SOper := [
  ⟨(some 50), none, .loadN 5 (.tmp 4), 0⟩,
  ⟨(some 51), none, .loadN 2 (.tmp 6), 0⟩,
  ⟨(some 52), none, .loadN 3 (.tmp 7), 0⟩,
  ⟨(some 53), none, .call (.func i_impl_put) [(.tmp 50), (.tmp 11), (.tmp 51), (.tmp 52)], 7⟩]
def impl_PutStrip_r8 (i_impl_validField : FuncId) : List SOper := [
  ⟨(some 54), none, .loadN 5 (.tmp 4), 0⟩,
  ⟨(some 55), none, .loadN 3 (.tmp 11), 0⟩,
  ⟨(some 56), none, .call (.func i_impl_validField) [(.tmp 54), (.tmp 55)], 3⟩,
  ⟨(some 57), none, .extract (.tmp 56) 0, 7⟩,
  ⟨(some 58), none, .extract (.tmp 56) 1, 7⟩,
  ⟨none, none, .store 3 (.tmp 8) (.tmp 57), 31⟩,
  ⟨(some 9), none, .mov (.tmp 58), 63⟩]
def impl_PutStrip (i_impl_IsField i_impl_IsStrip i_impl_copyField i_impl_put i_impl_validField : FuncId) : SFunc := ⟨59, [.cellN 8 3, .tmp 9], (.kp [0, 1, 2, 3] (.seq (.region impl_PutStrip_r0 false) (.kp [4, 5, 6, 7, 8] (.seq (.seq (.region (impl_PutStrip_r1 i_impl_IsField i_impl_IsStrip) false) (.kp [4, 5, 6, 7, 8, 21] (.cond (.tmp 21) (.seq (.region impl_PutStrip_r2 false) .ret) .skip))) (.kp [4, 5, 6, 7, 8] (.seq (.region impl_PutStrip_r3 false) (.kp [4, 5, 6, 7, 8, 10] (.seq (.seq (.region impl_PutStrip_r4 false) (.kp [4, 5, 6, 7, 8, 46] (.cond (.tmp 46) (.seq (.region impl_PutStrip_r5 false) .ret) .skip))) (.kp [4, 5, 6, 7, 8] (.seq (.region (impl_PutStrip_r6 i_impl_copyField) false) (.kp [4, 6, 7, 8, 11] (.seq (.region (impl_PutStrip_r7 i_impl_put) false) (.kp [4, 8, 11] (.seq (.region (impl_PutStrip_r8 i_impl_validField) false) .ret))))))))))))))⟩


/-- A part of a row is replaced. -/
def putR (xs ys : List Nat) (at_ : Nat) : List Nat := xs.take at_ ++ ys ++ xs.drop (at_ + ys.length)
theorem putR_length {xs ys : List Nat} {at_ : Nat} (h : at_ + ys.length ≤ xs.length) : (putR xs ys at_).length = xs.length := by
  simp only [putR, List.length_append, List.length_take, List.length_drop]; omega
theorem splice_f32s (xs ys : List Nat) (at_ : Nat) : splice (f32s xs) at_ (f32s ys) = f32s (putR xs ys at_) := by
  simp [splice, putR, f32s]
theorem putR_zero (xs : List Nat) (at_ : Nat) : putR xs [] at_ = xs := by simp [putR]
theorem putR_step {xs ys : List Nat} {at_ i : Nat} (h : at_ + i < xs.length) (hi : i < ys.length) : (putR xs (ys.take i) at_).set (at_ + i) (ys.getD i 0) = putR xs (ys.take (i + 1)) at_ := by
  have l1 : (ys.take i).length = i := by rw [List.length_take]; omega
  have l2 : (ys.take (i + 1)).length = i + 1 := by rw [List.length_take]; omega
  have l3 : (xs.take at_ ++ ys.take i).length = at_ + i := by rw [List.length_append, List.length_take, l1]; omega
  unfold putR
  rw [l1, l2, List.set_append_right _ _ (by omega), l3, Nat.sub_self, List.drop_eq_getElem_cons h, List.set_cons_zero]
  rw [List.take_add_one, List.getElem?_eq_getElem hi, List.getD_eq_getElem?_getD, List.getElem?_eq_getElem hi]
  simp only [Option.getD_some, Option.toList_some, List.append_assoc, List.cons_append, List.nil_append, Nat.add_assoc]

section
variable {C : Ctab} {F : Frame} {τ l : Heap}
theorem EvR.slo {Q} {d k n at_ b : Nat} {rest : List SOper} {x y : Operand} {cells : List Value} {r : Bool} (h2 : τ[b]? = some ⟨cells, 1, r⟩) (hl : cells.length = n) (hat : at_ ≤ n) (h1 : eval F x = .slice (some ⟨b, 0, none⟩) n n) (h3 : eval F y = .int .i64 (at_ : Nat))
    (h : EvR C rest ((d, .slice (some ⟨b, at_, none⟩) (n - at_) (n - at_)) :: F) (τ ++ l) Q) : EvR C (⟨some d, none, .sliceSl 1 x (some y) none, k⟩ :: rest) F (τ ++ l) Q := by
  refine EvR.opS (evL_ok ?_) h
  have hlt := (List.getElem?_eq_some_iff.1 h2).1
  have e : (τ ++ l)[b]? = some ⟨cells, 1, r⟩ := by rw [List.getElem?_append_left hlt]; exact h2
  have e2 : rowAt (τ ++ l) 1 ⟨b, 0, none⟩ n = some ⟨cells, 1, r⟩ := by simp [rowAt, e, hl]
  simp only [evL, h1, Option.map_some, Option.map_none, h3, aSliceSl, e2, idx]
  rw [if_pos (by omega)]
  have g1 : 0 + (at_ : Int).toNat * 1 = at_ := by omega
  have g2 : ((n : Int) - (at_ : Int)).toNat = n - at_ := by omega
  have g3 : n - (at_ : Int).toNat = n - at_ := by omega
  rw [g1, g2, g3]
theorem EvR.cpo {Q} {d k b at_ n m : Nat} {rest : List SOper} {x y : Operand} {v : Value} {cells new : List Value} (h2 : τ[b]? = some ⟨cells, 1, true⟩) (hl : cells.length = n) (h1 : eval F x = .slice (some ⟨b, at_, none⟩) (n - at_) (n - at_)) (h3 : eval F y = v) (hv : Row τ 1 v m new) (hk : at_ + m ≤ n)
    (hok : new.all cellOk = true) (h : EvR C rest ((d, .int .i64 (m : Nat)) :: F) (τ.set b ⟨splice cells at_ new, 1, true⟩ ++ l) Q) : EvR C (⟨some d, none, .copy 1 x y, k⟩ :: rest) F (τ ++ l) Q := by
  have hlt := (List.getElem?_eq_some_iff.1 h2).1
  have e : (τ ++ l)[b]? = some ⟨cells, 1, true⟩ := by rw [List.getElem?_append_left hlt]; exact h2
  have e2 : rowAt (τ ++ l) 1 ⟨b, at_, none⟩ (n - at_) = some ⟨cells, 1, true⟩ := by
    have hq : at_ + (n - at_) * 1 = n := by omega
    simp [rowAt, e, hl]
    omega
  have hc := (hv.ext l).cells
  have hlen := hv.len
  refine EvR.opS (v := .int .i64 (m : Nat)) (σ' := τ.set b ⟨splice cells at_ new, 1, true⟩ ++ l) ?_ h
  simp only [evOp, h1, h3]
  cases v with
  | slice q m' c' =>
    simp only [aLen, Option.some.injEq, Value.int.injEq, true_and] at hlen
    obtain rfl : m' = m := by omega
    have hmin : min m' (n - at_) = m' := by omega
    simp only [aCopy, hmin, hc, e2]
    rw [if_pos ⟨trivial, Nat.le_refl _, hok⟩, List.set_append_left _ _ hlt]
  | _ => simp [aLen] at hlen
end

def impl_put_ok (c : Contract) : Prop := ∀ (σ : Heap) (p : Nat) (w h : Int) (wr : Bool) (sv lv : Value) (f n : Int) (ev xv yv : Value) (a b d N1 N2 N3 : Nat) (e x y pe px py : List Nat) (r : Bool), cellOk sv = true → cellOk lv = true → a ≠ b → a ≠ d → b ≠ d →
    e.length = N1 → x.length = N2 → y.length = N3 → σ[p]? = some ⟨[slV a N1, slV b N2, slV d N3], 0, r⟩ → σ[a]? = some (rowO e) → σ[b]? = some (rowO x) → σ[d]? = some (rowO y) → (∀ X Y Z, FlR (PH σ a b d X Y Z) ev xv yv pe px py) →
    0 ≤ f * w → f * w ≤ 256 → f * w + pe.length ≤ N1 → f * w + px.length ≤ N2 → f * w + py.length ≤ N3 →
    Ret c [shV w h wr sv lv, .pointer (some ⟨p, 0, none⟩), .agg #[.int .i64 f, .int .i64 n], fV ev xv yv] σ fun v σ' => v = .tuple #[] ∧ σ' = ((σ.set a (rowO (putR e pe (f * w).toNat))).set b (rowO (putR x px (f * w).toNat))).set d (rowO (putR y py (f * w).toNat))
theorem impl_put_law {C : Ctab} : impl_put_ok (gcC C impl_put false) := by
  intro σ p w h wr sv lv f n ev xv yv a b d N1 N2 N3 e x y pe px py r ks kl h2 h3 h4 e1 e2 e3 hp ha hb hd hpart f0 f1 g1 g2 g3
  have l1 : a < σ.length := (List.getElem?_eq_some_iff.1 ha).1
  have l2 : b < σ.length := (List.getElem?_eq_some_iff.1 hb).1
  have l3 : d < σ.length := (List.getElem?_eq_some_iff.1 hd).1
  have hp1 := PtAt.whole hp
  obtain ⟨A, hA⟩ := Int.eq_ofNat_of_zero_le f0
  have hA2 : (f * w).toNat = A := by omega
  rw [hA2]
  obtain ⟨q1, q2, q3⟩ : FlR σ ev xv yv pe px py := by have := hpart (rowO e) (rowO x) (rowO y); rw [PH_self ha hb hd] at this; exact this
  refine ret_gc rfl rfl ?_
  repeat' (first | apply Ev.sq | apply Ev.rg | refine Ev.aKp ?_ | apply thenQ.n | apply thenQ.e | apply thenQ.r | apply blkQ.n | apply blkQ.e | refine blkQ.x ?_ rfl | apply blkQ.r | refine Ev.aT ?_ | refine Ev.aF ?_ | apply Ev.skip | apply Ev.exit | apply Ev.ret | apply Ev.bk | refine EvR.mv ?_ | refine EvR.fa ?_ | refine EvR.l1 ?_ | refine EvR.aNotSF ?_ | refine EvR.aNotST ?_ | refine EvR.aMetT ?_ | refine EvR.aMetF ?_ | refine EvR.aUS ?_ | refine EvR.mvc ?_ | refine EvR.lv ?_ | refine EvR.lp ?_ | refine EvR.lNp ?_ | refine EvR.pkT ?_ | refine EvR.pkF ?_ | refine EvR.lN ?_ | refine EvR.ix ?_ | refine EvR.le ?_ | refine EvR.ixo ?_ | refine EvR.l1o ?_ | refine EvR.lei ?_ | refine EvR.leb ?_ | refine EvR.lnr ?_ | refine EvR.lns ?_ | refine EvR.nt ?_ | refine EvR.lt ?_ | refine EvR.le_ ?_ | refine EvR.gt ?_ | refine EvR.ge ?_ | refine EvR.eqi ?_ | refine EvR.nei ?_ | refine EvR.add ?_ | refine EvR.sub ?_ | refine EvR.mul ?_ | refine EvR.rem ?_ | refine EvR.quo ?_ | refine EvR.nc ?_ | refine EvR.ex ?_ | refine EvR.f1 ?_ | refine EvR.fadd ?_ | refine EvR.fsub ?_ | refine EvR.fmul ?_ | refine EvR.fquo ?_ | refine EvR.flt_ ?_ | refine EvR.fle_ ?_ | refine EvR.fgt_ ?_ | refine EvR.fge_ ?_ | refine EvR.feq_ ?_ | refine EvR.fne_ ?_ | refine EvR.cv ?_ | refine EvR.cvu ?_ | refine EvR.cvf ?_ | refine EvR.cvw ?_ | refine EvR.bx ?_ | refine EvR.aNotNT ?_ | refine EvR.aNotNF ?_ | refine EvR.aUN ?_ | refine EvR.nl ?_ | refine EvR.so ?_ | (apply Ev.regionQ drk; (· exact quie)) | (apply Ev.regionN0 drk; (· exact quie)) | (apply Ev.regionA drk (by assumption); (· exact quie)) | (apply Ev.regionNA drk (by assumption); (· exact quie)) | (apply Ev.regionS0 drk; (· exact quie)) | (refine EvR.aSplB ?_ ?_ <;> (intro hb; rw [hb]; (try simp only [Bool.not_eq_true', Bool.not_eq_false', Bool.not_eq_eq_eq_not, Bool.not_true, Bool.not_false, decide_eq_true_eq, decide_eq_false_iff_not, Bool.and_eq_true, Bool.and_eq_false_iff, Bool.or_eq_true, Bool.or_eq_false_iff] at hb); (try (exfalso; omega)))) | (refine Ev.aSplB ?_ ?_ <;> (intro hb; (try rw [hb]); (try simp only [Bool.not_eq_true', Bool.not_eq_false', Bool.not_eq_eq_eq_not, Bool.not_true, Bool.not_false, decide_eq_true_eq, decide_eq_false_iff_not, Bool.and_eq_true, Bool.and_eq_false_iff, Bool.or_eq_true, Bool.or_eq_false_iff] at hb); (try (exfalso; omega)))) | (apply EvR.aS0; (· exact evc)) | (apply EvR.aN0; (· exact evc)) | (apply endS trivial; rotate_left; (· exact eva); (· rfl); try refine ⟨?_, rfl⟩) | fail)
  refine EvR.slo (at_ := A) ha (by rw [f32s_length]; exact e1) (by omega) rfl (by rw [← hA]; rfl) ?_
  repeat' (first | apply Ev.sq | apply Ev.rg | refine Ev.aKp ?_ | apply thenQ.n | apply thenQ.e | apply thenQ.r | apply blkQ.n | apply blkQ.e | refine blkQ.x ?_ rfl | apply blkQ.r | refine Ev.aT ?_ | refine Ev.aF ?_ | apply Ev.skip | apply Ev.exit | apply Ev.ret | apply Ev.bk | refine EvR.mv ?_ | refine EvR.fa ?_ | refine EvR.l1 ?_ | refine EvR.aNotSF ?_ | refine EvR.aNotST ?_ | refine EvR.aMetT ?_ | refine EvR.aMetF ?_ | refine EvR.aUS ?_ | refine EvR.mvc ?_ | refine EvR.lv ?_ | refine EvR.lp ?_ | refine EvR.lNp ?_ | refine EvR.pkT ?_ | refine EvR.pkF ?_ | refine EvR.lN ?_ | refine EvR.ix ?_ | refine EvR.le ?_ | refine EvR.ixo ?_ | refine EvR.l1o ?_ | refine EvR.lei ?_ | refine EvR.leb ?_ | refine EvR.lnr ?_ | refine EvR.lns ?_ | refine EvR.nt ?_ | refine EvR.lt ?_ | refine EvR.le_ ?_ | refine EvR.gt ?_ | refine EvR.ge ?_ | refine EvR.eqi ?_ | refine EvR.nei ?_ | refine EvR.add ?_ | refine EvR.sub ?_ | refine EvR.mul ?_ | refine EvR.rem ?_ | refine EvR.quo ?_ | refine EvR.nc ?_ | refine EvR.ex ?_ | refine EvR.f1 ?_ | refine EvR.fadd ?_ | refine EvR.fsub ?_ | refine EvR.fmul ?_ | refine EvR.fquo ?_ | refine EvR.flt_ ?_ | refine EvR.fle_ ?_ | refine EvR.fgt_ ?_ | refine EvR.fge_ ?_ | refine EvR.feq_ ?_ | refine EvR.fne_ ?_ | refine EvR.cv ?_ | refine EvR.cvu ?_ | refine EvR.cvf ?_ | refine EvR.cvw ?_ | refine EvR.bx ?_ | refine EvR.aNotNT ?_ | refine EvR.aNotNF ?_ | refine EvR.aUN ?_ | refine EvR.nl ?_ | refine EvR.so ?_ | (apply Ev.regionQ drk; (· exact quie)) | (apply Ev.regionN0 drk; (· exact quie)) | (apply Ev.regionA drk (by assumption); (· exact quie)) | (apply Ev.regionNA drk (by assumption); (· exact quie)) | (apply Ev.regionS0 drk; (· exact quie)) | (refine EvR.aSplB ?_ ?_ <;> (intro hb; rw [hb]; (try simp only [Bool.not_eq_true', Bool.not_eq_false', Bool.not_eq_eq_eq_not, Bool.not_true, Bool.not_false, decide_eq_true_eq, decide_eq_false_iff_not, Bool.and_eq_true, Bool.and_eq_false_iff, Bool.or_eq_true, Bool.or_eq_false_iff] at hb); (try (exfalso; omega)))) | (refine Ev.aSplB ?_ ?_ <;> (intro hb; (try rw [hb]); (try simp only [Bool.not_eq_true', Bool.not_eq_false', Bool.not_eq_eq_eq_not, Bool.not_true, Bool.not_false, decide_eq_true_eq, decide_eq_false_iff_not, Bool.and_eq_true, Bool.and_eq_false_iff, Bool.or_eq_true, Bool.or_eq_false_iff] at hb); (try (exfalso; omega)))) | (apply EvR.aS0; (· exact evc)) | (apply EvR.aN0; (· exact evc)) | (apply endS trivial; rotate_left; (· exact eva); (· rfl); try refine ⟨?_, rfl⟩) | fail)
  refine EvR.cpo (m := pe.length) (new := f32s pe) ha (by rw [f32s_length]; exact e1) rfl rfl q1 (by omega) (f32s_ok _) ?_
  rw [splice_f32s]
  have hτ1 : σ.set a (rowO (putR e pe A)) = PH σ a b d (rowO (putR e pe A)) (rowO x) (rowO y) := by
    have := PH_seta (σ := σ) (a := a) (b := b) (c := d) (X := rowO e) (Y := rowO x) (Z := rowO y) (X' := rowO (putR e pe A)) h2 h3
    rw [PH_self ha hb hd] at this
    exact this
  obtain ⟨τ1, t1⟩ : ∃ s, s = PH σ a b d (rowO (putR e pe A)) (rowO x) (rowO y) := ⟨_, rfl⟩
  have L1 : σ.length = τ1.length := by rw [t1, PH_len]
  have b1 : τ1[b]? = some (rowO x) := by rw [t1]; exact PH_b h4 l2
  have p1 : PtAt τ1 p 0 [slV a N1, slV b N2, slV d N3] := PtAt.whole (r := r) (by rw [t1]; exact PH_pt ⟨_, ha⟩ ⟨_, hb⟩ ⟨_, hd⟩ hp)
  obtain ⟨r1, r2, r3⟩ : FlR τ1 ev xv yv pe px py := by rw [t1]; exact hpart _ _ _
  rw [hτ1, ← t1, L1]
  repeat' (first | apply Ev.sq | apply Ev.rg | refine Ev.aKp ?_ | apply thenQ.n | apply thenQ.e | apply thenQ.r | apply blkQ.n | apply blkQ.e | refine blkQ.x ?_ rfl | apply blkQ.r | refine Ev.aT ?_ | refine Ev.aF ?_ | apply Ev.skip | apply Ev.exit | apply Ev.ret | apply Ev.bk | refine EvR.mv ?_ | refine EvR.fa ?_ | refine EvR.l1 ?_ | refine EvR.aNotSF ?_ | refine EvR.aNotST ?_ | refine EvR.aMetT ?_ | refine EvR.aMetF ?_ | refine EvR.aUS ?_ | refine EvR.mvc ?_ | refine EvR.lv ?_ | refine EvR.lp ?_ | refine EvR.lNp ?_ | refine EvR.pkT ?_ | refine EvR.pkF ?_ | refine EvR.lN ?_ | refine EvR.ix ?_ | refine EvR.le ?_ | refine EvR.ixo ?_ | refine EvR.l1o ?_ | refine EvR.lei ?_ | refine EvR.leb ?_ | refine EvR.lnr ?_ | refine EvR.lns ?_ | refine EvR.nt ?_ | refine EvR.lt ?_ | refine EvR.le_ ?_ | refine EvR.gt ?_ | refine EvR.ge ?_ | refine EvR.eqi ?_ | refine EvR.nei ?_ | refine EvR.add ?_ | refine EvR.sub ?_ | refine EvR.mul ?_ | refine EvR.rem ?_ | refine EvR.quo ?_ | refine EvR.nc ?_ | refine EvR.ex ?_ | refine EvR.f1 ?_ | refine EvR.fadd ?_ | refine EvR.fsub ?_ | refine EvR.fmul ?_ | refine EvR.fquo ?_ | refine EvR.flt_ ?_ | refine EvR.fle_ ?_ | refine EvR.fgt_ ?_ | refine EvR.fge_ ?_ | refine EvR.feq_ ?_ | refine EvR.fne_ ?_ | refine EvR.cv ?_ | refine EvR.cvu ?_ | refine EvR.cvf ?_ | refine EvR.cvw ?_ | refine EvR.bx ?_ | refine EvR.aNotNT ?_ | refine EvR.aNotNF ?_ | refine EvR.aUN ?_ | refine EvR.nl ?_ | refine EvR.so ?_ | (apply Ev.regionQ drk; (· exact quie)) | (apply Ev.regionN0 drk; (· exact quie)) | (apply Ev.regionA drk (by assumption); (· exact quie)) | (apply Ev.regionNA drk (by assumption); (· exact quie)) | (apply Ev.regionS0 drk; (· exact quie)) | (refine EvR.aSplB ?_ ?_ <;> (intro hb; rw [hb]; (try simp only [Bool.not_eq_true', Bool.not_eq_false', Bool.not_eq_eq_eq_not, Bool.not_true, Bool.not_false, decide_eq_true_eq, decide_eq_false_iff_not, Bool.and_eq_true, Bool.and_eq_false_iff, Bool.or_eq_true, Bool.or_eq_false_iff] at hb); (try (exfalso; omega)))) | (refine Ev.aSplB ?_ ?_ <;> (intro hb; (try rw [hb]); (try simp only [Bool.not_eq_true', Bool.not_eq_false', Bool.not_eq_eq_eq_not, Bool.not_true, Bool.not_false, decide_eq_true_eq, decide_eq_false_iff_not, Bool.and_eq_true, Bool.and_eq_false_iff, Bool.or_eq_true, Bool.or_eq_false_iff] at hb); (try (exfalso; omega)))) | (apply EvR.aS0; (· exact evc)) | (apply EvR.aN0; (· exact evc)) | (apply endS trivial; rotate_left; (· exact eva); (· rfl); try refine ⟨?_, rfl⟩) | fail)
  refine EvR.slo (at_ := A) b1 (by rw [f32s_length]; exact e2) (by omega) rfl (by rw [← hA]; rfl) ?_
  repeat' (first | apply Ev.sq | apply Ev.rg | refine Ev.aKp ?_ | apply thenQ.n | apply thenQ.e | apply thenQ.r | apply blkQ.n | apply blkQ.e | refine blkQ.x ?_ rfl | apply blkQ.r | refine Ev.aT ?_ | refine Ev.aF ?_ | apply Ev.skip | apply Ev.exit | apply Ev.ret | apply Ev.bk | refine EvR.mv ?_ | refine EvR.fa ?_ | refine EvR.l1 ?_ | refine EvR.aNotSF ?_ | refine EvR.aNotST ?_ | refine EvR.aMetT ?_ | refine EvR.aMetF ?_ | refine EvR.aUS ?_ | refine EvR.mvc ?_ | refine EvR.lv ?_ | refine EvR.lp ?_ | refine EvR.lNp ?_ | refine EvR.pkT ?_ | refine EvR.pkF ?_ | refine EvR.lN ?_ | refine EvR.ix ?_ | refine EvR.le ?_ | refine EvR.ixo ?_ | refine EvR.l1o ?_ | refine EvR.lei ?_ | refine EvR.leb ?_ | refine EvR.lnr ?_ | refine EvR.lns ?_ | refine EvR.nt ?_ | refine EvR.lt ?_ | refine EvR.le_ ?_ | refine EvR.gt ?_ | refine EvR.ge ?_ | refine EvR.eqi ?_ | refine EvR.nei ?_ | refine EvR.add ?_ | refine EvR.sub ?_ | refine EvR.mul ?_ | refine EvR.rem ?_ | refine EvR.quo ?_ | refine EvR.nc ?_ | refine EvR.ex ?_ | refine EvR.f1 ?_ | refine EvR.fadd ?_ | refine EvR.fsub ?_ | refine EvR.fmul ?_ | refine EvR.fquo ?_ | refine EvR.flt_ ?_ | refine EvR.fle_ ?_ | refine EvR.fgt_ ?_ | refine EvR.fge_ ?_ | refine EvR.feq_ ?_ | refine EvR.fne_ ?_ | refine EvR.cv ?_ | refine EvR.cvu ?_ | refine EvR.cvf ?_ | refine EvR.cvw ?_ | refine EvR.bx ?_ | refine EvR.aNotNT ?_ | refine EvR.aNotNF ?_ | refine EvR.aUN ?_ | refine EvR.nl ?_ | refine EvR.so ?_ | (apply Ev.regionQ drk; (· exact quie)) | (apply Ev.regionN0 drk; (· exact quie)) | (apply Ev.regionA drk (by assumption); (· exact quie)) | (apply Ev.regionNA drk (by assumption); (· exact quie)) | (apply Ev.regionS0 drk; (· exact quie)) | (refine EvR.aSplB ?_ ?_ <;> (intro hb; rw [hb]; (try simp only [Bool.not_eq_true', Bool.not_eq_false', Bool.not_eq_eq_eq_not, Bool.not_true, Bool.not_false, decide_eq_true_eq, decide_eq_false_iff_not, Bool.and_eq_true, Bool.and_eq_false_iff, Bool.or_eq_true, Bool.or_eq_false_iff] at hb); (try (exfalso; omega)))) | (refine Ev.aSplB ?_ ?_ <;> (intro hb; (try rw [hb]); (try simp only [Bool.not_eq_true', Bool.not_eq_false', Bool.not_eq_eq_eq_not, Bool.not_true, Bool.not_false, decide_eq_true_eq, decide_eq_false_iff_not, Bool.and_eq_true, Bool.and_eq_false_iff, Bool.or_eq_true, Bool.or_eq_false_iff] at hb); (try (exfalso; omega)))) | (apply EvR.aS0; (· exact evc)) | (apply EvR.aN0; (· exact evc)) | (apply endS trivial; rotate_left; (· exact eva); (· rfl); try refine ⟨?_, rfl⟩) | fail)
  refine EvR.cpo (m := px.length) (new := f32s px) b1 (by rw [f32s_length]; exact e2) rfl rfl r2 (by omega) (f32s_ok _) ?_
  rw [splice_f32s]
  have hτ2 : τ1.set b (rowO (putR x px A)) = PH σ a b d (rowO (putR e pe A)) (rowO (putR x px A)) (rowO y) := by rw [t1]; exact PH_setb h4
  obtain ⟨τ2, t2⟩ : ∃ s, s = PH σ a b d (rowO (putR e pe A)) (rowO (putR x px A)) (rowO y) := ⟨_, rfl⟩
  have L2 : τ1.length = τ2.length := by rw [← L1, t2, PH_len]
  have d2 : τ2[d]? = some (rowO y) := by rw [t2]; exact PH_c l3
  have p2 : PtAt τ2 p 0 [slV a N1, slV b N2, slV d N3] := PtAt.whole (r := r) (by rw [t2]; exact PH_pt ⟨_, ha⟩ ⟨_, hb⟩ ⟨_, hd⟩ hp)
  obtain ⟨s1, s2, s3⟩ : FlR τ2 ev xv yv pe px py := by rw [t2]; exact hpart _ _ _
  rw [hτ2, ← t2, L2]
  repeat' (first | apply Ev.sq | apply Ev.rg | refine Ev.aKp ?_ | apply thenQ.n | apply thenQ.e | apply thenQ.r | apply blkQ.n | apply blkQ.e | refine blkQ.x ?_ rfl | apply blkQ.r | refine Ev.aT ?_ | refine Ev.aF ?_ | apply Ev.skip | apply Ev.exit | apply Ev.ret | apply Ev.bk | refine EvR.mv ?_ | refine EvR.fa ?_ | refine EvR.l1 ?_ | refine EvR.aNotSF ?_ | refine EvR.aNotST ?_ | refine EvR.aMetT ?_ | refine EvR.aMetF ?_ | refine EvR.aUS ?_ | refine EvR.mvc ?_ | refine EvR.lv ?_ | refine EvR.lp ?_ | refine EvR.lNp ?_ | refine EvR.pkT ?_ | refine EvR.pkF ?_ | refine EvR.lN ?_ | refine EvR.ix ?_ | refine EvR.le ?_ | refine EvR.ixo ?_ | refine EvR.l1o ?_ | refine EvR.lei ?_ | refine EvR.leb ?_ | refine EvR.lnr ?_ | refine EvR.lns ?_ | refine EvR.nt ?_ | refine EvR.lt ?_ | refine EvR.le_ ?_ | refine EvR.gt ?_ | refine EvR.ge ?_ | refine EvR.eqi ?_ | refine EvR.nei ?_ | refine EvR.add ?_ | refine EvR.sub ?_ | refine EvR.mul ?_ | refine EvR.rem ?_ | refine EvR.quo ?_ | refine EvR.nc ?_ | refine EvR.ex ?_ | refine EvR.f1 ?_ | refine EvR.fadd ?_ | refine EvR.fsub ?_ | refine EvR.fmul ?_ | refine EvR.fquo ?_ | refine EvR.flt_ ?_ | refine EvR.fle_ ?_ | refine EvR.fgt_ ?_ | refine EvR.fge_ ?_ | refine EvR.feq_ ?_ | refine EvR.fne_ ?_ | refine EvR.cv ?_ | refine EvR.cvu ?_ | refine EvR.cvf ?_ | refine EvR.cvw ?_ | refine EvR.bx ?_ | refine EvR.aNotNT ?_ | refine EvR.aNotNF ?_ | refine EvR.aUN ?_ | refine EvR.nl ?_ | refine EvR.so ?_ | (apply Ev.regionQ drk; (· exact quie)) | (apply Ev.regionN0 drk; (· exact quie)) | (apply Ev.regionA drk (by assumption); (· exact quie)) | (apply Ev.regionNA drk (by assumption); (· exact quie)) | (apply Ev.regionS0 drk; (· exact quie)) | (refine EvR.aSplB ?_ ?_ <;> (intro hb; rw [hb]; (try simp only [Bool.not_eq_true', Bool.not_eq_false', Bool.not_eq_eq_eq_not, Bool.not_true, Bool.not_false, decide_eq_true_eq, decide_eq_false_iff_not, Bool.and_eq_true, Bool.and_eq_false_iff, Bool.or_eq_true, Bool.or_eq_false_iff] at hb); (try (exfalso; omega)))) | (refine Ev.aSplB ?_ ?_ <;> (intro hb; (try rw [hb]); (try simp only [Bool.not_eq_true', Bool.not_eq_false', Bool.not_eq_eq_eq_not, Bool.not_true, Bool.not_false, decide_eq_true_eq, decide_eq_false_iff_not, Bool.and_eq_true, Bool.and_eq_false_iff, Bool.or_eq_true, Bool.or_eq_false_iff] at hb); (try (exfalso; omega)))) | (apply EvR.aS0; (· exact evc)) | (apply EvR.aN0; (· exact evc)) | (apply endS trivial; rotate_left; (· exact eva); (· rfl); try refine ⟨?_, rfl⟩) | fail)
  refine EvR.slo (at_ := A) d2 (by rw [f32s_length]; exact e3) (by omega) rfl (by rw [← hA]; rfl) ?_
  repeat' (first | apply Ev.sq | apply Ev.rg | refine Ev.aKp ?_ | apply thenQ.n | apply thenQ.e | apply thenQ.r | apply blkQ.n | apply blkQ.e | refine blkQ.x ?_ rfl | apply blkQ.r | refine Ev.aT ?_ | refine Ev.aF ?_ | apply Ev.skip | apply Ev.exit | apply Ev.ret | apply Ev.bk | refine EvR.mv ?_ | refine EvR.fa ?_ | refine EvR.l1 ?_ | refine EvR.aNotSF ?_ | refine EvR.aNotST ?_ | refine EvR.aMetT ?_ | refine EvR.aMetF ?_ | refine EvR.aUS ?_ | refine EvR.mvc ?_ | refine EvR.lv ?_ | refine EvR.lp ?_ | refine EvR.lNp ?_ | refine EvR.pkT ?_ | refine EvR.pkF ?_ | refine EvR.lN ?_ | refine EvR.ix ?_ | refine EvR.le ?_ | refine EvR.ixo ?_ | refine EvR.l1o ?_ | refine EvR.lei ?_ | refine EvR.leb ?_ | refine EvR.lnr ?_ | refine EvR.lns ?_ | refine EvR.nt ?_ | refine EvR.lt ?_ | refine EvR.le_ ?_ | refine EvR.gt ?_ | refine EvR.ge ?_ | refine EvR.eqi ?_ | refine EvR.nei ?_ | refine EvR.add ?_ | refine EvR.sub ?_ | refine EvR.mul ?_ | refine EvR.rem ?_ | refine EvR.quo ?_ | refine EvR.nc ?_ | refine EvR.ex ?_ | refine EvR.f1 ?_ | refine EvR.fadd ?_ | refine EvR.fsub ?_ | refine EvR.fmul ?_ | refine EvR.fquo ?_ | refine EvR.flt_ ?_ | refine EvR.fle_ ?_ | refine EvR.fgt_ ?_ | refine EvR.fge_ ?_ | refine EvR.feq_ ?_ | refine EvR.fne_ ?_ | refine EvR.cv ?_ | refine EvR.cvu ?_ | refine EvR.cvf ?_ | refine EvR.cvw ?_ | refine EvR.bx ?_ | refine EvR.aNotNT ?_ | refine EvR.aNotNF ?_ | refine EvR.aUN ?_ | refine EvR.nl ?_ | refine EvR.so ?_ | (apply Ev.regionQ drk; (· exact quie)) | (apply Ev.regionN0 drk; (· exact quie)) | (apply Ev.regionA drk (by assumption); (· exact quie)) | (apply Ev.regionNA drk (by assumption); (· exact quie)) | (apply Ev.regionS0 drk; (· exact quie)) | (refine EvR.aSplB ?_ ?_ <;> (intro hb; rw [hb]; (try simp only [Bool.not_eq_true', Bool.not_eq_false', Bool.not_eq_eq_eq_not, Bool.not_true, Bool.not_false, decide_eq_true_eq, decide_eq_false_iff_not, Bool.and_eq_true, Bool.and_eq_false_iff, Bool.or_eq_true, Bool.or_eq_false_iff] at hb); (try (exfalso; omega)))) | (refine Ev.aSplB ?_ ?_ <;> (intro hb; (try rw [hb]); (try simp only [Bool.not_eq_true', Bool.not_eq_false', Bool.not_eq_eq_eq_not, Bool.not_true, Bool.not_false, decide_eq_true_eq, decide_eq_false_iff_not, Bool.and_eq_true, Bool.and_eq_false_iff, Bool.or_eq_true, Bool.or_eq_false_iff] at hb); (try (exfalso; omega)))) | (apply EvR.aS0; (· exact evc)) | (apply EvR.aN0; (· exact evc)) | (apply endS trivial; rotate_left; (· exact eva); (· rfl); try refine ⟨?_, rfl⟩) | fail)
  refine EvR.cpo (m := py.length) (new := f32s py) d2 (by rw [f32s_length]; exact e3) rfl rfl s3 (by omega) (f32s_ok _) ?_
  rw [splice_f32s]
  have hτ3 : τ2.set d (rowO (putR y py A)) = PH σ a b d (rowO (putR e pe A)) (rowO (putR x px A)) (rowO (putR y py A)) := by rw [t2]; exact PH_setc
  rw [hτ3, ← L2, ← L1]
  repeat' (first | apply Ev.sq | apply Ev.rg | refine Ev.aKp ?_ | apply thenQ.n | apply thenQ.e | apply thenQ.r | apply blkQ.n | apply blkQ.e | refine blkQ.x ?_ rfl | apply blkQ.r | refine Ev.aT ?_ | refine Ev.aF ?_ | apply Ev.skip | apply Ev.exit | apply Ev.ret | apply Ev.bk | refine EvR.mv ?_ | refine EvR.fa ?_ | refine EvR.l1 ?_ | refine EvR.aNotSF ?_ | refine EvR.aNotST ?_ | refine EvR.aMetT ?_ | refine EvR.aMetF ?_ | refine EvR.aUS ?_ | refine EvR.mvc ?_ | refine EvR.lv ?_ | refine EvR.lp ?_ | refine EvR.lNp ?_ | refine EvR.pkT ?_ | refine EvR.pkF ?_ | refine EvR.lN ?_ | refine EvR.ix ?_ | refine EvR.le ?_ | refine EvR.ixo ?_ | refine EvR.l1o ?_ | refine EvR.lei ?_ | refine EvR.leb ?_ | refine EvR.lnr ?_ | refine EvR.lns ?_ | refine EvR.nt ?_ | refine EvR.lt ?_ | refine EvR.le_ ?_ | refine EvR.gt ?_ | refine EvR.ge ?_ | refine EvR.eqi ?_ | refine EvR.nei ?_ | refine EvR.add ?_ | refine EvR.sub ?_ | refine EvR.mul ?_ | refine EvR.rem ?_ | refine EvR.quo ?_ | refine EvR.nc ?_ | refine EvR.ex ?_ | refine EvR.f1 ?_ | refine EvR.fadd ?_ | refine EvR.fsub ?_ | refine EvR.fmul ?_ | refine EvR.fquo ?_ | refine EvR.flt_ ?_ | refine EvR.fle_ ?_ | refine EvR.fgt_ ?_ | refine EvR.fge_ ?_ | refine EvR.feq_ ?_ | refine EvR.fne_ ?_ | refine EvR.cv ?_ | refine EvR.cvu ?_ | refine EvR.cvf ?_ | refine EvR.cvw ?_ | refine EvR.bx ?_ | refine EvR.aNotNT ?_ | refine EvR.aNotNF ?_ | refine EvR.aUN ?_ | refine EvR.nl ?_ | refine EvR.so ?_ | (apply Ev.regionQ drk; (· exact quie)) | (apply Ev.regionN0 drk; (· exact quie)) | (apply Ev.regionA drk (by assumption); (· exact quie)) | (apply Ev.regionNA drk (by assumption); (· exact quie)) | (apply Ev.regionS0 drk; (· exact quie)) | (refine EvR.aSplB ?_ ?_ <;> (intro hb; rw [hb]; (try simp only [Bool.not_eq_true', Bool.not_eq_false', Bool.not_eq_eq_eq_not, Bool.not_true, Bool.not_false, decide_eq_true_eq, decide_eq_false_iff_not, Bool.and_eq_true, Bool.and_eq_false_iff, Bool.or_eq_true, Bool.or_eq_false_iff] at hb); (try (exfalso; omega)))) | (refine Ev.aSplB ?_ ?_ <;> (intro hb; (try rw [hb]); (try simp only [Bool.not_eq_true', Bool.not_eq_false', Bool.not_eq_eq_eq_not, Bool.not_true, Bool.not_false, decide_eq_true_eq, decide_eq_false_iff_not, Bool.and_eq_true, Bool.and_eq_false_iff, Bool.or_eq_true, Bool.or_eq_false_iff] at hb); (try (exfalso; omega)))) | (apply EvR.aS0; (· exact evc)) | (apply EvR.aN0; (· exact evc)) | (apply endS trivial; rotate_left; (· exact eva); (· rfl); try refine ⟨?_, rfl⟩) | fail)
  apply atEnd_normal (v := .tuple #[])
  · rfl
  · exact end_mod PH_len (PH_old (f32s_const _ _) (f32s_const _ _) (f32s_const _ _)) rfl ⟨rfl, rfl⟩

def putOk (w h : Int) (wr : Bool) (sp lo e x y : List Nat) (f n : Int) (pe px py : List Nat) : Bool :=
  isField w h wr sp lo e x y && (inStrip h f n && (decide ((pe.length : Int) = w * n ∧ (px.length : Int) = w * n ∧ (py.length : Int) = w * n) && isField w h wr sp lo (putR e pe (f * w).toNat) (putR x px (f * w).toNat) (putR y py (f * w).toNat)))
/-- A field and whether it is one, as results. -/
def flRes (ok : Bool) (b : Nat) (e x y : List Nat) : Value := if ok = true then .tuple #[fV (slV b e.length) (slV (b + 1) x.length) (slV (b + 2) y.length), .bool true] else .tuple #[noField, .bool false]
def flRows (ok : Bool) (e x y : List Nat) : Heap := if ok = true then [rowO e, rowO x, rowO y] else []
theorem flRes_f (b : Nat) (e x y : List Nat) : flRes false b e x y = .tuple #[noField, .bool false] := rfl
theorem flRows_f (e x y : List Nat) : flRows false e x y = [] := rfl
theorem flRes_t (b : Nat) (e x y : List Nat) : flRes true b e x y = .tuple #[fV (slV b e.length) (slV (b + 1) x.length) (slV (b + 2) y.length), .bool true] := rfl
theorem flRows_t (e x y : List Nat) : flRows true e x y = [rowO e, rowO x, rowO y] := rfl
def PutStrip_ok (c : Contract) : Prop := ∀ (σ : Heap) (w h : Int) (wr : Bool) (sv lv : Value) (sp lo : List Nat) (ev xv yv : Value) (e x y : List Nat) (f n : Int) (ev' xv' yv' : Value) (pe px py : List Nat), ShR σ sv lv sp lo → sp.length ≤ 1048576 → lo.length ≤ 1048576 → FlR σ ev xv yv e x y → e.length ≤ 1048576 → x.length ≤ 1048576 → y.length ≤ 1048576 →
    FlR σ ev' xv' yv' pe px py → pe.length ≤ 1048576 → px.length ≤ 1048576 → py.length ≤ 1048576 →
    Ret c [shV w h wr sv lv, fV ev xv yv, .agg #[.int .i64 f, .int .i64 n], fV ev' xv' yv'] σ fun v σ' => v = flRes (putOk w h wr sp lo e x y f n pe px py) σ.length (putR e pe (f * w).toNat) (putR x px (f * w).toNat) (putR y py (f * w).toNat) ∧ σ' = σ ++ flRows (putOk w h wr sp lo e x y f n pe px py) (putR e pe (f * w).toNat) (putR x px (f * w).toNat) (putR y py (f * w).toNat)
abbrev impl_PutStrip_ok := PutStrip_ok
abbrev spec_PutStrip_ok := PutStrip_ok
theorem isField_len {w h : Int} {wr : Bool} {sp lo e x y : List Nat} (h1 : isField w h wr sp lo e x y = true) : isSheet w h sp lo = true ∧ (e.length : Int) = w * h ∧ (x.length : Int) = w * h ∧ (y.length : Int) = w * h := by
  simp only [isField, Bool.and_eq_true] at h1
  obtain ⟨hs, hf⟩ := h1
  obtain ⟨a1, a2, a3, a4, q1, q2⟩ := isSheet_sides hs
  obtain ⟨W, rfl⟩ := Int.eq_ofNat_of_zero_le (show 0 ≤ w by omega)
  obtain ⟨H, rfl⟩ := Int.eq_ofNat_of_zero_le (show 0 ≤ h by omega)
  have hWH : ((W * H : Nat) : Int) = (W : Int) * (H : Int) := Int.natCast_mul _ _
  refine ⟨hs, ?_⟩
  by_cases hl : e.length = W * H ∧ x.length = W * H ∧ y.length = W * H
  · omega
  · have := fits_len (wr := wr) hl
    rw [Int.toNat_natCast, Int.toNat_natCast, this] at hf
    cases hf
theorem strip_bd {w h f n : Int} (a1 : 3 ≤ w) (a2 : w ≤ 16) (a3 : 3 ≤ h) (a4 : h ≤ 16) (hf : inStrip h f n = true) : 0 ≤ f ∧ 1 ≤ n ∧ f + n ≤ h ∧ 0 ≤ f * w ∧ f * w ≤ 256 ∧ 0 ≤ n * w ∧ n * w ≤ 256 ∧ f * w + w * n ≤ w * h ∧ w * n = n * w := by
  simp only [inStrip, Bool.and_eq_true] at hf
  have b1 := inR_true hf.1
  have b2 := inR_true hf.2
  have c1 : f * w ≤ 16 * 16 := Int.mul_le_mul (by omega) a2 (by omega) (by omega)
  have c2 : n * w ≤ 16 * 16 := Int.mul_le_mul (by omega) a2 (by omega) (by omega)
  have c3 : (f + n) * w ≤ h * w := Int.mul_le_mul_of_nonneg_right (by omega) (by omega)
  rw [Int.add_mul] at c3
  have c4 : 0 ≤ f * w := Int.mul_nonneg (by omega) (by omega)
  have c5 : 0 ≤ n * w := Int.mul_nonneg (by omega) (by omega)
  rw [Int.mul_comm w n, Int.mul_comm w h]
  omega
theorem impl_PutStrip_law {C : Ctab} {i1 i2 i3 i4 i5 : FuncId} {c1 c2 c3 c4 c5 : Contract} (h1 : Has C i1 c1 impl_IsField_ok) (h2 : Has C i2 c2 impl_IsStrip_ok) (h3 : Has C i3 c3 impl_copyField_ok) (h4 : HasW C i4 c4 impl_put_ok) (h5 : Has C i5 c5 impl_validField_ok) :
    impl_PutStrip_ok (gcC C (impl_PutStrip i1 i2 i3 i4 i5) true) := by
  intro σ w h wr sv lv sp lo ev xv yv e x y f n ev' xv' yv' pe px py hr hn1 hn2 hr2 m1 m2 m3 hr3 k1 k2 k3
  obtain ⟨r1, r2⟩ := hr
  obtain ⟨r3, r4, r5⟩ := hr2
  obtain ⟨r6, r7, r8⟩ := hr3
  cases hF : isField w h wr sp lo e x y
  · rw [show putOk w h wr sp lo e x y f n pe px py = false from by simp [putOk, hF], flRes_f, flRows_f]
    refine ret_gc rfl rfl ?_
    repeat' (first | apply Ev.sq | apply Ev.rg | refine Ev.aKp ?_ | apply thenQ.n | apply thenQ.e | apply thenQ.r | apply blkQ.n | apply blkQ.e | refine blkQ.x ?_ rfl | apply blkQ.r | refine Ev.aT ?_ | refine Ev.aF ?_ | apply Ev.skip | apply Ev.exit | apply Ev.ret | apply Ev.bk | refine EvR.mv ?_ | refine EvR.fa ?_ | refine EvR.l1 ?_ | refine EvR.aNotSF ?_ | refine EvR.aNotST ?_ | refine EvR.aMetT ?_ | refine EvR.aMetF ?_ | refine EvR.aUS ?_ | refine EvR.mvc ?_ | refine EvR.lv ?_ | refine EvR.lp ?_ | refine EvR.lNp ?_ | refine EvR.pkT ?_ | refine EvR.pkF ?_ | refine EvR.lN ?_ | refine EvR.ix ?_ | refine EvR.le ?_ | refine EvR.ixo ?_ | refine EvR.l1o ?_ | refine EvR.lei ?_ | refine EvR.leb ?_ | refine EvR.lnr ?_ | refine EvR.lns ?_ | refine EvR.nt ?_ | refine EvR.lt ?_ | refine EvR.le_ ?_ | refine EvR.gt ?_ | refine EvR.ge ?_ | refine EvR.eqi ?_ | refine EvR.nei ?_ | refine EvR.add ?_ | refine EvR.sub ?_ | refine EvR.mul ?_ | refine EvR.rem ?_ | refine EvR.quo ?_ | refine EvR.nc ?_ | refine EvR.ex ?_ | refine EvR.f1 ?_ | refine EvR.fadd ?_ | refine EvR.fsub ?_ | refine EvR.fmul ?_ | refine EvR.fquo ?_ | refine EvR.flt_ ?_ | refine EvR.fle_ ?_ | refine EvR.fgt_ ?_ | refine EvR.fge_ ?_ | refine EvR.feq_ ?_ | refine EvR.fne_ ?_ | refine EvR.cv ?_ | refine EvR.cvu ?_ | refine EvR.cvf ?_ | refine EvR.cvw ?_ | refine EvR.bx ?_ | refine EvR.aNotNT ?_ | refine EvR.aNotNF ?_ | refine EvR.aUN ?_ | refine EvR.nl ?_ | refine EvR.so ?_ | (apply EvR.aCall h1.at_; (· exact eva); (· apply h1.ok <;> exact sid); (rintro _ _ ⟨rfl, rfl⟩; refine EvR.nrm ?_; try simp only [hF])) | (apply EvR.aCall h2.at_; (· exact eva); (· apply h2.ok <;> exact sid); (rintro _ _ ⟨rfl, rfl⟩; refine EvR.nrm ?_; try simp only [hF])) | (apply Ev.regionQ drk; (· exact quie)) | (apply Ev.regionN0 drk; (· exact quie)) | (apply Ev.regionA drk (by assumption); (· exact quie)) | (apply Ev.regionNA drk (by assumption); (· exact quie)) | (apply Ev.regionS0 drk; (· exact quie)) | (refine EvR.aSplB ?_ ?_ <;> (intro hb; rw [hb]; (try simp only [Bool.not_eq_true', Bool.not_eq_false', Bool.not_eq_eq_eq_not, Bool.not_true, Bool.not_false, decide_eq_true_eq, decide_eq_false_iff_not, Bool.and_eq_true, Bool.and_eq_false_iff, Bool.or_eq_true, Bool.or_eq_false_iff] at hb); (try (exfalso; omega)))) | (refine Ev.aSplB ?_ ?_ <;> (intro hb; (try rw [hb]); (try simp only [Bool.not_eq_true', Bool.not_eq_false', Bool.not_eq_eq_eq_not, Bool.not_true, Bool.not_false, decide_eq_true_eq, decide_eq_false_iff_not, Bool.and_eq_true, Bool.and_eq_false_iff, Bool.or_eq_true, Bool.or_eq_false_iff] at hb); (try (exfalso; omega)))) | (apply EvR.aS0; (· exact evc)) | (apply EvR.aN0; (· exact evc)) | (apply endS trivial; rotate_left; (· exact eva); (· rfl); try refine ⟨?_, rfl⟩) | fail)
    all_goals simp
  obtain ⟨hs, t1, t2, t3⟩ := isField_len hF
  obtain ⟨a1, a2, a3, a4, q1, q2⟩ := isSheet_sides hs
  cases hS : inStrip h f n
  · rw [show putOk w h wr sp lo e x y f n pe px py = false from by simp [putOk, hS], flRes_f, flRows_f]
    refine ret_gc rfl rfl ?_
    repeat' (first | apply Ev.sq | apply Ev.rg | refine Ev.aKp ?_ | apply thenQ.n | apply thenQ.e | apply thenQ.r | apply blkQ.n | apply blkQ.e | refine blkQ.x ?_ rfl | apply blkQ.r | refine Ev.aT ?_ | refine Ev.aF ?_ | apply Ev.skip | apply Ev.exit | apply Ev.ret | apply Ev.bk | refine EvR.mv ?_ | refine EvR.fa ?_ | refine EvR.l1 ?_ | refine EvR.aNotSF ?_ | refine EvR.aNotST ?_ | refine EvR.aMetT ?_ | refine EvR.aMetF ?_ | refine EvR.aUS ?_ | refine EvR.mvc ?_ | refine EvR.lv ?_ | refine EvR.lp ?_ | refine EvR.lNp ?_ | refine EvR.pkT ?_ | refine EvR.pkF ?_ | refine EvR.lN ?_ | refine EvR.ix ?_ | refine EvR.le ?_ | refine EvR.ixo ?_ | refine EvR.l1o ?_ | refine EvR.lei ?_ | refine EvR.leb ?_ | refine EvR.lnr ?_ | refine EvR.lns ?_ | refine EvR.nt ?_ | refine EvR.lt ?_ | refine EvR.le_ ?_ | refine EvR.gt ?_ | refine EvR.ge ?_ | refine EvR.eqi ?_ | refine EvR.nei ?_ | refine EvR.add ?_ | refine EvR.sub ?_ | refine EvR.mul ?_ | refine EvR.rem ?_ | refine EvR.quo ?_ | refine EvR.nc ?_ | refine EvR.ex ?_ | refine EvR.f1 ?_ | refine EvR.fadd ?_ | refine EvR.fsub ?_ | refine EvR.fmul ?_ | refine EvR.fquo ?_ | refine EvR.flt_ ?_ | refine EvR.fle_ ?_ | refine EvR.fgt_ ?_ | refine EvR.fge_ ?_ | refine EvR.feq_ ?_ | refine EvR.fne_ ?_ | refine EvR.cv ?_ | refine EvR.cvu ?_ | refine EvR.cvf ?_ | refine EvR.cvw ?_ | refine EvR.bx ?_ | refine EvR.aNotNT ?_ | refine EvR.aNotNF ?_ | refine EvR.aUN ?_ | refine EvR.nl ?_ | refine EvR.so ?_ | (apply EvR.aCall h1.at_; (· exact eva); (· apply h1.ok <;> exact sid); (rintro _ _ ⟨rfl, rfl⟩; refine EvR.nrm ?_; try simp only [hF, hs, hS, Bool.true_and])) | (apply EvR.aCall h2.at_; (· exact eva); (· apply h2.ok <;> exact sid); (rintro _ _ ⟨rfl, rfl⟩; refine EvR.nrm ?_; try simp only [hF, hs, hS, Bool.true_and])) | (apply Ev.regionQ drk; (· exact quie)) | (apply Ev.regionN0 drk; (· exact quie)) | (apply Ev.regionA drk (by assumption); (· exact quie)) | (apply Ev.regionNA drk (by assumption); (· exact quie)) | (apply Ev.regionS0 drk; (· exact quie)) | (refine EvR.aSplB ?_ ?_ <;> (intro hb; rw [hb]; (try simp only [Bool.not_eq_true', Bool.not_eq_false', Bool.not_eq_eq_eq_not, Bool.not_true, Bool.not_false, decide_eq_true_eq, decide_eq_false_iff_not, Bool.and_eq_true, Bool.and_eq_false_iff, Bool.or_eq_true, Bool.or_eq_false_iff] at hb); (try (exfalso; omega)))) | (refine Ev.aSplB ?_ ?_ <;> (intro hb; (try rw [hb]); (try simp only [Bool.not_eq_true', Bool.not_eq_false', Bool.not_eq_eq_eq_not, Bool.not_true, Bool.not_false, decide_eq_true_eq, decide_eq_false_iff_not, Bool.and_eq_true, Bool.and_eq_false_iff, Bool.or_eq_true, Bool.or_eq_false_iff] at hb); (try (exfalso; omega)))) | (apply EvR.aS0; (· exact evc)) | (apply EvR.aN0; (· exact evc)) | (apply endS trivial; rotate_left; (· exact eva); (· rfl); try refine ⟨?_, rfl⟩) | fail)
    all_goals simp
  obtain ⟨b1, b2, b3, b4, b5, b6, b7, b8, b9⟩ := strip_bd a1 a2 a3 a4 hS
  by_cases hl : (pe.length : Int) = w * n ∧ (px.length : Int) = w * n ∧ (py.length : Int) = w * n
  · obtain ⟨z1, z2, z3⟩ := hl
    have g1 := putR_length (xs := e) (ys := pe) (at_ := (f * w).toNat) (by omega)
    have g2 := putR_length (xs := x) (ys := px) (at_ := (f * w).toNat) (by omega)
    have g3 := putR_length (xs := y) (ys := py) (at_ := (f * w).toNat) (by omega)
    cases hV : isField w h wr sp lo (putR e pe (f * w).toNat) (putR x px (f * w).toNat) (putR y py (f * w).toNat)
    · rw [show putOk w h wr sp lo e x y f n pe px py = false from by simp [putOk, hV], flRes_f, flRows_f]
      refine ret_gc rfl rfl ?_
      repeat' (first | apply Ev.sq | apply Ev.rg | refine Ev.aKp ?_ | apply thenQ.n | apply thenQ.e | apply thenQ.r | apply blkQ.n | apply blkQ.e | refine blkQ.x ?_ rfl | apply blkQ.r | refine Ev.aT ?_ | refine Ev.aF ?_ | apply Ev.skip | apply Ev.exit | apply Ev.ret | apply Ev.bk | refine EvR.mv ?_ | refine EvR.fa ?_ | refine EvR.l1 ?_ | refine EvR.aNotSF ?_ | refine EvR.aNotST ?_ | refine EvR.aMetT ?_ | refine EvR.aMetF ?_ | refine EvR.aUS ?_ | refine EvR.mvc ?_ | refine EvR.lv ?_ | refine EvR.lp ?_ | refine EvR.lNp ?_ | refine EvR.pkT ?_ | refine EvR.pkF ?_ | refine EvR.lN ?_ | refine EvR.ix ?_ | refine EvR.le ?_ | refine EvR.ixo ?_ | refine EvR.l1o ?_ | refine EvR.lei ?_ | refine EvR.leb ?_ | refine EvR.lnr ?_ | refine EvR.lns ?_ | refine EvR.nt ?_ | refine EvR.lt ?_ | refine EvR.le_ ?_ | refine EvR.gt ?_ | refine EvR.ge ?_ | refine EvR.eqi ?_ | refine EvR.nei ?_ | refine EvR.add ?_ | refine EvR.sub ?_ | refine EvR.mul ?_ | refine EvR.rem ?_ | refine EvR.quo ?_ | refine EvR.nc ?_ | refine EvR.ex ?_ | refine EvR.f1 ?_ | refine EvR.fadd ?_ | refine EvR.fsub ?_ | refine EvR.fmul ?_ | refine EvR.fquo ?_ | refine EvR.flt_ ?_ | refine EvR.fle_ ?_ | refine EvR.fgt_ ?_ | refine EvR.fge_ ?_ | refine EvR.feq_ ?_ | refine EvR.fne_ ?_ | refine EvR.cv ?_ | refine EvR.cvu ?_ | refine EvR.cvf ?_ | refine EvR.cvw ?_ | refine EvR.bx ?_ | refine EvR.aNotNT ?_ | refine EvR.aNotNF ?_ | refine EvR.aUN ?_ | refine EvR.nl ?_ | refine EvR.so ?_ | (apply EvR.aCall h1.at_; (· exact eva); (· apply h1.ok <;> exact sid); (rintro _ _ ⟨rfl, rfl⟩; refine EvR.nrm ?_; try simp only [hF, hs, hS, Bool.true_and])) | (apply EvR.aCall h2.at_; (· exact eva); (· apply h2.ok <;> exact sid); (rintro _ _ ⟨rfl, rfl⟩; refine EvR.nrm ?_; try simp only [hF, hs, hS, Bool.true_and])) | (apply EvR.aCall h3.at_; (· exact eva); (· apply h3.ok <;> exact sid); (rintro _ _ ⟨rfl, rfl⟩; refine EvR.nrm ?_; try simp only [hF, hs, hS, Bool.true_and])) | (apply Ev.regionQ drk; (· exact quie)) | (apply Ev.regionN0 drk; (· exact quie)) | (apply Ev.regionA drk (by assumption); (· exact quie)) | (apply Ev.regionNA drk (by assumption); (· exact quie)) | (apply Ev.regionS0 drk; (· exact quie)) | (refine EvR.aSplB ?_ ?_ <;> (intro hb; rw [hb]; (try simp only [Bool.not_eq_true', Bool.not_eq_false', Bool.not_eq_eq_eq_not, Bool.not_true, Bool.not_false, decide_eq_true_eq, decide_eq_false_iff_not, Bool.and_eq_true, Bool.and_eq_false_iff, Bool.or_eq_true, Bool.or_eq_false_iff] at hb); (try (exfalso; omega)))) | (refine Ev.aSplB ?_ ?_ <;> (intro hb; (try rw [hb]); (try simp only [Bool.not_eq_true', Bool.not_eq_false', Bool.not_eq_eq_eq_not, Bool.not_true, Bool.not_false, decide_eq_true_eq, decide_eq_false_iff_not, Bool.and_eq_true, Bool.and_eq_false_iff, Bool.or_eq_true, Bool.or_eq_false_iff] at hb); (try (exfalso; omega)))) | (apply EvR.aS0; (· exact evc)) | (apply EvR.aN0; (· exact evc)) | (apply endS trivial; rotate_left; (· exact eva); (· rfl); try refine ⟨?_, rfl⟩) | fail)
      (apply EvR.aCall h4.at_; (· exact eva); (· exact  h4.ok _ (σ.length + 8) w h wr sv lv f n ev' xv' yv' (σ.length + 5) (σ.length + 6) (σ.length + 7) e.length x.length y.length e x y pe px py true r1.ok r2.ok (by omega) (by omega) (by omega) rfl rfl rfl (by rw [hget]; rfl) (by rw [hget]; rfl) (by rw [hget]; rfl) (by rw [hget]; rfl) (by intro X Y Z; unfold PH; rw [set_app, set_app, set_app]; exact ⟨r6.ext _, r7.ext _, r8.ext _⟩) b4 b5 (by omega) (by omega) (by omega)); (rintro _ _ ⟨rfl, rfl⟩; refine EvR.nrm ?_))
      repeat' (first | apply Ev.sq | apply Ev.rg | refine Ev.aKp ?_ | apply thenQ.n | apply thenQ.e | apply thenQ.r | apply blkQ.n | apply blkQ.e | refine blkQ.x ?_ rfl | apply blkQ.r | refine Ev.aT ?_ | refine Ev.aF ?_ | apply Ev.skip | apply Ev.exit | apply Ev.ret | apply Ev.bk | refine EvR.mv ?_ | refine EvR.fa ?_ | refine EvR.l1 ?_ | refine EvR.aNotSF ?_ | refine EvR.aNotST ?_ | refine EvR.aMetT ?_ | refine EvR.aMetF ?_ | refine EvR.aUS ?_ | refine EvR.mvc ?_ | refine EvR.lv ?_ | refine EvR.lp ?_ | refine EvR.lNp ?_ | refine EvR.pkT ?_ | refine EvR.pkF ?_ | refine EvR.lN ?_ | refine EvR.ix ?_ | refine EvR.le ?_ | refine EvR.ixo ?_ | refine EvR.l1o ?_ | refine EvR.lei ?_ | refine EvR.leb ?_ | refine EvR.lnr ?_ | refine EvR.lns ?_ | refine EvR.nt ?_ | refine EvR.lt ?_ | refine EvR.le_ ?_ | refine EvR.gt ?_ | refine EvR.ge ?_ | refine EvR.eqi ?_ | refine EvR.nei ?_ | refine EvR.add ?_ | refine EvR.sub ?_ | refine EvR.mul ?_ | refine EvR.rem ?_ | refine EvR.quo ?_ | refine EvR.nc ?_ | refine EvR.ex ?_ | refine EvR.f1 ?_ | refine EvR.fadd ?_ | refine EvR.fsub ?_ | refine EvR.fmul ?_ | refine EvR.fquo ?_ | refine EvR.flt_ ?_ | refine EvR.fle_ ?_ | refine EvR.fgt_ ?_ | refine EvR.fge_ ?_ | refine EvR.feq_ ?_ | refine EvR.fne_ ?_ | refine EvR.cv ?_ | refine EvR.cvu ?_ | refine EvR.cvf ?_ | refine EvR.cvw ?_ | refine EvR.bx ?_ | refine EvR.aNotNT ?_ | refine EvR.aNotNF ?_ | refine EvR.aUN ?_ | refine EvR.nl ?_ | refine EvR.so ?_ | (apply Ev.regionQ drk; (· exact quie)) | (apply Ev.regionN0 drk; (· exact quie)) | (apply Ev.regionA drk (by assumption); (· exact quie)) | (apply Ev.regionNA drk (by assumption); (· exact quie)) | (apply Ev.regionS0 drk; (· exact quie)) | (refine EvR.aSplB ?_ ?_ <;> (intro hb; rw [hb]; (try simp only [Bool.not_eq_true', Bool.not_eq_false', Bool.not_eq_eq_eq_not, Bool.not_true, Bool.not_false, decide_eq_true_eq, decide_eq_false_iff_not, Bool.and_eq_true, Bool.and_eq_false_iff, Bool.or_eq_true, Bool.or_eq_false_iff] at hb); (try (exfalso; omega)))) | (refine Ev.aSplB ?_ ?_ <;> (intro hb; (try rw [hb]); (try simp only [Bool.not_eq_true', Bool.not_eq_false', Bool.not_eq_eq_eq_not, Bool.not_true, Bool.not_false, decide_eq_true_eq, decide_eq_false_iff_not, Bool.and_eq_true, Bool.and_eq_false_iff, Bool.or_eq_true, Bool.or_eq_false_iff] at hb); (try (exfalso; omega)))) | (apply EvR.aS0; (· exact evc)) | (apply EvR.aN0; (· exact evc)) | (apply endS trivial; rotate_left; (· exact eva); (· rfl); try refine ⟨?_, rfl⟩) | fail)
      (apply EvR.aCall h5.at_; (· exact eva); (· exact  h5.ok _ w h wr sv lv sp lo (σ.length + 5) (σ.length + 6) (σ.length + 7) (putR e pe (f * w).toNat) (putR x px (f * w).toNat) (putR y py (f * w).toNat) e.length x.length y.length g1 g2 g3 ⟨r1.ext _, r2.ext _⟩ hn1 hn2 (by rw [hget]; rfl) (by rw [hget]; rfl) (by rw [hget]; rfl) m1 m2 m3); (rintro _ _ ⟨rfl, rfl⟩; refine EvR.nrm ?_))
      rw [hV, if_neg (by simp)]
      repeat' (first | apply Ev.sq | apply Ev.rg | refine Ev.aKp ?_ | apply thenQ.n | apply thenQ.e | apply thenQ.r | apply blkQ.n | apply blkQ.e | refine blkQ.x ?_ rfl | apply blkQ.r | refine Ev.aT ?_ | refine Ev.aF ?_ | apply Ev.skip | apply Ev.exit | apply Ev.ret | apply Ev.bk | refine EvR.mv ?_ | refine EvR.fa ?_ | refine EvR.l1 ?_ | refine EvR.aNotSF ?_ | refine EvR.aNotST ?_ | refine EvR.aMetT ?_ | refine EvR.aMetF ?_ | refine EvR.aUS ?_ | refine EvR.mvc ?_ | refine EvR.lv ?_ | refine EvR.lp ?_ | refine EvR.lNp ?_ | refine EvR.pkT ?_ | refine EvR.pkF ?_ | refine EvR.lN ?_ | refine EvR.ix ?_ | refine EvR.le ?_ | refine EvR.ixo ?_ | refine EvR.l1o ?_ | refine EvR.lei ?_ | refine EvR.leb ?_ | refine EvR.lnr ?_ | refine EvR.lns ?_ | refine EvR.nt ?_ | refine EvR.lt ?_ | refine EvR.le_ ?_ | refine EvR.gt ?_ | refine EvR.ge ?_ | refine EvR.eqi ?_ | refine EvR.nei ?_ | refine EvR.add ?_ | refine EvR.sub ?_ | refine EvR.mul ?_ | refine EvR.rem ?_ | refine EvR.quo ?_ | refine EvR.nc ?_ | refine EvR.ex ?_ | refine EvR.f1 ?_ | refine EvR.fadd ?_ | refine EvR.fsub ?_ | refine EvR.fmul ?_ | refine EvR.fquo ?_ | refine EvR.flt_ ?_ | refine EvR.fle_ ?_ | refine EvR.fgt_ ?_ | refine EvR.fge_ ?_ | refine EvR.feq_ ?_ | refine EvR.fne_ ?_ | refine EvR.cv ?_ | refine EvR.cvu ?_ | refine EvR.cvf ?_ | refine EvR.cvw ?_ | refine EvR.bx ?_ | refine EvR.aNotNT ?_ | refine EvR.aNotNF ?_ | refine EvR.aUN ?_ | refine EvR.nl ?_ | refine EvR.so ?_ | (apply Ev.regionQ drk; (· exact quie)) | (apply Ev.regionN0 drk; (· exact quie)) | (apply Ev.regionA drk (by assumption); (· exact quie)) | (apply Ev.regionNA drk (by assumption); (· exact quie)) | (apply Ev.regionS0 drk; (· exact quie)) | (refine EvR.aSplB ?_ ?_ <;> (intro hb; rw [hb]; (try simp only [Bool.not_eq_true', Bool.not_eq_false', Bool.not_eq_eq_eq_not, Bool.not_true, Bool.not_false, decide_eq_true_eq, decide_eq_false_iff_not, Bool.and_eq_true, Bool.and_eq_false_iff, Bool.or_eq_true, Bool.or_eq_false_iff] at hb); (try (exfalso; omega)))) | (refine Ev.aSplB ?_ ?_ <;> (intro hb; (try rw [hb]); (try simp only [Bool.not_eq_true', Bool.not_eq_false', Bool.not_eq_eq_eq_not, Bool.not_true, Bool.not_false, decide_eq_true_eq, decide_eq_false_iff_not, Bool.and_eq_true, Bool.and_eq_false_iff, Bool.or_eq_true, Bool.or_eq_false_iff] at hb); (try (exfalso; omega)))) | (apply EvR.aS0; (· exact evc)) | (apply EvR.aN0; (· exact evc)) | (apply endS trivial; rotate_left; (· exact eva); (· rfl); try refine ⟨?_, rfl⟩) | fail)
      all_goals simp
    · rw [show putOk w h wr sp lo e x y f n pe px py = true from by simp [putOk, hF, hS, hV, z1, z2, z3], flRes_t, flRows_t]
      refine ret_gc rfl rfl ?_
      repeat' (first | apply Ev.sq | apply Ev.rg | refine Ev.aKp ?_ | apply thenQ.n | apply thenQ.e | apply thenQ.r | apply blkQ.n | apply blkQ.e | refine blkQ.x ?_ rfl | apply blkQ.r | refine Ev.aT ?_ | refine Ev.aF ?_ | apply Ev.skip | apply Ev.exit | apply Ev.ret | apply Ev.bk | refine EvR.mv ?_ | refine EvR.fa ?_ | refine EvR.l1 ?_ | refine EvR.aNotSF ?_ | refine EvR.aNotST ?_ | refine EvR.aMetT ?_ | refine EvR.aMetF ?_ | refine EvR.aUS ?_ | refine EvR.mvc ?_ | refine EvR.lv ?_ | refine EvR.lp ?_ | refine EvR.lNp ?_ | refine EvR.pkT ?_ | refine EvR.pkF ?_ | refine EvR.lN ?_ | refine EvR.ix ?_ | refine EvR.le ?_ | refine EvR.ixo ?_ | refine EvR.l1o ?_ | refine EvR.lei ?_ | refine EvR.leb ?_ | refine EvR.lnr ?_ | refine EvR.lns ?_ | refine EvR.nt ?_ | refine EvR.lt ?_ | refine EvR.le_ ?_ | refine EvR.gt ?_ | refine EvR.ge ?_ | refine EvR.eqi ?_ | refine EvR.nei ?_ | refine EvR.add ?_ | refine EvR.sub ?_ | refine EvR.mul ?_ | refine EvR.rem ?_ | refine EvR.quo ?_ | refine EvR.nc ?_ | refine EvR.ex ?_ | refine EvR.f1 ?_ | refine EvR.fadd ?_ | refine EvR.fsub ?_ | refine EvR.fmul ?_ | refine EvR.fquo ?_ | refine EvR.flt_ ?_ | refine EvR.fle_ ?_ | refine EvR.fgt_ ?_ | refine EvR.fge_ ?_ | refine EvR.feq_ ?_ | refine EvR.fne_ ?_ | refine EvR.cv ?_ | refine EvR.cvu ?_ | refine EvR.cvf ?_ | refine EvR.cvw ?_ | refine EvR.bx ?_ | refine EvR.aNotNT ?_ | refine EvR.aNotNF ?_ | refine EvR.aUN ?_ | refine EvR.nl ?_ | refine EvR.so ?_ | (apply EvR.aCall h1.at_; (· exact eva); (· apply h1.ok <;> exact sid); (rintro _ _ ⟨rfl, rfl⟩; refine EvR.nrm ?_; try simp only [hF, hs, hS, Bool.true_and])) | (apply EvR.aCall h2.at_; (· exact eva); (· apply h2.ok <;> exact sid); (rintro _ _ ⟨rfl, rfl⟩; refine EvR.nrm ?_; try simp only [hF, hs, hS, Bool.true_and])) | (apply EvR.aCall h3.at_; (· exact eva); (· apply h3.ok <;> exact sid); (rintro _ _ ⟨rfl, rfl⟩; refine EvR.nrm ?_; try simp only [hF, hs, hS, Bool.true_and])) | (apply Ev.regionQ drk; (· exact quie)) | (apply Ev.regionN0 drk; (· exact quie)) | (apply Ev.regionA drk (by assumption); (· exact quie)) | (apply Ev.regionNA drk (by assumption); (· exact quie)) | (apply Ev.regionS0 drk; (· exact quie)) | (refine EvR.aSplB ?_ ?_ <;> (intro hb; rw [hb]; (try simp only [Bool.not_eq_true', Bool.not_eq_false', Bool.not_eq_eq_eq_not, Bool.not_true, Bool.not_false, decide_eq_true_eq, decide_eq_false_iff_not, Bool.and_eq_true, Bool.and_eq_false_iff, Bool.or_eq_true, Bool.or_eq_false_iff] at hb); (try (exfalso; omega)))) | (refine Ev.aSplB ?_ ?_ <;> (intro hb; (try rw [hb]); (try simp only [Bool.not_eq_true', Bool.not_eq_false', Bool.not_eq_eq_eq_not, Bool.not_true, Bool.not_false, decide_eq_true_eq, decide_eq_false_iff_not, Bool.and_eq_true, Bool.and_eq_false_iff, Bool.or_eq_true, Bool.or_eq_false_iff] at hb); (try (exfalso; omega)))) | (apply EvR.aS0; (· exact evc)) | (apply EvR.aN0; (· exact evc)) | (apply endS trivial; rotate_left; (· exact eva); (· rfl); try refine ⟨?_, rfl⟩) | fail)
      (apply EvR.aCall h4.at_; (· exact eva); (· exact  h4.ok _ (σ.length + 8) w h wr sv lv f n ev' xv' yv' (σ.length + 5) (σ.length + 6) (σ.length + 7) e.length x.length y.length e x y pe px py true r1.ok r2.ok (by omega) (by omega) (by omega) rfl rfl rfl (by rw [hget]; rfl) (by rw [hget]; rfl) (by rw [hget]; rfl) (by rw [hget]; rfl) (by intro X Y Z; unfold PH; rw [set_app, set_app, set_app]; exact ⟨r6.ext _, r7.ext _, r8.ext _⟩) b4 b5 (by omega) (by omega) (by omega)); (rintro _ _ ⟨rfl, rfl⟩; refine EvR.nrm ?_))
      repeat' (first | apply Ev.sq | apply Ev.rg | refine Ev.aKp ?_ | apply thenQ.n | apply thenQ.e | apply thenQ.r | apply blkQ.n | apply blkQ.e | refine blkQ.x ?_ rfl | apply blkQ.r | refine Ev.aT ?_ | refine Ev.aF ?_ | apply Ev.skip | apply Ev.exit | apply Ev.ret | apply Ev.bk | refine EvR.mv ?_ | refine EvR.fa ?_ | refine EvR.l1 ?_ | refine EvR.aNotSF ?_ | refine EvR.aNotST ?_ | refine EvR.aMetT ?_ | refine EvR.aMetF ?_ | refine EvR.aUS ?_ | refine EvR.mvc ?_ | refine EvR.lv ?_ | refine EvR.lp ?_ | refine EvR.lNp ?_ | refine EvR.pkT ?_ | refine EvR.pkF ?_ | refine EvR.lN ?_ | refine EvR.ix ?_ | refine EvR.le ?_ | refine EvR.ixo ?_ | refine EvR.l1o ?_ | refine EvR.lei ?_ | refine EvR.leb ?_ | refine EvR.lnr ?_ | refine EvR.lns ?_ | refine EvR.nt ?_ | refine EvR.lt ?_ | refine EvR.le_ ?_ | refine EvR.gt ?_ | refine EvR.ge ?_ | refine EvR.eqi ?_ | refine EvR.nei ?_ | refine EvR.add ?_ | refine EvR.sub ?_ | refine EvR.mul ?_ | refine EvR.rem ?_ | refine EvR.quo ?_ | refine EvR.nc ?_ | refine EvR.ex ?_ | refine EvR.f1 ?_ | refine EvR.fadd ?_ | refine EvR.fsub ?_ | refine EvR.fmul ?_ | refine EvR.fquo ?_ | refine EvR.flt_ ?_ | refine EvR.fle_ ?_ | refine EvR.fgt_ ?_ | refine EvR.fge_ ?_ | refine EvR.feq_ ?_ | refine EvR.fne_ ?_ | refine EvR.cv ?_ | refine EvR.cvu ?_ | refine EvR.cvf ?_ | refine EvR.cvw ?_ | refine EvR.bx ?_ | refine EvR.aNotNT ?_ | refine EvR.aNotNF ?_ | refine EvR.aUN ?_ | refine EvR.nl ?_ | refine EvR.so ?_ | (apply Ev.regionQ drk; (· exact quie)) | (apply Ev.regionN0 drk; (· exact quie)) | (apply Ev.regionA drk (by assumption); (· exact quie)) | (apply Ev.regionNA drk (by assumption); (· exact quie)) | (apply Ev.regionS0 drk; (· exact quie)) | (refine EvR.aSplB ?_ ?_ <;> (intro hb; rw [hb]; (try simp only [Bool.not_eq_true', Bool.not_eq_false', Bool.not_eq_eq_eq_not, Bool.not_true, Bool.not_false, decide_eq_true_eq, decide_eq_false_iff_not, Bool.and_eq_true, Bool.and_eq_false_iff, Bool.or_eq_true, Bool.or_eq_false_iff] at hb); (try (exfalso; omega)))) | (refine Ev.aSplB ?_ ?_ <;> (intro hb; (try rw [hb]); (try simp only [Bool.not_eq_true', Bool.not_eq_false', Bool.not_eq_eq_eq_not, Bool.not_true, Bool.not_false, decide_eq_true_eq, decide_eq_false_iff_not, Bool.and_eq_true, Bool.and_eq_false_iff, Bool.or_eq_true, Bool.or_eq_false_iff] at hb); (try (exfalso; omega)))) | (apply EvR.aS0; (· exact evc)) | (apply EvR.aN0; (· exact evc)) | (apply endS trivial; rotate_left; (· exact eva); (· rfl); try refine ⟨?_, rfl⟩) | fail)
      (apply EvR.aCall h5.at_; (· exact eva); (· exact  h5.ok _ w h wr sv lv sp lo (σ.length + 5) (σ.length + 6) (σ.length + 7) (putR e pe (f * w).toNat) (putR x px (f * w).toNat) (putR y py (f * w).toNat) e.length x.length y.length g1 g2 g3 ⟨r1.ext _, r2.ext _⟩ hn1 hn2 (by rw [hget]; rfl) (by rw [hget]; rfl) (by rw [hget]; rfl) m1 m2 m3); (rintro _ _ ⟨rfl, rfl⟩; refine EvR.nrm ?_))
      rw [hV, if_pos rfl]
      repeat' (first | apply Ev.sq | apply Ev.rg | refine Ev.aKp ?_ | apply thenQ.n | apply thenQ.e | apply thenQ.r | apply blkQ.n | apply blkQ.e | refine blkQ.x ?_ rfl | apply blkQ.r | refine Ev.aT ?_ | refine Ev.aF ?_ | apply Ev.skip | apply Ev.exit | apply Ev.ret | apply Ev.bk | refine EvR.mv ?_ | refine EvR.fa ?_ | refine EvR.l1 ?_ | refine EvR.aNotSF ?_ | refine EvR.aNotST ?_ | refine EvR.aMetT ?_ | refine EvR.aMetF ?_ | refine EvR.aUS ?_ | refine EvR.mvc ?_ | refine EvR.lv ?_ | refine EvR.lp ?_ | refine EvR.lNp ?_ | refine EvR.pkT ?_ | refine EvR.pkF ?_ | refine EvR.lN ?_ | refine EvR.ix ?_ | refine EvR.le ?_ | refine EvR.ixo ?_ | refine EvR.l1o ?_ | refine EvR.lei ?_ | refine EvR.leb ?_ | refine EvR.lnr ?_ | refine EvR.lns ?_ | refine EvR.nt ?_ | refine EvR.lt ?_ | refine EvR.le_ ?_ | refine EvR.gt ?_ | refine EvR.ge ?_ | refine EvR.eqi ?_ | refine EvR.nei ?_ | refine EvR.add ?_ | refine EvR.sub ?_ | refine EvR.mul ?_ | refine EvR.rem ?_ | refine EvR.quo ?_ | refine EvR.nc ?_ | refine EvR.ex ?_ | refine EvR.f1 ?_ | refine EvR.fadd ?_ | refine EvR.fsub ?_ | refine EvR.fmul ?_ | refine EvR.fquo ?_ | refine EvR.flt_ ?_ | refine EvR.fle_ ?_ | refine EvR.fgt_ ?_ | refine EvR.fge_ ?_ | refine EvR.feq_ ?_ | refine EvR.fne_ ?_ | refine EvR.cv ?_ | refine EvR.cvu ?_ | refine EvR.cvf ?_ | refine EvR.cvw ?_ | refine EvR.bx ?_ | refine EvR.aNotNT ?_ | refine EvR.aNotNF ?_ | refine EvR.aUN ?_ | refine EvR.nl ?_ | refine EvR.so ?_ | (apply Ev.regionQ drk; (· exact quie)) | (apply Ev.regionN0 drk; (· exact quie)) | (apply Ev.regionA drk (by assumption); (· exact quie)) | (apply Ev.regionNA drk (by assumption); (· exact quie)) | (apply Ev.regionS0 drk; (· exact quie)) | (refine EvR.aSplB ?_ ?_ <;> (intro hb; rw [hb]; (try simp only [Bool.not_eq_true', Bool.not_eq_false', Bool.not_eq_eq_eq_not, Bool.not_true, Bool.not_false, decide_eq_true_eq, decide_eq_false_iff_not, Bool.and_eq_true, Bool.and_eq_false_iff, Bool.or_eq_true, Bool.or_eq_false_iff] at hb); (try (exfalso; omega)))) | (refine Ev.aSplB ?_ ?_ <;> (intro hb; (try rw [hb]); (try simp only [Bool.not_eq_true', Bool.not_eq_false', Bool.not_eq_eq_eq_not, Bool.not_true, Bool.not_false, decide_eq_true_eq, decide_eq_false_iff_not, Bool.and_eq_true, Bool.and_eq_false_iff, Bool.or_eq_true, Bool.or_eq_false_iff] at hb); (try (exfalso; omega)))) | (apply EvR.aS0; (· exact evc)) | (apply EvR.aN0; (· exact evc)) | (apply endS trivial; rotate_left; (· exact eva); (· rfl); try refine ⟨?_, rfl⟩) | fail)
      rw [g1, g2, g3]
      (apply endR [5, 6, 7] trivial ⟨rfl, rfl⟩; (· exact eva); (· simp [gcTop, gcVal, gcLeaf, gcLeaves, gcVals, constOk, gc_lt, gc_lt0]); (· rfl); (· decide); (· simp [allConst, f32s, i64s, b8s, bools, constOk]))
  · rw [show putOk w h wr sp lo e x y f n pe px py = false from by simp only [putOk, decide_eq_false hl, Bool.false_and, Bool.and_false], flRes_f, flRows_f]
    refine ret_gc rfl rfl ?_
    repeat' (first | apply Ev.sq | apply Ev.rg | refine Ev.aKp ?_ | apply thenQ.n | apply thenQ.e | apply thenQ.r | apply blkQ.n | apply blkQ.e | refine blkQ.x ?_ rfl | apply blkQ.r | refine Ev.aT ?_ | refine Ev.aF ?_ | apply Ev.skip | apply Ev.exit | apply Ev.ret | apply Ev.bk | refine EvR.mv ?_ | refine EvR.fa ?_ | refine EvR.l1 ?_ | refine EvR.aNotSF ?_ | refine EvR.aNotST ?_ | refine EvR.aMetT ?_ | refine EvR.aMetF ?_ | refine EvR.aUS ?_ | refine EvR.mvc ?_ | refine EvR.lv ?_ | refine EvR.lp ?_ | refine EvR.lNp ?_ | refine EvR.pkT ?_ | refine EvR.pkF ?_ | refine EvR.lN ?_ | refine EvR.ix ?_ | refine EvR.le ?_ | refine EvR.ixo ?_ | refine EvR.l1o ?_ | refine EvR.lei ?_ | refine EvR.leb ?_ | refine EvR.lnr ?_ | refine EvR.lns ?_ | refine EvR.nt ?_ | refine EvR.lt ?_ | refine EvR.le_ ?_ | refine EvR.gt ?_ | refine EvR.ge ?_ | refine EvR.eqi ?_ | refine EvR.nei ?_ | refine EvR.add ?_ | refine EvR.sub ?_ | refine EvR.mul ?_ | refine EvR.rem ?_ | refine EvR.quo ?_ | refine EvR.nc ?_ | refine EvR.ex ?_ | refine EvR.f1 ?_ | refine EvR.fadd ?_ | refine EvR.fsub ?_ | refine EvR.fmul ?_ | refine EvR.fquo ?_ | refine EvR.flt_ ?_ | refine EvR.fle_ ?_ | refine EvR.fgt_ ?_ | refine EvR.fge_ ?_ | refine EvR.feq_ ?_ | refine EvR.fne_ ?_ | refine EvR.cv ?_ | refine EvR.cvu ?_ | refine EvR.cvf ?_ | refine EvR.cvw ?_ | refine EvR.bx ?_ | refine EvR.aNotNT ?_ | refine EvR.aNotNF ?_ | refine EvR.aUN ?_ | refine EvR.nl ?_ | refine EvR.so ?_ | (apply EvR.aCall h1.at_; (· exact eva); (· apply h1.ok <;> exact sid); (rintro _ _ ⟨rfl, rfl⟩; refine EvR.nrm ?_; try simp only [hF, hs, hS, Bool.true_and])) | (apply EvR.aCall h2.at_; (· exact eva); (· apply h2.ok <;> exact sid); (rintro _ _ ⟨rfl, rfl⟩; refine EvR.nrm ?_; try simp only [hF, hs, hS, Bool.true_and])) | (apply Ev.regionQ drk; (· exact quie)) | (apply Ev.regionN0 drk; (· exact quie)) | (apply Ev.regionA drk (by assumption); (· exact quie)) | (apply Ev.regionNA drk (by assumption); (· exact quie)) | (apply Ev.regionS0 drk; (· exact quie)) | (refine EvR.aSplB ?_ ?_ <;> (intro hb; rw [hb]; (try simp only [Bool.not_eq_true', Bool.not_eq_false', Bool.not_eq_eq_eq_not, Bool.not_true, Bool.not_false, decide_eq_true_eq, decide_eq_false_iff_not, Bool.and_eq_true, Bool.and_eq_false_iff, Bool.or_eq_true, Bool.or_eq_false_iff] at hb); (try (exfalso; omega)))) | (refine Ev.aSplB ?_ ?_ <;> (intro hb; (try rw [hb]); (try simp only [Bool.not_eq_true', Bool.not_eq_false', Bool.not_eq_eq_eq_not, Bool.not_true, Bool.not_false, decide_eq_true_eq, decide_eq_false_iff_not, Bool.and_eq_true, Bool.and_eq_false_iff, Bool.or_eq_true, Bool.or_eq_false_iff] at hb); (try (exfalso; omega)))) | (apply EvR.aS0; (· exact evc)) | (apply EvR.aN0; (· exact evc)) | (apply endS trivial; rotate_left; (· exact eva); (· rfl); try refine ⟨?_, rfl⟩) | fail)
    all_goals simp
end Go.Abs

