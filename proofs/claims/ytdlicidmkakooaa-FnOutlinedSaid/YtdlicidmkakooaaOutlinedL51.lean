/- Laws of functions: half steps and steps by the program. Conditions: the laws of what they call. -/
import Derived.Test.YtdlicidmkakooaaOutlinedL50
import Derived.Test.YtdlicidmkakooaaOutlinedWvH3
namespace Go.Abs

set_option linter.unusedSimpArgs false
set_option linter.unusedVariables false
set_option maxHeartbeats 8000000
set_option maxRecDepth 20000
/- loop.example/g01201/impl.halfStep -/
def impl_halfStep_r0 : List SOper := [
 ⟨some 2, none, .box (.tmp 0), 0⟩]
def impl_halfStep_r1 : List SOper := [
 ⟨some 7, none, .fieldAddr 1 (.tmp 2), 0⟩,
 ⟨some 8, none, .load1 (.tmp 7), 1⟩,
 ⟨some 9, none, .mov (.const (.int .i64 0)), 0⟩]
def impl_halfStep_r2 : List SOper := [
 ⟨some 10, none, .bin .lss .other (.tmp 9) (.tmp 8), 0⟩]
def impl_halfStep_r3 : List SOper := [
 ⟨some 11, none, .mov (.tmp 9), 0⟩,
 ⟨some 4, none, .mov (.tmp 11), 1⟩]
def impl_halfStep_r4 : List SOper := [
 ⟨some 12, none, .fieldAddr 0 (.tmp 2), 0⟩,
 ⟨some 13, none, .load1 (.tmp 12), 1⟩,
 ⟨some 14, none, .mov (.const (.int .i64 0)), 0⟩]
def impl_halfStep_r5 : List SOper := [
 ⟨some 15, none, .bin .lss .other (.tmp 14) (.tmp 13), 0⟩]
def impl_halfStep_r6 : List SOper := [
 ⟨some 16, none, .mov (.tmp 14), 0⟩,
 ⟨some 5, none, .mov (.tmp 16), 1⟩]
def impl_halfStep_r7 (i_impl_Sheet_at : FuncId) : List SOper := [
 ⟨some 17, none, .loadN 5 (.tmp 2), 0⟩,
 ⟨some 18, none, .mov (.tmp 5), 0⟩,
 ⟨some 19, none, .mov (.tmp 4), 0⟩,
 ⟨some 20, none, .call (.func i_impl_Sheet_at) [(.tmp 17), (.tmp 18), (.tmp 19)], 7⟩,
 ⟨some 6, none, .mov (.tmp 20), 15⟩]
def impl_halfStep_r8 : List SOper := [
 ⟨some 21, none, .fieldAddr 2 (.tmp 2), 0⟩,
 ⟨some 22, none, .load1 (.tmp 21), 1⟩,
 ⟨some 23, none, .mov (.tmp 22), 3⟩,
  ⟨(some 24), (some (23, false)), .mov (.tmp 4), 7⟩,
  ⟨(some 25), (some (23, false)), .fieldAddr 1 (.tmp 2), 7⟩,
  ⟨(some 26), (some (23, false)), .load1 (.tmp 25), 23⟩,
  ⟨(some 27), (some (23, false)), .bin .sub .other (.tmp 26) (.const (.int .i64 1)), 55⟩,
  ⟨(some 28), (some (23, false)), .bin .lss .other (.tmp 24) (.tmp 27), 127⟩,
 ⟨some 29, none, .pick (.tmp 23) (.const (.bool true)) (.tmp 28), 255⟩]
def impl_halfStep_r9 (i_impl_Sheet_at : FuncId) : List SOper := [
 ⟨some 30, none, .mov (.tmp 1), 0⟩,
 ⟨some 31, none, .nilCheck (.tmp 30), 1⟩,
 ⟨some 32, none, .fieldAddr 1 (.tmp 31), 3⟩,
 ⟨some 33, none, .load1 (.tmp 32), 7⟩,
 ⟨some 34, none, .mov (.tmp 6), 0⟩,
 ⟨some 35, none, .mov (.tmp 1), 0⟩,
 ⟨some 36, none, .nilCheck (.tmp 35), 32⟩,
 ⟨some 37, none, .fieldAddr 1 (.tmp 36), 96⟩,
 ⟨some 38, none, .load1 (.tmp 37), 224⟩,
 ⟨some 39, none, .mov (.tmp 6), 0⟩,
 ⟨some 40, none, .indexAddrS 1 (.tmp 38) (.tmp 39), 992⟩,
 ⟨some 41, none, .load1 (.tmp 40), 2016⟩,
 ⟨some 42, none, .mov (.tmp 1), 0⟩,
 ⟨some 43, none, .nilCheck (.tmp 42), 4096⟩,
 ⟨some 44, none, .fieldAddr 0 (.tmp 43), 12288⟩,
 ⟨some 45, none, .load1 (.tmp 44), 28672⟩,
 ⟨some 46, none, .loadN 5 (.tmp 2), 0⟩,
 ⟨some 47, none, .mov (.tmp 5), 0⟩,
 ⟨some 48, none, .mov (.tmp 4), 0⟩,
 ⟨some 49, none, .bin .add .other (.tmp 48) (.const (.int .i64 1)), 262144⟩,
 ⟨some 50, none, .call (.func i_impl_Sheet_at) [(.tmp 46), (.tmp 47), (.tmp 49)], 983040⟩,
 ⟨some 51, none, .indexAddrS 1 (.tmp 45) (.tmp 50), 2093056⟩,
 ⟨some 52, none, .load1 (.tmp 51), 4190208⟩,
 ⟨some 53, none, .mov (.tmp 1), 0⟩,
 ⟨some 54, none, .nilCheck (.tmp 53), 8388608⟩,
 ⟨some 55, none, .fieldAddr 0 (.tmp 54), 25165824⟩,
 ⟨some 56, none, .load1 (.tmp 55), 58720256⟩,
 ⟨some 57, none, .mov (.tmp 6), 0⟩,
 ⟨some 58, none, .indexAddrS 1 (.tmp 56) (.tmp 57), 260046848⟩,
 ⟨some 59, none, .load1 (.tmp 58), 528482304⟩,
 ⟨some 60, none, .bin .sub .other (.tmp 52) (.tmp 59), 1073737728⟩,
 ⟨some 61, none, .bin .mul .other (.const (.float .f32 1056964608)) (.tmp 60), 2147479552⟩,
 ⟨some 62, none, .bin .sub .other (.tmp 41) (.tmp 61), 4294967264⟩,
 ⟨some 63, none, .indexAddrS 1 (.tmp 33) (.tmp 34), 8589934591⟩,
 ⟨none, none, .store 1 (.tmp 63) (.tmp 62), 17179869183⟩]
def impl_halfStep_r10 : List SOper := [
 ⟨some 64, none, .fieldAddr 2 (.tmp 2), 0⟩,
 ⟨some 65, none, .load1 (.tmp 64), 1⟩,
 ⟨some 66, none, .mov (.tmp 65), 3⟩,
  ⟨(some 67), (some (66, false)), .mov (.tmp 5), 7⟩,
  ⟨(some 68), (some (66, false)), .fieldAddr 0 (.tmp 2), 7⟩,
  ⟨(some 69), (some (66, false)), .load1 (.tmp 68), 23⟩,
  ⟨(some 70), (some (66, false)), .bin .sub .other (.tmp 69) (.const (.int .i64 1)), 55⟩,
  ⟨(some 71), (some (66, false)), .bin .lss .other (.tmp 67) (.tmp 70), 127⟩,
 ⟨some 72, none, .pick (.tmp 66) (.const (.bool true)) (.tmp 71), 255⟩]
def impl_halfStep_r11 (i_impl_Sheet_at : FuncId) : List SOper := [
 ⟨some 73, none, .mov (.tmp 1), 0⟩,
 ⟨some 74, none, .nilCheck (.tmp 73), 1⟩,
 ⟨some 75, none, .fieldAddr 2 (.tmp 74), 3⟩,
 ⟨some 76, none, .load1 (.tmp 75), 7⟩,
 ⟨some 77, none, .mov (.tmp 6), 0⟩,
 ⟨some 78, none, .mov (.tmp 1), 0⟩,
 ⟨some 79, none, .nilCheck (.tmp 78), 32⟩,
 ⟨some 80, none, .fieldAddr 2 (.tmp 79), 96⟩,
 ⟨some 81, none, .load1 (.tmp 80), 224⟩,
 ⟨some 82, none, .mov (.tmp 6), 0⟩,
 ⟨some 83, none, .indexAddrS 1 (.tmp 81) (.tmp 82), 992⟩,
 ⟨some 84, none, .load1 (.tmp 83), 2016⟩,
 ⟨some 85, none, .mov (.tmp 1), 0⟩,
 ⟨some 86, none, .nilCheck (.tmp 85), 4096⟩,
 ⟨some 87, none, .fieldAddr 0 (.tmp 86), 12288⟩,
 ⟨some 88, none, .load1 (.tmp 87), 28672⟩,
 ⟨some 89, none, .loadN 5 (.tmp 2), 0⟩,
 ⟨some 90, none, .mov (.tmp 5), 0⟩,
 ⟨some 91, none, .bin .add .other (.tmp 90) (.const (.int .i64 1)), 131072⟩,
 ⟨some 92, none, .mov (.tmp 4), 0⟩,
 ⟨some 93, none, .call (.func i_impl_Sheet_at) [(.tmp 89), (.tmp 91), (.tmp 92)], 983040⟩,
 ⟨some 94, none, .indexAddrS 1 (.tmp 88) (.tmp 93), 2093056⟩,
 ⟨some 95, none, .load1 (.tmp 94), 4190208⟩,
 ⟨some 96, none, .mov (.tmp 1), 0⟩,
 ⟨some 97, none, .nilCheck (.tmp 96), 8388608⟩,
 ⟨some 98, none, .fieldAddr 0 (.tmp 97), 25165824⟩,
 ⟨some 99, none, .load1 (.tmp 98), 58720256⟩,
 ⟨some 100, none, .mov (.tmp 6), 0⟩,
 ⟨some 101, none, .indexAddrS 1 (.tmp 99) (.tmp 100), 260046848⟩,
 ⟨some 102, none, .load1 (.tmp 101), 528482304⟩,
 ⟨some 103, none, .bin .sub .other (.tmp 95) (.tmp 102), 1073737728⟩,
 ⟨some 104, none, .bin .mul .other (.const (.float .f32 1056964608)) (.tmp 103), 2147479552⟩,
 ⟨some 105, none, .bin .add .other (.tmp 84) (.tmp 104), 4294967264⟩,
 ⟨some 106, none, .indexAddrS 1 (.tmp 76) (.tmp 77), 8589934591⟩,
 ⟨none, none, .store 1 (.tmp 106) (.tmp 105), 17179869183⟩]
def impl_halfStep_r12 : List SOper := [
 ⟨some 107, none, .bin .add .other (.tmp 14) (.const (.int .i64 1)), 0⟩,
 ⟨some 14, none, .mov (.tmp 107), 1⟩]
def impl_halfStep_l13 (i_impl_Sheet_at : FuncId) : SCode := (.kp [1,2,4,8,9,13,14] (.seq (.region impl_halfStep_r5 false) (.kp [1,2,4,8,9,13,14,15] (.seq (.cond (.tmp 15) .skip (.exit 2)) (.kp [1,2,4,8,9,13,14] (.seq (.block 3 (.seq (.region impl_halfStep_r6 false) (.kp [1,2,4,5,8,9,13,14] (.seq (.region (impl_halfStep_r7 i_impl_Sheet_at) false) (.kp [1,2,4,5,6,8,9,13,14] (.seq (.seq (.region impl_halfStep_r8 false) (.kp [1,2,4,5,6,8,9,13,14,29] (.cond (.tmp 29) (.region (impl_halfStep_r9 i_impl_Sheet_at) true) .skip))) (.kp [1,2,4,5,6,8,9,13,14] (.seq (.region impl_halfStep_r10 false) (.kp [1,2,4,5,6,8,9,13,14,72] (.cond (.tmp 72) (.region (impl_halfStep_r11 i_impl_Sheet_at) true) .skip)))))))))) (.kp [1,2,4,8,9,13,14] (.region impl_halfStep_r12 false))))))))
def impl_halfStep_r14 : List SOper := [
 ⟨some 108, none, .bin .add .other (.tmp 9) (.const (.int .i64 1)), 0⟩,
 ⟨some 9, none, .mov (.tmp 108), 1⟩]
def impl_halfStep_l15 (i_impl_Sheet_at : FuncId) : SCode := (.kp [1,2,8,9] (.seq (.region impl_halfStep_r2 false) (.kp [1,2,8,9,10] (.seq (.cond (.tmp 10) .skip (.exit 0)) (.kp [1,2,8,9] (.seq (.block 1 (.seq (.region impl_halfStep_r3 false) (.kp [1,2,4,8,9] (.seq (.region impl_halfStep_r4 false) (.kp [1,2,4,8,9,13,14] (.block 2 (.loop (impl_halfStep_l13 i_impl_Sheet_at)))))))) (.kp [1,2,8,9] (.region impl_halfStep_r14 false))))))))
def impl_halfStep (i_impl_Sheet_at : FuncId) : SFunc := ⟨109, [], (.kp [0,1] (.seq (.region impl_halfStep_r0 false) (.kp [1,2] (.seq (.region impl_halfStep_r1 false) (.kp [1,2,8,9] (.block 0 (.loop (impl_halfStep_l15 i_impl_Sheet_at))))))))⟩
theorem impl_halfStep_r9_dr {i_impl_Sheet_at : FuncId} : drawOkW wStat (impl_halfStep_r9 i_impl_Sheet_at) = true := by kernel_rfl
attribute [push_cast] impl_halfStep_r9_dr
theorem impl_halfStep_r11_dr {i_impl_Sheet_at : FuncId} : drawOkW wStat (impl_halfStep_r11 i_impl_Sheet_at) = true := by kernel_rfl
attribute [push_cast] impl_halfStep_r11_dr
theorem elemP_sl (b m c q : Nat) : elemP 1 (.slice (some ⟨b, 0, none⟩) m c) q = .pointer (some ⟨b, q * 1, some (c * 1)⟩) := by
  unfold elemP; simp
section
variable {C : Ctab} {F : Frame} {τ l : Heap}
/-- A number is stored in a row of an old object. -/
theorem EvR.stoE {Q} {n b q m c v : Nat} {rest : List SOper} {x y : Operand} {xs : List Nat} (h2 : τ[b]? = some (rowO xs)) (hl : xs.length = c) (hq : q < c) (h1 : eval F x = elemP 1 (.slice (some ⟨b, 0, none⟩) m c) q) (h3 : eval F y = .float .f32 v)
    (h : EvR C rest F (τ.set b (rowO (xs.set q v)) ++ l) Q) : EvR C (⟨none, none, .store 1 x y, n⟩ :: rest) F (τ ++ l) Q := by
  have hlt := (List.getElem?_eq_some_iff.1 h2).1
  have e : (τ ++ l)[b]? = some (rowO xs) := by rw [List.getElem?_append_left hlt]; exact h2
  rw [elemP_sl, Nat.mul_one, Nat.mul_one] at h1
  refine EvR.opN (v := undef) (σ' := τ.set b (rowO (xs.set q v)) ++ l) ?_ h
  have := store1_obj e (by rw [f32s_length]; exact hl) (by omega) hq (v := .float .f32 v) rfl
  simp only [evOp, h1, h3, this, Option.map_some, f32s_set]
  rw [List.set_append_left _ _ hlt]
end

/-- Three rows of one length and a variable that tells of them. -/
structure HB (σ : Heap) (a b d p N : Nat) : Prop where
  ab : a ≠ b
  ad : a ≠ d
  bd : b ≠ d
  a0 : ∃ s, σ[a]? = some (rowO s)
  b0 : ∃ s, σ[b]? = some (rowO s)
  d0 : ∃ s, σ[d]? = some (rowO s)
  p0 : ∃ r, σ[p]? = some ⟨[slV a N, slV b N, slV d N], 0, r⟩
/-- What is to be known of such a heap. -/
structure HS (τ : Heap) (a b d p N : Nat) (e x y : List Nat) : Prop where
  pt : PtAt τ p 0 [slV a N, slV b N, slV d N]
  a_ : τ[a]? = some (rowO e)
  b_ : τ[b]? = some (rowO x)
  d_ : τ[d]? = some (rowO y)
  ra : Row τ 1 (slV a N) N (f32s e)
  rb : Row τ 1 (slV b N) N (f32s x)
  rd : Row τ 1 (slV d N) N (f32s y)
theorem HB.at_ {σ : Heap} {a b d p N : Nat} (h : HB σ a b d p N) {e x y : List Nat} (he : e.length = N) (hx : x.length = N) (hy : y.length = N) :
    ∃ τ, τ = PH σ a b d (rowO e) (rowO x) (rowO y) ∧ σ.length = τ.length ∧ HS τ a b d p N e x y := by
  obtain ⟨s1, h1⟩ := h.a0
  obtain ⟨s2, h2⟩ := h.b0
  obtain ⟨s3, h3⟩ := h.d0
  obtain ⟨r, h4⟩ := h.p0
  have l1 : a < σ.length := (List.getElem?_eq_some_iff.1 h1).1
  have l2 : b < σ.length := (List.getElem?_eq_some_iff.1 h2).1
  have l3 : d < σ.length := (List.getElem?_eq_some_iff.1 h3).1
  have ga : (PH σ a b d (rowO e) (rowO x) (rowO y))[a]? = some (rowO e) := PH_a h.ab h.ad l1
  have gb : (PH σ a b d (rowO e) (rowO x) (rowO y))[b]? = some (rowO x) := PH_b h.bd l2
  have gd : (PH σ a b d (rowO e) (rowO x) (rowO y))[d]? = some (rowO y) := PH_c l3
  refine ⟨_, rfl, PH_len.symm, PtAt.whole (r := r) (PH_pt ⟨_, h1⟩ ⟨_, h2⟩ ⟨_, h3⟩ h4), ga, gb, gd, ?_, ?_, ?_⟩
  · subst he; exact Row.whole ga (by omega) (by rw [f32s_length]; omega)
  · subst hx; exact Row.whole gb (by omega) (by rw [f32s_length]; omega)
  · subst hy; exact Row.whole gd (by omega) (by rw [f32s_length]; omega)
theorem PH_setbR {σ : Heap} {a b d : Nat} {e x y x' : List Nat} (h : b ≠ d) : (PH σ a b d (rowO e) (rowO x) (rowO y)).set b (rowO x') = PH σ a b d (rowO e) (rowO x') (rowO y) := PH_setb h

def impl_halfStep_ok (c : Contract) : Prop := ∀ (σ : Heap) (p W H : Nat) (wr : Bool) (sv lv : Value) (a b d N : Nat) (e x y : List Nat) (r : Bool), cellOk sv = true → cellOk lv = true → 3 ≤ W → W ≤ 16 → 3 ≤ H → H ≤ 16 → a ≠ b → a ≠ d → b ≠ d → W * H = N → e.length = N → x.length = N → y.length = N →
    σ[p]? = some ⟨[slV a N, slV b N, slV d N], 0, r⟩ → σ[a]? = some (rowO e) → σ[b]? = some (rowO x) → σ[d]? = some (rowO y) →
    Ret c [shV W H wr sv lv, .pointer (some ⟨p, 0, none⟩)] σ fun v σ' => v = .tuple #[] ∧ σ' = PH σ a b d (rowO e) (rowO (halfX W H wr e x)) (rowO (halfY W H wr e y))
theorem impl_halfStep_law {C : Ctab} {i1 : FuncId} {c1 : Contract} (h1 : Has C i1 c1 impl_Sheet_at_ok) : impl_halfStep_ok (gcC C (impl_halfStep i1) false) := by
  intro σ p W H wr sv lv a b d N e x y r ks kl a1 a2 a3 a4 n1 n2 n3 hN e1 e2 e3 hp ha hb hd
  have hB : HB σ a b d p N := ⟨n1, n2, n3, ⟨_, ha⟩, ⟨_, hb⟩, ⟨_, hd⟩, ⟨r, hp⟩⟩
  have hN2 : W * H ≤ 256 := Nat.mul_le_mul a2 a4
  obtain ⟨gx, egx⟩ : ∃ g, g = hxF W H wr e x := ⟨_, rfl⟩
  obtain ⟨gy, egy⟩ : ∃ g, g = hyF W H wr e y := ⟨_, rfl⟩
  have zero : σ = PH σ a b d (rowO e) (rowO (preM gx x (W * 0))) (rowO (preM gy y (W * 0))) := by
    rw [Nat.mul_zero, preM_zero, preM_zero, PH_self ha hb hd]
  have lx : ∀ j, j ≤ N → (preM gx x j).length = N := fun j hj => by rw [preM_length (by omega)]; exact e2
  have ly : ∀ j, j ≤ N → (preM gy y j).length = N := fun j hj => by rw [preM_length (by omega)]; exact e3
  show Ret _ _ _ fun v σ' => v = .tuple #[] ∧ σ' = PH σ a b d (rowO e) (rowO (newM (hxF W H wr e x) x)) (rowO (newM (hyF W H wr e y) y))
  rw [← egx, ← egy]
  refine ret_gc rfl rfl ?_
  repeat' (first | refine ff ?_ | ((first | refine sR ?_ ?_ | refine sC ?_ ?_) <;> (intro hb; (try rw [hb]); (try simp only [bb] at hb); (try (exfalso; first | omega | exact hb trivial)))) | (apply endS trivial; rotate_left; (· exact eva); (· rfl); try refine ⟨?_, rfl⟩) | fail)
  refine Ev.whlH (S := Nat) (fun cy => H - cy) (fun cy => [(9, .int .i64 cy)]) (fun cy => PH σ a b d (rowO e) (rowO (preM gx x (W * cy))) (rowO (preM gy y (W * cy))) ++ [⟨[.int .i64 W, .int .i64 H, .bool wr, sv, lv], 0, true⟩]) (fun cy => cy ≤ H) 0 (by exact tF) (by rw [← zero]) (Nat.zero_le _) ?_
  rintro cy F hF hi
  (simp only [List.cons_append, List.nil_append, ↓fget_cons, fkeep_cons, fkeep_nil, Nat.reduceEqDiff, reduceIte] at hF; subst hF)
  have hWcy : W * cy ≤ N := by rw [← hN]; exact Nat.mul_le_mul_left W hi
  obtain ⟨τ, hτ, L, S⟩ := hB.at_ e1 (lx _ hWcy) (ly _ hWcy)
  rw [← hτ, L]
  by_cases hlt : cy < H
  · repeat' (first | refine ff ?_ | ((first | refine sR ?_ ?_ | refine sC ?_ ?_) <;> (intro hb; (try rw [hb]); (try simp only [bb] at hb); (try (exfalso; first | omega | exact hb trivial)))) | (apply endS trivial; rotate_left; (· exact eva); (· rfl); try refine ⟨?_, rfl⟩) | fail)
    rw [← L, hτ]
    refine Ev.whlH (S := Nat) (fun cx => W - cx) (fun cx => [(14, .int .i64 cx)]) (fun cx => PH σ a b d (rowO e) (rowO (preM gx x (W * cy + cx))) (rowO (preM gy y (W * cy + cx))) ++ [⟨[.int .i64 W, .int .i64 H, .bool wr, sv, lv], 0, true⟩]) (fun cx => cx ≤ W) 0 (by exact tF) rfl (Nat.zero_le _) ?_
    rintro cx F hF hi2
    (simp only [List.cons_append, List.nil_append, ↓fget_cons, fkeep_cons, fkeep_nil, Nat.reduceEqDiff, reduceIte] at hF; subst hF)
    have hWs : W * cy + W ≤ N := by rw [← hN, ← Nat.mul_succ]; exact Nat.mul_le_mul_left W hlt
    clear S hτ L τ
    obtain ⟨τ, hτ, L, S⟩ := hB.at_ e1 (lx (W * cy + cx) (by omega)) (ly (W * cy + cx) (by omega))
    have s1 := S.pt
    have s2 := S.ra
    have s3 := S.rb
    have s4 := S.rd
    by_cases hlt2 : cx < W
    · obtain ⟨j, hj⟩ : ∃ j, j = W * cy + cx := ⟨_, rfl⟩
      have at0 : atC W H cx cy = (j : Int) := by rw [atC_cell hlt2 hlt, hj]
      have at1 := atC_atN (W := W) (H := H) (u := cx) (v := (cy : Int) + 1) a1 a3 (by omega) (by omega) (by omega) (by omega)
      have at2 := atC_atN (W := W) (H := H) (u := (cx : Int) + 1) (v := cy) a1 a3 (by omega) (by omega) (by omega) (by omega)
      have bt1 := atN_lt (W := W) (H := H) (u := cx) (v := (cy : Int) + 1) a1 a3 (by omega) (by omega) (by omega) (by omega)
      have bt2 := atN_lt (W := W) (H := H) (u := (cx : Int) + 1) (v := cy) a1 a3 (by omega) (by omega) (by omega) (by omega)
      have vx : gx j = hxC W H wr e x cx cy j := by rw [egx, hj, hxF_at hlt2]
      have vy : gy j = hyC W H wr e y cx cy j := by rw [egy, hj, hyF_at hlt2]
      have px := preM_get (g := gx) (xs := x) (j := j) (by omega)
      have py := preM_get (g := gy) (xs := y) (j := j) (by omega)
      have qx := preM_set (g := gx) (xs := x) (j := j) (by omega)
      have qy := preM_set (g := gy) (xs := y) (j := j) (by omega)
      have kx := lx (j + 1) (by omega)
      have ky := ly (j + 1) (by omega)
      rw [← hj] at s3 s4 S hτ ⊢
      rw [← hτ, L]
      cases wr
      · by_cases hx : (cy : Int) < (H : Int) - 1
        · unfold hxC at vx
          rw [if_pos (by simp; omega)] at vx
          repeat' (first | refine ff ?_ | (apply EvR.aCall h1.at_; (· exact eva); (· apply h1.ok <;> exact sid); (rintro _ _ ⟨rfl, rfl⟩; refine EvR.nrm ?_; try simp only [at0, at1, at2, px, py])) | ((first | refine sR ?_ ?_ | refine sC ?_ ?_) <;> (intro hb; (try rw [hb]); (try simp only [bb] at hb); (try (exfalso; first | omega | exact hb trivial)))) | (apply endS trivial; rotate_left; (· exact eva); (· rfl); try refine ⟨?_, rfl⟩) | fail)
          refine EvR.stoE (v := gx j) S.b_ (lx j (by omega)) (by omega) rfl (by rw [vx]; rfl) ?_
          rw [← L, qx, hτ, PH_setbR n3]
          obtain ⟨τ2, hτ2, L2, S2⟩ := hB.at_ e1 kx (ly j (by omega))
          rw [← hτ2, L2]
          have t1 := S2.pt
          have t2 := S2.ra
          have t3 := S2.rb
          have t4 := S2.rd
          by_cases hy : (cx : Int) < (W : Int) - 1
          · unfold hyC at vy
            rw [if_pos (by simp; omega)] at vy
            repeat' (first | refine ff ?_ | (apply EvR.aCall h1.at_; (· exact eva); (· apply h1.ok <;> exact sid); (rintro _ _ ⟨rfl, rfl⟩; refine EvR.nrm ?_; try simp only [at0, at1, at2, px, py])) | ((first | refine sR ?_ ?_ | refine sC ?_ ?_) <;> (intro hb; (try rw [hb]); (try simp only [bb] at hb); (try (exfalso; first | omega | exact hb trivial)))) | (apply endS trivial; rotate_left; (· exact eva); (· rfl); try refine ⟨?_, rfl⟩) | fail)
            refine EvR.stoE (v := gy j) S2.d_ (ly j (by omega)) (by omega) rfl (by rw [vy]; rfl) ?_
            rw [← L2, qy, hτ2, PH_setc]
            repeat' (first | refine ff ?_ | ((first | refine sR ?_ ?_ | refine sC ?_ ?_) <;> (intro hb; (try rw [hb]); (try simp only [bb] at hb); (try (exfalso; first | omega | exact hb trivial)))) | (apply endS trivial; rotate_left; (· exact eva); (· rfl); try refine ⟨?_, rfl⟩) | fail)
            exact ⟨cx + 1, by omega, by exact tF, by rw [hj]; rfl, by omega⟩
          · unfold hyC at vy
            rw [if_neg (by simp; omega)] at vy
            have ey := preM_skip (g := gy) (xs := y) (j := j) (by omega) vy
            repeat' (first | refine ff ?_ | (apply EvR.aCall h1.at_; (· exact eva); (· apply h1.ok <;> exact sid); (rintro _ _ ⟨rfl, rfl⟩; refine EvR.nrm ?_; try simp only [at0, at1, at2, px, py])) | ((first | refine sR ?_ ?_ | refine sC ?_ ?_) <;> (intro hb; (try rw [hb]); (try simp only [bb] at hb); (try (exfalso; first | omega | exact hb trivial)))) | (apply endS trivial; rotate_left; (· exact eva); (· rfl); try refine ⟨?_, rfl⟩) | fail)
            rw [← L2, hτ2, ey]
            exact ⟨cx + 1, by omega, by exact tF, by rw [hj]; rfl, by omega⟩
        · unfold hxC at vx
          rw [if_neg (by simp; omega)] at vx
          have ex := preM_skip (g := gx) (xs := x) (j := j) (by omega) vx
          have px2 := px
          rw [ex] at S s3 hτ px2
          by_cases hy : (cx : Int) < (W : Int) - 1
          · unfold hyC at vy
            rw [if_pos (by simp; omega)] at vy
            repeat' (first | refine ff ?_ | (apply EvR.aCall h1.at_; (· exact eva); (· apply h1.ok <;> exact sid); (rintro _ _ ⟨rfl, rfl⟩; refine EvR.nrm ?_; try simp only [at0, at1, at2, px, py])) | ((first | refine sR ?_ ?_ | refine sC ?_ ?_) <;> (intro hb; (try rw [hb]); (try simp only [bb] at hb); (try (exfalso; first | omega | exact hb trivial)))) | (apply endS trivial; rotate_left; (· exact eva); (· rfl); try refine ⟨?_, rfl⟩) | fail)
            refine EvR.stoE (v := gy j) S.d_ (ly j (by omega)) (by omega) rfl (by rw [vy]; rfl) ?_
            rw [← L, qy, hτ, PH_setc]
            repeat' (first | refine ff ?_ | ((first | refine sR ?_ ?_ | refine sC ?_ ?_) <;> (intro hb; (try rw [hb]); (try simp only [bb] at hb); (try (exfalso; first | omega | exact hb trivial)))) | (apply endS trivial; rotate_left; (· exact eva); (· rfl); try refine ⟨?_, rfl⟩) | fail)
            exact ⟨cx + 1, by omega, by exact tF, by rw [hj]; rfl, by omega⟩
          · unfold hyC at vy
            rw [if_neg (by simp; omega)] at vy
            have ey := preM_skip (g := gy) (xs := y) (j := j) (by omega) vy
            repeat' (first | refine ff ?_ | (apply EvR.aCall h1.at_; (· exact eva); (· apply h1.ok <;> exact sid); (rintro _ _ ⟨rfl, rfl⟩; refine EvR.nrm ?_; try simp only [at0, at1, at2, px, py])) | ((first | refine sR ?_ ?_ | refine sC ?_ ?_) <;> (intro hb; (try rw [hb]); (try simp only [bb] at hb); (try (exfalso; first | omega | exact hb trivial)))) | (apply endS trivial; rotate_left; (· exact eva); (· rfl); try refine ⟨?_, rfl⟩) | fail)
            rw [← L, hτ, ey]
            exact ⟨cx + 1, by omega, by exact tF, by rw [hj]; rfl, by omega⟩
      · unfold hxC at vx
        unfold hyC at vy
        rw [if_pos (by rfl)] at vx vy
        repeat' (first | refine ff ?_ | (apply EvR.aCall h1.at_; (· exact eva); (· apply h1.ok <;> exact sid); (rintro _ _ ⟨rfl, rfl⟩; refine EvR.nrm ?_; try simp only [at0, at1, at2, px, py])) | ((first | refine sR ?_ ?_ | refine sC ?_ ?_) <;> (intro hb; (try rw [hb]); (try simp only [bb] at hb); (try (exfalso; first | omega | exact hb trivial)))) | (apply endS trivial; rotate_left; (· exact eva); (· rfl); try refine ⟨?_, rfl⟩) | fail)
        refine EvR.stoE (v := gx j) S.b_ (lx j (by omega)) (by omega) rfl (by rw [vx]; rfl) ?_
        rw [← L, qx, hτ, PH_setbR n3]
        obtain ⟨τ2, hτ2, L2, S2⟩ := hB.at_ e1 kx (ly j (by omega))
        rw [← hτ2, L2]
        have t1 := S2.pt
        have t2 := S2.ra
        have t3 := S2.rb
        have t4 := S2.rd
        repeat' (first | refine ff ?_ | (apply EvR.aCall h1.at_; (· exact eva); (· apply h1.ok <;> exact sid); (rintro _ _ ⟨rfl, rfl⟩; refine EvR.nrm ?_; try simp only [at0, at1, at2, px, py])) | ((first | refine sR ?_ ?_ | refine sC ?_ ?_) <;> (intro hb; (try rw [hb]); (try simp only [bb] at hb); (try (exfalso; first | omega | exact hb trivial)))) | (apply endS trivial; rotate_left; (· exact eva); (· rfl); try refine ⟨?_, rfl⟩) | fail)
        refine EvR.stoE (v := gy j) S2.d_ (ly j (by omega)) (by omega) rfl (by rw [vy]; rfl) ?_
        rw [← L2, qy, hτ2, PH_setc]
        repeat' (first | refine ff ?_ | ((first | refine sR ?_ ?_ | refine sC ?_ ?_) <;> (intro hb; (try rw [hb]); (try simp only [bb] at hb); (try (exfalso; first | omega | exact hb trivial)))) | (apply endS trivial; rotate_left; (· exact eva); (· rfl); try refine ⟨?_, rfl⟩) | fail)
        exact ⟨cx + 1, by omega, by exact tF, by rw [hj]; rfl, by omega⟩
    · obtain rfl : cx = W := by omega
      rw [← hτ, L]
      repeat' (first | refine ff ?_ | ((first | refine sR ?_ ?_ | refine sC ?_ ?_) <;> (intro hb; (try rw [hb]); (try simp only [bb] at hb); (try (exfalso; first | omega | exact hb trivial)))) | (apply endS trivial; rotate_left; (· exact eva); (· rfl); try refine ⟨?_, rfl⟩) | fail)
      rw [← L, hτ]
      exact ⟨cy + 1, by omega, by exact tF, by rw [Nat.mul_succ], by omega⟩
  · obtain rfl : cy = H := by omega
    repeat' (first | refine ff ?_ | ((first | refine sR ?_ ?_ | refine sC ?_ ?_) <;> (intro hb; (try rw [hb]); (try simp only [bb] at hb); (try (exfalso; first | omega | exact hb trivial)))) | (apply endS trivial; rotate_left; (· exact eva); (· rfl); try refine ⟨?_, rfl⟩) | fail)
    rw [← L, hτ, hN, show preM gx x N = newM gx x from by rw [← e2]; exact preM_end, show preM gy y N = newM gy y from by rw [← e3]; exact preM_end]
    apply atEnd_normal (v := .tuple #[])
    · rfl
    · exact end_mod PH_len (PH_old (f32s_const _ _) (f32s_const _ _) (f32s_const _ _)) rfl ⟨rfl, rfl⟩

end Go.Abs

