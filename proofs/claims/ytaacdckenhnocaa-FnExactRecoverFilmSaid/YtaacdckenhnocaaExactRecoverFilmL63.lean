/- Laws of functions: fields of films that are marked and held. Conditions: the laws of what they call. -/
import Derived.Test.YtaacdckenhnocaaExactRecoverFilmL62
import Derived.Test.YtaacdckenhnocaaExactRecoverFilmL07
namespace Go.Abs

set_option linter.unusedSimpArgs false
set_option linter.unusedVariables false
set_option maxHeartbeats 8000000
set_option maxRecDepth 20000
/- loop.example/g01201/laws.markFieldS -/
def laws_markFieldS_r0 : List SOper := [
 ⟨some 4, none, .mov (.const (.int .i64 0)), 0⟩]
def laws_markFieldS_r1 : List SOper := [
 ⟨some 5, none, .mov (.const (.int .i64 0)), 0⟩]
def laws_markFieldS_r2 : List SOper := [
 ⟨some 6, none, .mov (.tmp 5), 0⟩,
 ⟨some 7, none, .mov (.tmp 0), 0⟩,
 ⟨some 8, none, .len false (.tmp 7), 2⟩,
 ⟨some 9, none, .bin .lss .other (.tmp 6) (.tmp 8), 7⟩]
def laws_markFieldS_r3 (i_laws_markFloat32S : FuncId) : List SOper := [
 ⟨some 12, none, .mov (.tmp 0), 0⟩,
 ⟨some 13, none, .mov (.tmp 5), 0⟩,
 ⟨some 14, none, .indexAddrS 3 (.tmp 12) (.tmp 13), 3⟩,
 ⟨some 15, none, .fieldAddr 0 (.tmp 14), 7⟩,
 ⟨some 16, none, .load1 (.tmp 15), 15⟩,
 ⟨some 17, none, .mov (.tmp 1), 0⟩,
 ⟨some 18, none, .call (.func i_laws_markFloat32S) [(.tmp 16), (.tmp 17)], 63⟩,
 ⟨some 1, none, .mov (.tmp 18), 127⟩]
def laws_markFieldS_r4 (i_laws_markFloat32S : FuncId) : List SOper := [
 ⟨some 19, none, .mov (.tmp 0), 0⟩,
 ⟨some 20, none, .mov (.tmp 5), 0⟩,
 ⟨some 21, none, .indexAddrS 3 (.tmp 19) (.tmp 20), 3⟩,
 ⟨some 22, none, .fieldAddr 1 (.tmp 21), 7⟩,
 ⟨some 23, none, .load1 (.tmp 22), 15⟩,
 ⟨some 24, none, .mov (.tmp 1), 0⟩,
 ⟨some 25, none, .call (.func i_laws_markFloat32S) [(.tmp 23), (.tmp 24)], 63⟩,
 ⟨some 1, none, .mov (.tmp 25), 127⟩]
def laws_markFieldS_r5 (i_laws_markFloat32S : FuncId) : List SOper := [
 ⟨some 26, none, .mov (.tmp 0), 0⟩,
 ⟨some 27, none, .mov (.tmp 5), 0⟩,
 ⟨some 28, none, .indexAddrS 3 (.tmp 26) (.tmp 27), 3⟩,
 ⟨some 29, none, .fieldAddr 2 (.tmp 28), 7⟩,
 ⟨some 30, none, .load1 (.tmp 29), 15⟩,
 ⟨some 31, none, .mov (.tmp 1), 0⟩,
 ⟨some 32, none, .call (.func i_laws_markFloat32S) [(.tmp 30), (.tmp 31)], 63⟩,
 ⟨some 1, none, .mov (.tmp 32), 127⟩]
def laws_markFieldS_r6 : List SOper := [
 ⟨some 10, none, .mov (.tmp 5), 0⟩,
 ⟨some 11, none, .bin .add .other (.tmp 10) (.const (.int .i64 1)), 1⟩,
 ⟨some 5, none, .mov (.tmp 11), 3⟩]
def laws_markFieldS_l7 (i_laws_markFloat32S : FuncId) : SCode := (.kp [0,1,5] (.seq (.seq (.region laws_markFieldS_r2 false) (.kp [0,1,5,9] (.cond (.tmp 9) .skip (.exit 0)))) (.kp [0,1,5] (.seq (.block 1 (.seq (.region (laws_markFieldS_r3 i_laws_markFloat32S) false) (.kp [0,1,5] (.seq (.region (laws_markFieldS_r4 i_laws_markFloat32S) false) (.kp [0,1,5] (.region (laws_markFieldS_r5 i_laws_markFloat32S) false)))))) (.kp [0,1,5] (.region laws_markFieldS_r6 false))))))
def laws_markFieldS_r8 : List SOper := [
 ⟨some 33, none, .mov (.tmp 1), 0⟩,
 ⟨some 4, none, .mov (.tmp 33), 1⟩]
def laws_markFieldS (i_laws_markFloat32S : FuncId) : SFunc := ⟨34, [.tmp 4], (.kp [0,1] (.seq (.region laws_markFieldS_r0 false) (.kp [0,1] (.seq (.seq (.region laws_markFieldS_r1 false) (.kp [0,1,5] (.block 0 (.loop (laws_markFieldS_l7 i_laws_markFloat32S))))) (.kp [1] (.seq (.region laws_markFieldS_r8 false) .ret))))))⟩

/- loop.example/g01201/laws.heldFieldS -/
def laws_heldFieldS_r0 : List SOper := [
 ⟨some 4, none, .mov (.const (.int .i64 0)), 0⟩]
def laws_heldFieldS_r1 : List SOper := [
 ⟨some 5, none, .mov (.const (.int .i64 0)), 0⟩]
def laws_heldFieldS_r2 : List SOper := [
 ⟨some 6, none, .mov (.tmp 5), 0⟩,
 ⟨some 7, none, .mov (.tmp 0), 0⟩,
 ⟨some 8, none, .len false (.tmp 7), 2⟩,
 ⟨some 9, none, .bin .lss .other (.tmp 6) (.tmp 8), 7⟩]
def laws_heldFieldS_r3 (i_laws_heldFloat32S : FuncId) : List SOper := [
 ⟨some 12, none, .mov (.tmp 0), 0⟩,
 ⟨some 13, none, .mov (.tmp 5), 0⟩,
 ⟨some 14, none, .indexAddrS 3 (.tmp 12) (.tmp 13), 3⟩,
 ⟨some 15, none, .fieldAddr 0 (.tmp 14), 7⟩,
 ⟨some 16, none, .load1 (.tmp 15), 15⟩,
 ⟨some 17, none, .mov (.tmp 1), 0⟩,
 ⟨some 18, none, .call (.func i_laws_heldFloat32S) [(.tmp 16), (.tmp 17)], 63⟩,
 ⟨some 1, none, .mov (.tmp 18), 127⟩]
def laws_heldFieldS_r4 : List SOper := [
 ⟨some 19, none, .mov (.tmp 1), 0⟩,
 ⟨some 20, none, .bin .lss .other (.tmp 19) (.const (.int .i64 0)), 1⟩]
def laws_heldFieldS_r5 : List SOper := [
 ⟨some 4, none, .mov (.const (.int .i64 (-1))), 0⟩]
def laws_heldFieldS_r6 (i_laws_heldFloat32S : FuncId) : List SOper := [
 ⟨some 21, none, .mov (.tmp 0), 0⟩,
 ⟨some 22, none, .mov (.tmp 5), 0⟩,
 ⟨some 23, none, .indexAddrS 3 (.tmp 21) (.tmp 22), 3⟩,
 ⟨some 24, none, .fieldAddr 1 (.tmp 23), 7⟩,
 ⟨some 25, none, .load1 (.tmp 24), 15⟩,
 ⟨some 26, none, .mov (.tmp 1), 0⟩,
 ⟨some 27, none, .call (.func i_laws_heldFloat32S) [(.tmp 25), (.tmp 26)], 63⟩,
 ⟨some 1, none, .mov (.tmp 27), 127⟩]
def laws_heldFieldS_r7 : List SOper := [
 ⟨some 28, none, .mov (.tmp 1), 0⟩,
 ⟨some 29, none, .bin .lss .other (.tmp 28) (.const (.int .i64 0)), 1⟩]
def laws_heldFieldS_r8 : List SOper := [
 ⟨some 4, none, .mov (.const (.int .i64 (-1))), 0⟩]
def laws_heldFieldS_r9 (i_laws_heldFloat32S : FuncId) : List SOper := [
 ⟨some 30, none, .mov (.tmp 0), 0⟩,
 ⟨some 31, none, .mov (.tmp 5), 0⟩,
 ⟨some 32, none, .indexAddrS 3 (.tmp 30) (.tmp 31), 3⟩,
 ⟨some 33, none, .fieldAddr 2 (.tmp 32), 7⟩,
 ⟨some 34, none, .load1 (.tmp 33), 15⟩,
 ⟨some 35, none, .mov (.tmp 1), 0⟩,
 ⟨some 36, none, .call (.func i_laws_heldFloat32S) [(.tmp 34), (.tmp 35)], 63⟩,
 ⟨some 1, none, .mov (.tmp 36), 127⟩]
def laws_heldFieldS_r10 : List SOper := [
 ⟨some 37, none, .mov (.tmp 1), 0⟩,
 ⟨some 38, none, .bin .lss .other (.tmp 37) (.const (.int .i64 0)), 1⟩]
def laws_heldFieldS_r11 : List SOper := [
 ⟨some 4, none, .mov (.const (.int .i64 (-1))), 0⟩]
def laws_heldFieldS_r12 : List SOper := [
 ⟨some 10, none, .mov (.tmp 5), 0⟩,
 ⟨some 11, none, .bin .add .other (.tmp 10) (.const (.int .i64 1)), 1⟩,
 ⟨some 5, none, .mov (.tmp 11), 3⟩]
def laws_heldFieldS_l13 (i_laws_heldFloat32S : FuncId) : SCode := (.kp [0,1,5] (.seq (.seq (.region laws_heldFieldS_r2 false) (.kp [0,1,5,9] (.cond (.tmp 9) .skip (.exit 0)))) (.kp [0,1,5] (.seq (.block 1 (.seq (.region (laws_heldFieldS_r3 i_laws_heldFloat32S) false) (.kp [0,1,5] (.seq (.seq (.region laws_heldFieldS_r4 false) (.kp [0,1,5,20] (.cond (.tmp 20) (.seq (.region laws_heldFieldS_r5 false) .ret) .skip))) (.kp [0,1,5] (.seq (.region (laws_heldFieldS_r6 i_laws_heldFloat32S) false) (.kp [0,1,5] (.seq (.seq (.region laws_heldFieldS_r7 false) (.kp [0,1,5,29] (.cond (.tmp 29) (.seq (.region laws_heldFieldS_r8 false) .ret) .skip))) (.kp [0,1,5] (.seq (.region (laws_heldFieldS_r9 i_laws_heldFloat32S) false) (.kp [0,1,5] (.seq (.region laws_heldFieldS_r10 false) (.kp [0,1,5,38] (.cond (.tmp 38) (.seq (.region laws_heldFieldS_r11 false) .ret) .skip)))))))))))))) (.kp [0,1,5] (.region laws_heldFieldS_r12 false))))))
def laws_heldFieldS_r14 : List SOper := [
 ⟨some 39, none, .mov (.tmp 1), 0⟩,
 ⟨some 4, none, .mov (.tmp 39), 1⟩]
def laws_heldFieldS (i_laws_heldFloat32S : FuncId) : SFunc := ⟨40, [.tmp 4], (.kp [0,1] (.seq (.region laws_heldFieldS_r0 false) (.kp [0,1] (.seq (.seq (.region laws_heldFieldS_r1 false) (.kp [0,1,5] (.block 0 (.loop (laws_heldFieldS_l13 i_laws_heldFloat32S))))) (.kp [1] (.seq (.region laws_heldFieldS_r14 false) .ret))))))⟩


/-! ### Marks in many rows -/
def tot : Rws → Nat
  | [] => 0
  | p :: R => p.2.length + tot R
def markH : Heap → Int → Rws → Heap
  | σ, _, [] => σ
  | σ, k, p :: R => markH (σ.set p.1 (rowO (marks k p.2.length))) (k + p.2.length) R
def markR : Int → Rws → Rws
  | _, [] => []
  | k, p :: R => (p.1, marks k p.2.length) :: markR (k + p.2.length) R
theorem tot_app (A B : Rws) : tot (A ++ B) = tot A + tot B := by
  induction A with
  | nil => simp [tot]
  | cons p A ih => simp only [List.cons_append, tot, ih]; omega
theorem markH_app : ∀ (A : Rws) (σ : Heap) (k : Int) (B : Rws), markH σ k (A ++ B) = markH (markH σ k A) (k + tot A) B
  | [], σ, k, B => by simp [markH, tot]
  | p :: A, σ, k, B => by
    simp only [List.cons_append, markH, tot]
    rw [markH_app A]
    congr 1
    omega
theorem markR_app : ∀ (A : Rws) (k : Int) (B : Rws), markR k (A ++ B) = markR k A ++ markR (k + tot A) B
  | [], k, B => by simp [markR, tot]
  | p :: A, k, B => by
    simp only [List.cons_append, markR, tot]
    rw [markR_app A, Int.natCast_add, Int.add_assoc]
theorem markH_len : ∀ (R : Rws) (σ : Heap) (k : Int), (markH σ k R).length = σ.length
  | [], σ, k => rfl
  | p :: R, σ, k => by unfold markH; rw [markH_len R, List.length_set]
theorem markH_out : ∀ {R : Rws} {σ : Heap} {k : Int} {o : Nat}, o ∉ R.map Prod.fst → (markH σ k R)[o]? = σ[o]?
  | [], σ, k, o, _ => rfl
  | p :: R, σ, k, o, h => by
    simp only [List.map_cons, List.mem_cons, not_or] at h
    unfold markH
    rw [markH_out h.2, List.getElem?_set_ne (Ne.symm h.1)]
theorem markR_fst : ∀ (R : Rws) (k : Int), (markR k R).map Prod.fst = R.map Prod.fst
  | [], k => rfl
  | p :: R, k => by unfold markR; simp only [List.map_cons, markR_fst R]
theorem markH_in : ∀ {R : Rws} {σ : Heap} {k : Int}, (∀ p ∈ R, p.1 < σ.length) → (R.map Prod.fst).Nodup → ∀ p ∈ markR k R, (markH σ k R)[p.1]? = some (rowO p.2)
  | [], σ, k, _, _, p, hp => by simp [markR] at hp
  | q :: R, σ, k, hl, hn, p, hp => by
    simp only [List.map_cons, List.nodup_cons] at hn
    unfold markR at hp
    unfold markH
    rcases List.mem_cons.1 hp with rfl | hp
    · rw [markH_out hn.1, List.getElem?_set_self (hl q (by simp))]
    · exact markH_in (fun r hr => by rw [List.length_set]; exact hl r (by simp [hr])) hn.2 p hp
theorem markH_ext : ∀ (R : Rws) (σ t : Heap) (k : Int), (∀ p ∈ R, p.1 < σ.length) → markH (σ ++ t) k R = markH σ k R ++ t
  | [], σ, t, k, _ => rfl
  | p :: R, σ, t, k, h => by
    unfold markH
    rw [List.set_append_left _ _ (h p (by simp)), markH_ext R _ t _ (fun q hq => by rw [List.length_set]; exact h q (by simp [hq]))]
/-- What marks leave behind is owned as before. -/
theorem RInv.mark {H : Heap} {lo : Nat} {R : Rws} (h : RInv H lo R) (k : Int) : RInv (markH H k R) lo (markR k R) := by
  have hf := markR_fst R k
  refine ⟨markH_in (fun p hp => h.lt hp) h.nod, fun p hp => ?_, by rw [hf]; exact h.nod⟩
  have : p.1 ∈ R.map Prod.fst := by rw [← hf]; exact List.mem_map_of_mem hp
  obtain ⟨q, hq, he⟩ := List.mem_map.1 this
  rw [← he]; exact h.low q hq
/-- Marks elsewhere. -/
theorem RInv.other {H : Heap} {lo : Nat} {R S : Rws} (h : RInv H lo R) (hd : ∀ p ∈ R, p.1 ∉ S.map Prod.fst) (k : Int) : RInv (markH H k S) lo R :=
  ⟨fun p hp => by rw [markH_out (hd p hp)]; exact h.own p hp, h.low, h.nod⟩

/-- A function that writes, whose rubbish stays. -/
theorem ret_bx {C : Ctab} {S : SFunc} {args : List Value} {σ : Heap} {Q : Value → Heap → Prop} {n : Nat} {rs : List SRes} {body : SCode} (hS : S = ⟨n, rs, body⟩) (hn : Nat.ble args.length n = true)
    (h : Ev C body (argFrame 0 args) (σ ++ []) (atEnd rs Q)) : Ret (bodyC C S false) args σ Q := by
  subst hS
  rw [List.append_nil] at h
  exact ret_of_ev (Nat.le_of_ble_eq_true hn) (fun hq => by cases hq) h
section
variable {C : Ctab} {F : Frame} {τ l : Heap}
/-- A cell of an old row. -/
theorem EvR.ldo {Q} {d n b off c e : Nat} {rest : List SOper} {x : Operand} {v : Value} {cells : List Value} {r : Bool} (h2 : τ[b]? = some ⟨cells, e, r⟩) (hl : cells.length = c) (he : e ≠ 0) (h1 : eval F x = .pointer (some ⟨b, off, some c⟩)) (hv : cells[off]? = some v)
    (h : EvR C rest ((d, v) :: F) (τ ++ l) Q) : EvR C (⟨some d, none, .load1 x, n⟩ :: rest) F (τ ++ l) Q := by
  refine EvR.opS (evL_ok ?_) h
  have hlt := (List.getElem?_eq_some_iff.1 h2).1
  have e' : (τ ++ l)[b]? = some ⟨cells, e, r⟩ := by rw [List.getElem?_append_left hlt]; exact h2
  rw [evL, h1, load1_obj e' hl he, hv]
/-- The place of an element of an old row. -/
theorem EvR.ixR {Q} {d n b m c q e : Nat} {rest : List SOper} {x y : Operand} {k : IntKind} {cells : List Value} {r : Bool} (h2 : τ[b]? = some ⟨cells, e, r⟩) (hl : cells.length = c * e) (he : e ≠ 0) (h1 : eval F x = .slice (some ⟨b, 0, none⟩) m c) (h3 : eval F y = .int k (q : Nat)) (h5 : q < m) (h6 : m ≤ c)
    (h : EvR C rest ((d, .pointer (some ⟨b, q * e, some (c * e)⟩)) :: F) (τ ++ l) Q) : EvR C (⟨some d, none, .indexAddrS e x y, n⟩ :: rest) F (τ ++ l) Q := by
  have hlt := (List.getElem?_eq_some_iff.1 h2).1
  have e' : (τ ++ l)[b]? = some ⟨cells, e, r⟩ := by rw [List.getElem?_append_left hlt]; exact h2
  exact EvR.ixr e' hl he h1 h3 h5 h6 h
end

theorem take3 {R : Rws} {i n : Nat} (hR : R.length = n * 3) (hi : i < n) : ∃ p q r, R.take ((i + 1) * 3) = R.take (i * 3) ++ [p, q, r] ∧ (R.map slOf)[i * 3]? = some (slOf p) ∧ (R.map slOf)[i * 3 + 1]? = some (slOf q) ∧ (R.map slOf)[i * 3 + 2]? = some (slOf r) ∧ p ∈ R ∧ q ∈ R ∧ r ∈ R := by
  obtain ⟨p, hp⟩ : ∃ p, R[i * 3]? = some p := ⟨_, List.getElem?_eq_getElem (by omega)⟩
  obtain ⟨q, hq⟩ : ∃ p, R[i * 3 + 1]? = some p := ⟨_, List.getElem?_eq_getElem (by omega)⟩
  obtain ⟨r, hr⟩ : ∃ p, R[i * 3 + 2]? = some p := ⟨_, List.getElem?_eq_getElem (by omega)⟩
  refine ⟨p, q, r, ?_, by rw [List.getElem?_map, hp]; rfl, by rw [List.getElem?_map, hq]; rfl, by rw [List.getElem?_map, hr]; rfl, List.mem_of_getElem? hp, List.mem_of_getElem? hq, List.mem_of_getElem? hr⟩
  rw [show (i + 1) * 3 = i * 3 + 1 + 1 + 1 by omega, List.take_add_one, List.take_add_one, List.take_add_one, hp, hq, hr]
  simp

def smallR (R : Rws) : Prop := ∀ p ∈ R, p.2.length ≤ 1048576
def laws_markFieldS_ok (c : Contract) : Prop := (∀ (σ : Heap) (k : Int), Ret c [.slice none 0 0, .int .i64 k] σ fun v σ' => v = .int .i64 k ∧ σ' = σ) ∧
    ∀ (σ : Heap) (b n lo : Nat) (R : Rws) (k : Int), σ[b]? = some ⟨R.map slOf, 3, true⟩ → RInv σ lo R → b ∉ R.map Prod.fst → R.length = n * 3 → n ≤ 1048576 → smallR R → tot R ≤ 1000000000 → 0 ≤ k → k ≤ 1000000000 →
    Ret c [slV b n, .int .i64 k] σ fun v σ' => v = .int .i64 (k + tot R) ∧ σ' = markH σ k R
theorem laws_markFieldS_law {C : Ctab} {i1 : FuncId} {c1 : Contract} (h1 : HasW C i1 c1 laws_markFloat32S_ok) : laws_markFieldS_ok (bodyC C (laws_markFieldS i1) false) := by
  refine ⟨fun σ k => ?_, fun σ b n lo R k hb hinv hbn hR hn hsm ht k0 kk => ?_⟩
  · refine ret_bx rfl rfl ?_
    repeat' (first | refine ff ?_ | ((first | refine sR ?_ ?_ | refine sC ?_ ?_) <;> (intro hb; (try rw [hb]); (try simp only [bb] at hb); (try (exfalso; first | omega | exact hb trivial)))) | (apply endS trivial; rotate_left; (· exact eva); (· rfl); try refine ⟨?_, rfl⟩) | fail)
    refine Ev.whlC (S := Unit) (fun _ => 0) (fun _ => []) (fun _ => True) () (by rfl) trivial ?_
    rintro _ F hF _
    (simp only [List.cons_append, List.nil_append, ↓fget_cons, fkeep_cons, fkeep_nil, Nat.reduceEqDiff, reduceIte] at hF; subst hF)
    repeat' (first | refine ff ?_ | ((first | refine sR ?_ ?_ | refine sC ?_ ?_) <;> (intro hb; (try rw [hb]); (try simp only [bb] at hb); (try (exfalso; first | omega | exact hb trivial)))) | (apply endS trivial; rotate_left; (· exact eva); (· rfl); try refine ⟨?_, rfl⟩) | fail)
    apply atEnd_ret
    · exact eva
    · exact ⟨rfl, List.append_nil _⟩
  refine ret_bx rfl rfl ?_
  repeat' (first | refine ff ?_ | ((first | refine sR ?_ ?_ | refine sC ?_ ?_) <;> (intro hb; (try rw [hb]); (try simp only [bb] at hb); (try (exfalso; first | omega | exact hb trivial)))) | (apply endS trivial; rotate_left; (· exact eva); (· rfl); try refine ⟨?_, rfl⟩) | fail)
  refine Ev.whlH (S := Nat) (fun i => n - i) (fun i => [(1, .int .i64 (k + tot (R.take (i * 3)))), (5, .int .i64 i)]) (fun i => markH σ k (R.take (i * 3)) ++ []) (fun i => i ≤ n) 0 (by simp only [Nat.zero_mul, List.take_zero, tot, Int.natCast_zero, Int.add_zero]; exact tF) (by simp [markH]) (Nat.zero_le _) ?_
  rintro i F hF hi
  (simp only [List.cons_append, List.nil_append, ↓fget_cons, fkeep_cons, fkeep_nil, Nat.reduceEqDiff, reduceIte] at hF; subst hF)
  by_cases hlt : i < n
  · obtain ⟨p, q, r, ht3, hc1, hc2, hc3, mp, mq, mr⟩ := take3 hR hlt
    have hnd := hinv.nod
    have hsplit : R = R.take (i * 3) ++ ([p, q, r] ++ R.drop ((i + 1) * 3)) := by rw [← List.append_assoc, ← ht3, List.take_append_drop]
    obtain ⟨A, hA⟩ : ∃ A, A = R.take (i * 3) := ⟨_, rfl⟩
    have htot : tot A + (p.2.length + (q.2.length + r.2.length)) ≤ tot R := by
      rw [hsplit, ← hA, tot_app, tot_app]; simp only [tot]; omega
    have hnd2 : ((A ++ ([p, q, r] ++ R.drop ((i + 1) * 3))).map Prod.fst).Nodup := by rw [hA, ← hsplit]; exact hnd
    have hbA : b ∉ A.map Prod.fst := fun hc => hbn (by rw [hsplit, ← hA, List.map_append]; exact List.mem_append_left _ hc)
    rw [List.map_append, List.nodup_append] at hnd2
    obtain ⟨nA, nB, nAB⟩ := hnd2
    simp only [List.map_append, List.map_cons, List.map_nil, List.cons_append, List.nil_append, List.nodup_cons, List.mem_cons, not_or] at nB nAB
    have pA : p.1 ∉ A.map Prod.fst := fun hc => nAB _ hc _ (.inl rfl) rfl
    have qA : q.1 ∉ A.map Prod.fst := fun hc => nAB _ hc _ (.inr (.inl rfl)) rfl
    have rA : r.1 ∉ A.map Prod.fst := fun hc => nAB _ hc _ (.inr (.inr (.inl rfl))) rfl
    have pq : p.1 ≠ q.1 := nB.1.1
    have pr : p.1 ≠ r.1 := nB.1.2.1
    have qr : q.1 ≠ r.1 := nB.2.1.1
    have bp : b ≠ p.1 := fun hc => hbn (by rw [hc]; exact List.mem_map_of_mem mp)
    have bq : b ≠ q.1 := fun hc => hbn (by rw [hc]; exact List.mem_map_of_mem mq)
    have br : b ≠ r.1 := fun hc => hbn (by rw [hc]; exact List.mem_map_of_mem mr)
    have hl : (R.map slOf).length = n * 3 := by rw [List.length_map, hR]
    obtain ⟨τ, hτ⟩ : ∃ s, s = markH σ k A := ⟨_, rfl⟩
    have tb : τ[b]? = some ⟨R.map slOf, 3, true⟩ := by rw [hτ, markH_out hbA]; exact hb
    have tp : τ[p.1]? = some (rowO p.2) := by rw [hτ, markH_out pA]; exact hinv.own p mp
    have tq : τ[q.1]? = some (rowO q.2) := by rw [hτ, markH_out qA]; exact hinv.own q mq
    have tr : τ[r.1]? = some (rowO r.2) := by rw [hτ, markH_out rA]; exact hinv.own r mr
    have lp := (List.getElem?_eq_some_iff.1 tp).1
    have lq := (List.getElem?_eq_some_iff.1 tq).1
    have lr := (List.getElem?_eq_some_iff.1 tr).1
    have sp := hsm p mp
    have sq := hsm q mq
    have sr := hsm r mr
    rw [← hA, ← hτ]
    repeat' (first | refine ff ?_ | ((first | refine sR ?_ ?_ | refine sC ?_ ?_) <;> (intro hb; (try rw [hb]); (try simp only [bb] at hb); (try (exfalso; first | omega | exact hb trivial)))) | (apply endS trivial; rotate_left; (· exact eva); (· rfl); try refine ⟨?_, rfl⟩) | fail)
    refine EvR.ixR (q := i) (c := n) (m := n) tb hl (by omega) rfl rfl hlt (Nat.le_refl _) ?_
    repeat' (first | refine ff ?_ | ((first | refine sR ?_ ?_ | refine sC ?_ ?_) <;> (intro hb; (try rw [hb]); (try simp only [bb] at hb); (try (exfalso; first | omega | exact hb trivial)))) | (apply endS trivial; rotate_left; (· exact eva); (· rfl); try refine ⟨?_, rfl⟩) | fail)
    refine EvR.ldo tb hl (by omega) rfl hc1 ?_
    repeat' (first | refine ff ?_ | ((first | refine sR ?_ ?_ | refine sC ?_ ?_) <;> (intro hb; (try rw [hb]); (try simp only [bb] at hb); (try (exfalso; first | omega | exact hb trivial)))) | (apply endS trivial; rotate_left; (· exact eva); (· rfl); try refine ⟨?_, rfl⟩) | fail)
    (apply EvR.aCall h1.at_; (· exact eva); (· exact  h1.ok.2 _ p.1 p.2 _ (by rw [List.getElem?_append_left lp]; exact tp) sp (by omega) (by omega)); (rintro _ _ ⟨rfl, rfl⟩; refine EvR.nrm ?_))
    obtain ⟨τ1, hτ1⟩ : ∃ s, s = τ.set p.1 (rowO (marks (k + tot A) p.2.length)) := ⟨_, rfl⟩
    rw [show List.set (τ ++ []) p.1 (rowO (marks (k + tot A) p.2.length)) = τ1 ++ [] from by rw [List.append_nil, List.append_nil, hτ1]]
    have tb1 : τ1[b]? = some ⟨R.map slOf, 3, true⟩ := by rw [hτ1, List.getElem?_set_ne (Ne.symm bp)]; exact tb
    have tq1 : τ1[q.1]? = some (rowO q.2) := by rw [hτ1, List.getElem?_set_ne pq]; exact tq
    have lq1 := (List.getElem?_eq_some_iff.1 tq1).1
    have tr1 : τ1[r.1]? = some (rowO r.2) := by rw [hτ1, List.getElem?_set_ne pr]; exact tr
    have lr1 := (List.getElem?_eq_some_iff.1 tr1).1
    repeat' (first | refine ff ?_ | ((first | refine sR ?_ ?_ | refine sC ?_ ?_) <;> (intro hb; (try rw [hb]); (try simp only [bb] at hb); (try (exfalso; first | omega | exact hb trivial)))) | (apply endS trivial; rotate_left; (· exact eva); (· rfl); try refine ⟨?_, rfl⟩) | fail)
    refine EvR.ixR (q := i) (c := n) (m := n) tb1 hl (by omega) rfl rfl hlt (Nat.le_refl _) ?_
    repeat' (first | refine ff ?_ | ((first | refine sR ?_ ?_ | refine sC ?_ ?_) <;> (intro hb; (try rw [hb]); (try simp only [bb] at hb); (try (exfalso; first | omega | exact hb trivial)))) | (apply endS trivial; rotate_left; (· exact eva); (· rfl); try refine ⟨?_, rfl⟩) | fail)
    refine EvR.ldo tb1 hl (by omega) rfl hc2 ?_
    repeat' (first | refine ff ?_ | ((first | refine sR ?_ ?_ | refine sC ?_ ?_) <;> (intro hb; (try rw [hb]); (try simp only [bb] at hb); (try (exfalso; first | omega | exact hb trivial)))) | (apply endS trivial; rotate_left; (· exact eva); (· rfl); try refine ⟨?_, rfl⟩) | fail)
    (apply EvR.aCall h1.at_; (· exact eva); (· exact  h1.ok.2 _ q.1 q.2 _ (by rw [List.getElem?_append_left lq1]; exact tq1) sq (by omega) (by omega)); (rintro _ _ ⟨rfl, rfl⟩; refine EvR.nrm ?_))
    obtain ⟨τ2, hτ2⟩ : ∃ s, s = τ1.set q.1 (rowO (marks (k + tot A + p.2.length) q.2.length)) := ⟨_, rfl⟩
    rw [show List.set (τ1 ++ []) q.1 (rowO (marks (k + tot A + p.2.length) q.2.length)) = τ2 ++ [] from by rw [List.append_nil, List.append_nil, hτ2]]
    have tb2 : τ2[b]? = some ⟨R.map slOf, 3, true⟩ := by rw [hτ2, List.getElem?_set_ne (Ne.symm bq)]; exact tb1
    have tr2 : τ2[r.1]? = some (rowO r.2) := by rw [hτ2, List.getElem?_set_ne qr]; exact tr1
    have lr2 := (List.getElem?_eq_some_iff.1 tr2).1
    repeat' (first | refine ff ?_ | ((first | refine sR ?_ ?_ | refine sC ?_ ?_) <;> (intro hb; (try rw [hb]); (try simp only [bb] at hb); (try (exfalso; first | omega | exact hb trivial)))) | (apply endS trivial; rotate_left; (· exact eva); (· rfl); try refine ⟨?_, rfl⟩) | fail)
    refine EvR.ixR (q := i) (c := n) (m := n) tb2 hl (by omega) rfl rfl hlt (Nat.le_refl _) ?_
    repeat' (first | refine ff ?_ | ((first | refine sR ?_ ?_ | refine sC ?_ ?_) <;> (intro hb; (try rw [hb]); (try simp only [bb] at hb); (try (exfalso; first | omega | exact hb trivial)))) | (apply endS trivial; rotate_left; (· exact eva); (· rfl); try refine ⟨?_, rfl⟩) | fail)
    refine EvR.ldo tb2 hl (by omega) rfl hc3 ?_
    repeat' (first | refine ff ?_ | ((first | refine sR ?_ ?_ | refine sC ?_ ?_) <;> (intro hb; (try rw [hb]); (try simp only [bb] at hb); (try (exfalso; first | omega | exact hb trivial)))) | (apply endS trivial; rotate_left; (· exact eva); (· rfl); try refine ⟨?_, rfl⟩) | fail)
    (apply EvR.aCall h1.at_; (· exact eva); (· exact  h1.ok.2 _ r.1 r.2 _ (by rw [List.getElem?_append_left lr2]; exact tr2) sr (by omega) (by omega)); (rintro _ _ ⟨rfl, rfl⟩; refine EvR.nrm ?_))
    obtain ⟨τ3, hτ3⟩ : ∃ s, s = τ2.set r.1 (rowO (marks (k + tot A + p.2.length + q.2.length) r.2.length)) := ⟨_, rfl⟩
    rw [show List.set (τ2 ++ []) r.1 (rowO (marks (k + tot A + p.2.length + q.2.length) r.2.length)) = τ3 ++ [] from by rw [List.append_nil, List.append_nil, hτ3]]
    repeat' (first | refine ff ?_ | ((first | refine sR ?_ ?_ | refine sC ?_ ?_) <;> (intro hb; (try rw [hb]); (try simp only [bb] at hb); (try (exfalso; first | omega | exact hb trivial)))) | (apply endS trivial; rotate_left; (· exact eva); (· rfl); try refine ⟨?_, rfl⟩) | fail)
    refine ⟨i + 1, by omega, ?_, ?_, by omega⟩
    · rw [ht3, ← hA, tot_app]
      simp only [tot, Nat.add_zero, Int.natCast_add, ← Int.add_assoc]
      exact tF
    · rw [ht3, ← hA, markH_app, ← hτ]
      simp only [markH]
      rw [hτ3, hτ2, hτ1]
  · obtain rfl : i = n := by omega
    rw [List.take_of_length_le (by omega)]
    repeat' (first | refine ff ?_ | ((first | refine sR ?_ ?_ | refine sC ?_ ?_) <;> (intro hb; (try rw [hb]); (try simp only [bb] at hb); (try (exfalso; first | omega | exact hb trivial)))) | (apply endS trivial; rotate_left; (· exact eva); (· rfl); try refine ⟨?_, rfl⟩) | fail)
    apply atEnd_ret
    · exact eva
    · exact ⟨rfl, List.append_nil _⟩

def laws_heldFieldS_ok (c : Contract) : Prop := (∀ (σ : Heap) (k : Int), Ret c [.slice none 0 0, .int .i64 k] σ fun v σ' => v = .int .i64 k ∧ σ' = σ) ∧
    ∀ (σ : Heap) (b n : Nat) (R : Rws) (k : Int), σ[b]? = some ⟨R.map slOf, 3, true⟩ → (∀ p ∈ markR k R, σ[p.1]? = some (rowO p.2)) → R.length = n * 3 → n ≤ 1048576 → smallR R → tot R ≤ 1000000000 → 0 ≤ k → k ≤ 1000000000 →
    Ret c [slV b n, .int .i64 k] σ fun v σ' => v = .int .i64 (k + tot R) ∧ σ' = σ
theorem laws_heldFieldS_law {C : Ctab} {i1 : FuncId} {c1 : Contract} (h1 : Has C i1 c1 laws_heldFloat32S_ok) : laws_heldFieldS_ok (gcC C (laws_heldFieldS i1) true) := by
  refine ⟨fun σ k => ?_, fun σ b n R k hb0 hown hR hn hsm ht k0 kk => ?_⟩
  · refine ret_gc rfl rfl ?_
    repeat' (first | refine ff ?_ | ((first | refine sR ?_ ?_ | refine sC ?_ ?_) <;> (intro hb; (try rw [hb]); (try simp only [bb] at hb); (try (exfalso; first | omega | exact hb trivial)))) | (apply endS trivial; rotate_left; (· exact eva); (· rfl); try refine ⟨?_, rfl⟩) | fail)
    refine Ev.whlC (S := Unit) (fun _ => 0) (fun _ => []) (fun _ => True) () (by rfl) trivial ?_
    rintro _ F hF _
    (simp only [List.cons_append, List.nil_append, ↓fget_cons, fkeep_cons, fkeep_nil, Nat.reduceEqDiff, reduceIte] at hF; subst hF)
    repeat' (first | refine ff ?_ | ((first | refine sR ?_ ?_ | refine sC ?_ ?_) <;> (intro hb; (try rw [hb]); (try simp only [bb] at hb); (try (exfalso; first | omega | exact hb trivial)))) | (apply endS trivial; rotate_left; (· exact eva); (· rfl); try refine ⟨?_, rfl⟩) | fail)
    all_goals (try rfl)
  have hl : (R.map slOf).length = n * 3 := by rw [List.length_map, hR]
  refine ret_gc rfl rfl ?_
  repeat' (first | refine ff ?_ | ((first | refine sR ?_ ?_ | refine sC ?_ ?_) <;> (intro hb; (try rw [hb]); (try simp only [bb] at hb); (try (exfalso; first | omega | exact hb trivial)))) | (apply endS trivial; rotate_left; (· exact eva); (· rfl); try refine ⟨?_, rfl⟩) | fail)
  refine Ev.whlC (S := Nat) (fun i => n - i) (fun i => [(1, .int .i64 (k + tot (R.take (i * 3)))), (5, .int .i64 i)]) (fun i => i ≤ n) 0 (by simp only [Nat.zero_mul, List.take_zero, tot, Int.natCast_zero, Int.add_zero]; exact tF) (Nat.zero_le _) ?_
  rintro i F hF hi
  (simp only [List.cons_append, List.nil_append, ↓fget_cons, fkeep_cons, fkeep_nil, Nat.reduceEqDiff, reduceIte] at hF; subst hF)
  by_cases hlt : i < n
  · obtain ⟨p, q, r, ht3, hc1, hc2, hc3, mp, mq, mr⟩ := take3 hR hlt
    have hsplit : R = R.take (i * 3) ++ ([p, q, r] ++ R.drop ((i + 1) * 3)) := by rw [← List.append_assoc, ← ht3, List.take_append_drop]
    obtain ⟨A, hA⟩ : ∃ A, A = R.take (i * 3) := ⟨_, rfl⟩
    have htot : tot A + (p.2.length + (q.2.length + r.2.length)) ≤ tot R := by
      rw [hsplit, ← hA, tot_app, tot_app]; simp only [tot]; omega
    rw [hsplit, ← hA, markR_app, markR_app] at hown
    simp only [markR] at hown
    have one : ∀ (p : Nat × List Nat) (k' : Int), σ[p.1]? = some (rowO (marks k' p.2.length)) → Row σ 1 (slOf p) p.2.length (f32s (marks k' p.2.length)) := fun p k' h => Row.whole h (by omega) (by rw [f32s_length, marks_length]; omega)
    have g1 := one p _ (hown (p.1, marks (k + tot A) p.2.length) (by simp))
    have g2 := one q _ (hown (q.1, marks (k + tot A + p.2.length) q.2.length) (by simp))
    have g3 := one r _ (hown (r.1, marks (k + tot A + p.2.length + q.2.length) r.2.length) (by simp))
    have sp := hsm p mp
    have sq := hsm q mq
    have sr := hsm r mr
    rw [← hA]
    repeat' (first | refine ff ?_ | ((first | refine sR ?_ ?_ | refine sC ?_ ?_) <;> (intro hb; (try rw [hb]); (try simp only [bb] at hb); (try (exfalso; first | omega | exact hb trivial)))) | (apply endS trivial; rotate_left; (· exact eva); (· rfl); try refine ⟨?_, rfl⟩) | fail)
    refine EvR.ixR (q := i) (c := n) (m := n) hb0 hl (by omega) rfl rfl hlt (Nat.le_refl _) ?_
    repeat' (first | refine ff ?_ | ((first | refine sR ?_ ?_ | refine sC ?_ ?_) <;> (intro hb; (try rw [hb]); (try simp only [bb] at hb); (try (exfalso; first | omega | exact hb trivial)))) | (apply endS trivial; rotate_left; (· exact eva); (· rfl); try refine ⟨?_, rfl⟩) | fail)
    refine EvR.ldo hb0 hl (by omega) rfl hc1 ?_
    repeat' (first | refine ff ?_ | ((first | refine sR ?_ ?_ | refine sC ?_ ?_) <;> (intro hb; (try rw [hb]); (try simp only [bb] at hb); (try (exfalso; first | omega | exact hb trivial)))) | (apply endS trivial; rotate_left; (· exact eva); (· rfl); try refine ⟨?_, rfl⟩) | fail)
    (apply EvR.aCall h1.at_; (· exact eva); (· exact  h1.ok _ (slOf p) p.2.length (k + tot A) (g1.ext _) sp (by omega) (by omega)); (rintro _ _ ⟨rfl, rfl⟩; refine EvR.nrm ?_))
    repeat' (first | refine ff ?_ | ((first | refine sR ?_ ?_ | refine sC ?_ ?_) <;> (intro hb; (try rw [hb]); (try simp only [bb] at hb); (try (exfalso; first | omega | exact hb trivial)))) | (apply endS trivial; rotate_left; (· exact eva); (· rfl); try refine ⟨?_, rfl⟩) | fail)
    refine EvR.ixR (q := i) (c := n) (m := n) hb0 hl (by omega) rfl rfl hlt (Nat.le_refl _) ?_
    repeat' (first | refine ff ?_ | ((first | refine sR ?_ ?_ | refine sC ?_ ?_) <;> (intro hb; (try rw [hb]); (try simp only [bb] at hb); (try (exfalso; first | omega | exact hb trivial)))) | (apply endS trivial; rotate_left; (· exact eva); (· rfl); try refine ⟨?_, rfl⟩) | fail)
    refine EvR.ldo hb0 hl (by omega) rfl hc2 ?_
    repeat' (first | refine ff ?_ | ((first | refine sR ?_ ?_ | refine sC ?_ ?_) <;> (intro hb; (try rw [hb]); (try simp only [bb] at hb); (try (exfalso; first | omega | exact hb trivial)))) | (apply endS trivial; rotate_left; (· exact eva); (· rfl); try refine ⟨?_, rfl⟩) | fail)
    (apply EvR.aCall h1.at_; (· exact eva); (· exact  h1.ok _ (slOf q) q.2.length (k + tot A + p.2.length) (g2.ext _) sq (by omega) (by omega)); (rintro _ _ ⟨rfl, rfl⟩; refine EvR.nrm ?_))
    repeat' (first | refine ff ?_ | ((first | refine sR ?_ ?_ | refine sC ?_ ?_) <;> (intro hb; (try rw [hb]); (try simp only [bb] at hb); (try (exfalso; first | omega | exact hb trivial)))) | (apply endS trivial; rotate_left; (· exact eva); (· rfl); try refine ⟨?_, rfl⟩) | fail)
    refine EvR.ixR (q := i) (c := n) (m := n) hb0 hl (by omega) rfl rfl hlt (Nat.le_refl _) ?_
    repeat' (first | refine ff ?_ | ((first | refine sR ?_ ?_ | refine sC ?_ ?_) <;> (intro hb; (try rw [hb]); (try simp only [bb] at hb); (try (exfalso; first | omega | exact hb trivial)))) | (apply endS trivial; rotate_left; (· exact eva); (· rfl); try refine ⟨?_, rfl⟩) | fail)
    refine EvR.ldo hb0 hl (by omega) rfl hc3 ?_
    repeat' (first | refine ff ?_ | ((first | refine sR ?_ ?_ | refine sC ?_ ?_) <;> (intro hb; (try rw [hb]); (try simp only [bb] at hb); (try (exfalso; first | omega | exact hb trivial)))) | (apply endS trivial; rotate_left; (· exact eva); (· rfl); try refine ⟨?_, rfl⟩) | fail)
    (apply EvR.aCall h1.at_; (· exact eva); (· exact  h1.ok _ (slOf r) r.2.length (k + tot A + p.2.length + q.2.length) (g3.ext _) sr (by omega) (by omega)); (rintro _ _ ⟨rfl, rfl⟩; refine EvR.nrm ?_))
    repeat' (first | refine ff ?_ | ((first | refine sR ?_ ?_ | refine sC ?_ ?_) <;> (intro hb; (try rw [hb]); (try simp only [bb] at hb); (try (exfalso; first | omega | exact hb trivial)))) | (apply endS trivial; rotate_left; (· exact eva); (· rfl); try refine ⟨?_, rfl⟩) | fail)
    refine ⟨i + 1, by omega, ?_, rfl, by omega⟩
    rw [ht3, ← hA, tot_app]
    simp only [tot, Nat.add_zero, Int.natCast_add, ← Int.add_assoc]
    exact tF
  · obtain rfl : i = n := by omega
    rw [List.take_of_length_le (by omega)]
    repeat' (first | refine ff ?_ | ((first | refine sR ?_ ?_ | refine sC ?_ ?_) <;> (intro hb; (try rw [hb]); (try simp only [bb] at hb); (try (exfalso; first | omega | exact hb trivial)))) | (apply endS trivial; rotate_left; (· exact eva); (· rfl); try refine ⟨?_, rfl⟩) | fail)
    all_goals (try rfl)
end Go.Abs

