/- The abstract machine: calls and ends in the calculus. No condition beyond those written. -/
import Derived.Test.YtnibmlgdnhiglaaWvD4
namespace Go.Abs

/-- Quiet, where it is to be. -/
def QuietTo (q : Bool) (σ σ' : Heap) : Prop := q = true → ∃ τ, σ' = σ ++ τ

theorem ret_gc {C : Ctab} {S : SFunc} {args : List Value} {σ : Heap} {Q : Value → Heap → Prop} {q : Bool} {n : Nat} {rs : List SRes} {body : SCode} (hS : S = ⟨n, rs, body⟩) (hn : Nat.ble args.length n = true)
    (h : Ev C body (argFrame 0 args) (σ ++ []) (atEnd rs fun v0 σ0 => ∃ v ids σ', gcTop σ.length v0 = some (v, ids) ∧ Cleared σ σ0 ids σ' ∧ QuietTo q σ σ' ∧ Q v σ')) : Ret (gcC C S q) args σ Q := by
  subst hS
  rw [List.append_nil] at h
  exact ret_of_ev_gc (Nat.le_of_ble_eq_true hn) h

theorem end_scalar {σ τ : Heap} {v0 : Value} {q : Bool} {Q : Value → Heap → Prop} (h : gcTop σ.length v0 = some (v0, [])) (hq : Q v0 σ) :
    ∃ v ids σ', gcTop σ.length v0 = some (v, ids) ∧ Cleared σ (σ ++ τ) ids σ' ∧ QuietTo q σ σ' ∧ Q v σ' :=
  ⟨v0, [], σ, h, Cleared.none_, fun _ => ⟨[], by simp⟩, hq⟩

theorem end_rows {σ τ : Heap} (objs : Heap) (ids : List Nat) {v0 v : Value} {q : Bool} {Q : Value → Heap → Prop} (h : gcTop σ.length v0 = some (v, ids.map (fun i => σ.length + i)))
    (h1 : ids.map (fun i => τ[i]?) = objs.map some) (h2 : ids.Nodup) (h3 : objs.all allConst = true) (hq : Q v (σ ++ objs)) :
    ∃ v ids σ', gcTop σ.length v0 = some (v, ids) ∧ Cleared σ (σ ++ τ) ids σ' ∧ QuietTo q σ σ' ∧ Q v σ' :=
  ⟨v, _, _, h, Cleared.some_ h1 h2 h3, fun _ => ⟨objs, rfl⟩, hq⟩

theorem resOf_one (F : Frame) (σ : Heap) (r : SRes) : resOf F σ [r] = resVal F σ r := rfl
theorem resOf_nil (F : Frame) (σ : Heap) : resOf F σ [] = some (.tuple #[]) := rfl
theorem resOf_more (F : Frame) (σ : Heap) (r s : SRes) (rs : List SRes) : resOf F σ (r :: s :: rs) = (resVals F σ (r :: s :: rs)).map fun vs => .tuple vs.toArray := rfl
theorem Ev.retE {C : Ctab} {F : Frame} {σ : Heap} {rs : List SRes} {Q : Value → Heap → Prop} {v : Value} (h : resOf F σ rs = some v) (hq : Q v σ) : Ev C .ret F σ (atEnd rs Q) := Ev.ret ⟨v, h, hq⟩

theorem atEnd_ret {F : Frame} {σ : Heap} {rs : List SRes} {Q : Value → Heap → Prop} {v : Value} (h : resOf F σ rs = some v) (hq : Q v σ) : atEnd rs Q .ret F σ := ⟨v, h, hq⟩
theorem atEnd_normal {F : Frame} {σ : Heap} {rs : List SRes} {Q : Value → Heap → Prop} {v : Value} (h : resOf F σ rs = some v) (hq : Q v σ) : atEnd rs Q .normal F σ := ⟨v, h, hq⟩

section
variable {C : Ctab} {F : Frame} {σ : Heap}

/-- A call of a named function by its law. -/
theorem EvR.callF {Q} {d : Option Nat} {g : FuncId} {args : List Operand} {n : Nat} {rest : List SOper} {c : Contract} {R : Value → Heap → Prop} (hg : C g = some c) {as : List Value} (ha : args.map (eval F) = as)
    (hr : Ret c as σ R) {F' : Value → Frame} (hF : ∀ v, fput F d v = F' v) (h : ∀ v σ', R v σ' → EvR C rest (F' v) σ' Q) : EvR C (⟨d, none, .call (.func g) args, n⟩ :: rest) F σ Q := by
  subst ha
  unfold Ret at hr
  obtain ⟨v, σ', h1, h2⟩ := hr
  refine EvR.op (v := v) (σ' := σ') ?_ (hF v) (h v σ' h2)
  simp [evOp, eval_func, aCall, hg, h1]

/-- The same, its guard met. -/
theorem EvR.callFT {Q} {d : Option Nat} {g : FuncId} {args : List Operand} {n t : Nat} {want b : Bool} {rest : List SOper} {c : Contract} {R : Value → Heap → Prop} (h0 : fget F t = .bool b) (hb : (b == want) = true) (hg : C g = some c) {as : List Value} (ha : args.map (eval F) = as)
    (hr : Ret c as σ R) {F' : Value → Frame} (hF : ∀ v, fput F d v = F' v) (h : ∀ v σ', R v σ' → EvR C rest (F' v) σ' Q) : EvR C (⟨d, some (t, want), .call (.func g) args, n⟩ :: rest) F σ Q := by
  subst ha
  unfold Ret at hr
  obtain ⟨v, σ', h1, h2⟩ := hr
  refine EvR.opT (v := v) (σ' := σ') h0 hb ?_ (hF v) (h v σ' h2)
  simp [evOp, eval_func, aCall, hg, h1]

end

/-- A variable among old objects. -/
theorem load1_at {σ : Heap} {b : Nat} {cells : List Value} {r : Bool} (h : σ[b]? = some ⟨cells, 0, r⟩) (l : Heap) (off : Nat) : aLoad1 (σ ++ l) (.pointer (some ⟨b, off, none⟩)) = cells[off]? := by
  have hb : b < σ.length := (List.getElem?_eq_some_iff.1 h).1
  simp only [aLoad1]
  rw [List.getElem?_append_left hb, h]
  simp [ptrOk]
theorem loadN_at {σ : Heap} {b : Nat} {cells : List Value} {r : Bool} (h : σ[b]? = some ⟨cells, 0, r⟩) (l : Heap) (n off : Nat) (hn : off + n ≤ cells.length) : aLoadN (σ ++ l) n (.pointer (some ⟨b, off, none⟩)) = some (.agg ((cells.drop off).take n).toArray) := by
  have hb : b < σ.length := (List.getElem?_eq_some_iff.1 h).1
  simp only [aLoadN]
  rw [List.getElem?_append_left hb, h]
  simp [ptrOk, hn]

end Go.Abs
