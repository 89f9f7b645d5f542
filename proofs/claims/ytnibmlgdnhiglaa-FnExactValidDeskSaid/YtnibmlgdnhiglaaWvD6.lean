/- The abstract machine: loops that count, rows that stay. No condition beyond those written. -/
import Derived.Test.YtnibmlgdnhiglaaWvD5
namespace Go.Abs

/-- A loop that counts from i to N. -/
theorem Ev.forUp {C : Ctab} {K : List Nat} {a : SCode} {Q : Out → Frame → Heap → Prop} (F : Nat → Frame) (H : Nat → Heap) (p : Nat → Prop) (N : Nat) (i0 : Nat)
    (hstep : ∀ i, i < N → p i → Ev C a (F i) (H i) fun o F' σ' => match o with | .normal => fkeep K F' = F (i + 1) ∧ σ' = H (i + 1) ∧ p (i + 1) | o => Q o F' σ')
    (hend : p N → Ev C a (F N) (H N) fun o F' σ' => match o with | .normal => False | o => Q o F' σ')
    {F0 : Frame} {σ0 : Heap} (hF : fkeep K F0 = F i0) (hH : σ0 = H i0) (hi : i0 ≤ N) (hp : p i0) : Ev C (.loop (.kp K a)) F0 σ0 Q := by
  refine Ev.loop (fun n F' σ' => ∃ i, n = N - i ∧ i ≤ N ∧ fkeep K F' = F i ∧ σ' = H i ∧ p i) ?_ (N - i0) F0 σ0 ⟨i0, rfl, hi, hF, hH, hp⟩
  rintro n F' σ' ⟨i, rfl, hiN, hF', rfl, hp'⟩
  refine Ev.kp hF' ?_
  rcases Nat.lt_or_ge i N with hlt | hge
  · refine (hstep i hlt hp').mono fun o F2 σ2 h => ?_
    cases o with
    | normal => exact ⟨N - (i + 1), by omega, i + 1, rfl, hlt, h.1, h.2.1, h.2.2⟩
    | exit id => exact h
    | ret => exact h
  · have : i = N := by omega
    subst this
    refine (hend hp').mono fun o F2 σ2 h => ?_
    cases o with
    | normal => exact h.elim
    | exit id => exact h
    | ret => exact h

section
variable {σ : Heap} {e n : Nat} {v : Value} {cs : List Value}
theorem Row.idxE (h : Row σ e v n cs) (l : Heap) (k : IntKind) (j : Int) (h0 : 0 ≤ j) (h1 : j < n) : aIndexAddrS (σ ++ l) e v (.int k j) = some (elemP e v j.toNat) := (h.ext l).idx k h0 h1
theorem Row.loadFE {xs : List Nat} (h : Row σ 1 v n (f32s xs)) (l : Heap) (i : Nat) (h1 : i < n) : aLoad1 (σ ++ l) (elemP 1 v i) = some (.float .f32 (xs.getD i 0)) := (h.ext l).loadF h1
theorem Row.loadIE {xs : List Int} (h : Row σ 1 v n (i64s xs)) (l : Heap) (i : Nat) (h1 : i < n) : aLoad1 (σ ++ l) (elemP 1 v i) = some (.int .i64 (xs.getD i 0)) := (h.ext l).loadI h1
theorem Row.loadBE {xs : List Bool} (h : Row σ 1 v n (bools xs)) (l : Heap) (i : Nat) (h1 : i < n) : aLoad1 (σ ++ l) (elemP 1 v i) = some (.bool (xs.getD i false)) := (h.ext l).loadB h1
theorem Row.one (h : Row σ e v n cs) : v.cells = #[v] := cells_ok h.ok
end

/-! A row that an object of the known part is. -/
section
variable (σ l : Heap)
theorem rowAt_app (e i off cap : Nat) : rowAt (σ ++ l) e ⟨σ.length + i, off, none⟩ cap = (match l[i]? with | some obj => if obj.esz = e ∧ obj.cells.length = off + cap * e ∧ e ≠ 0 then some obj else none | none => none) := by
  unfold rowAt
  rw [hget]
  cases l[i]? with
  | none => rfl
  | some obj => simp [nat_beq, and_assoc]
theorem idx_app (e i off len cap : Nat) (k : IntKind) (j : Int) {cells : List Value} {r : Bool} (h : l[i]? = some ⟨cells, e, r⟩) (hc : cells.length = off + cap * e) (he : e ≠ 0) (h0 : 0 ≤ j) (h1 : j < len) (h2 : len ≤ cap) :
    aIndexAddrS (σ ++ l) e (.slice (some ⟨σ.length + i, off, none⟩) len cap) (.int k j) = some (.pointer (some ⟨σ.length + i, off + j.toNat * e, some (off + cap * e)⟩)) := by
  simp only [aIndexAddrS, rowAt_app, h]
  simp only [hc, he, ne_eq, not_false_eq_true, and_self, if_true]
  rw [if_pos ⟨h0, h1, h2⟩]
theorem load1_elem (i off c : Nat) {cells : List Value} {e : Nat} {r : Bool} (h : l[i]? = some ⟨cells, e, r⟩) (hc : cells.length = c) (he : e ≠ 0) : aLoad1 (σ ++ l) (.pointer (some ⟨σ.length + i, off, some c⟩)) = cells[off]? := by
  simp only [aLoad1, hget, h]
  simp [ptrOk, nat_beq, hc, he]
theorem store1_elem (i off c : Nat) (v : Value) {cells : List Value} {e : Nat} (h : l[i]? = some ⟨cells, e, true⟩) (hc : cells.length = c) (he : e ≠ 0) (ho : off < c) (hv : cellOk v = true) :
    aStore (σ ++ l) 1 (.pointer (some ⟨σ.length + i, off, some c⟩)) v = some (undef, σ ++ l.set i ⟨cells.set off v, e, true⟩).2 := by
  have hs : (σ ++ l).set (σ.length + i) ⟨cells.set off v, e, true⟩ = σ ++ l.set i ⟨cells.set off v, e, true⟩ := by
    rw [List.set_append_right _ _ (by omega)]; congr 2; omega
  have hsp : splice cells off [v] = cells.set off v := by
    unfold splice
    rw [List.set_eq_take_append_cons_drop, if_pos (by omega)]
    simp
  simp only [aStore, hget, h, cells_one hv, hsp, hs]
  have : cells.length = c := hc
  simp [ptrOk, nat_beq, hc, he, hv]
  omega
end

end Go.Abs
