/- Laws of functions: strips are put into fields by the program. Conditions: the laws of what they call. -/
import Derived.Test.YtdlicidmkakooaaOutlinedL26
namespace Go.Abs

set_option linter.unusedSimpArgs false
set_option linter.unusedVariables false
set_option maxHeartbeats 8000000


section
variable {C : Ctab} {F : Frame} {τ l : Heap}
theorem EvR.slo {Q} {d k n at_ b : Nat} {rest : List SOper} {x y : Operand} {cells : List Value} {r : Bool} (h2 : τ[b]? = some ⟨cells, 1, r⟩) (hl : cells.length = n) (hat : at_ ≤ n) (h1 : eval F x = .slice (some ⟨b, 0, none⟩) n n) (h3 : eval F y = .int .i64 (at_ : Nat))
    (h : EvR C rest ((d, .slice (some ⟨b, at_, none⟩) (n - at_) (n - at_)) :: F) (τ ++ l) Q) : EvR C (⟨some d, none, .sliceSl 1 x (some y) none, k⟩ :: rest) F (τ ++ l) Q := by
  refine EvR.opS (evL_ok ?_) h
  have hlt := (List.getElem?_eq_some_iff.1 h2).1
  have e : (τ ++ l)[b]? = some ⟨cells, 1, r⟩ := by rw [List.getElem?_append_left hlt]; exact h2
  have e2 : rowAt (τ ++ l) 1 ⟨b, 0, none⟩ n = some ⟨cells, 1, r⟩ := by simp [rowAt, e, hl]
  simp only [evL, h1, Option.map_some, Option.map_none, h3, aSliceSl, e2, idx]
  rw [if_pos (by omega)]
  have g1 : 0 + (at_ : Int).toNat * 1 = at_ := by omega
  have g2 : ((n : Int) - (at_ : Int)).toNat = n - at_ := by omega
  have g3 : n - (at_ : Int).toNat = n - at_ := by omega
  rw [g1, g2, g3]
end

/-- A field and whether it is one, as results. -/
def flRes (ok : Bool) (b : Nat) (e x y : List Nat) : Value := if ok = true then .tuple #[fV (slV b e.length) (slV (b + 1) x.length) (slV (b + 2) y.length), .bool true] else .tuple #[noField, .bool false]
def flRows (ok : Bool) (e x y : List Nat) : Heap := if ok = true then [rowO e, rowO x, rowO y] else []
theorem flRes_f (b : Nat) (e x y : List Nat) : flRes false b e x y = .tuple #[noField, .bool false] := rfl
theorem flRows_f (e x y : List Nat) : flRows false e x y = [] := rfl
theorem flRes_t (b : Nat) (e x y : List Nat) : flRes true b e x y = .tuple #[fV (slV b e.length) (slV (b + 1) x.length) (slV (b + 2) y.length), .bool true] := rfl
theorem flRows_t (e x y : List Nat) : flRows true e x y = [rowO e, rowO x, rowO y] := rfl
theorem isField_len {w h : Int} {wr : Bool} {sp lo e x y : List Nat} (h1 : isField w h wr sp lo e x y = true) : isSheet w h sp lo = true ∧ (e.length : Int) = w * h ∧ (x.length : Int) = w * h ∧ (y.length : Int) = w * h := by
  simp only [isField, Bool.and_eq_true] at h1
  obtain ⟨hs, hf⟩ := h1
  obtain ⟨a1, a2, a3, a4, q1, q2⟩ := isSheet_sides hs
  obtain ⟨W, rfl⟩ := Int.eq_ofNat_of_zero_le (show 0 ≤ w by omega)
  obtain ⟨H, rfl⟩ := Int.eq_ofNat_of_zero_le (show 0 ≤ h by omega)
  have hWH : ((W * H : Nat) : Int) = (W : Int) * (H : Int) := Int.natCast_mul _ _
  refine ⟨hs, ?_⟩
  by_cases hl : e.length = W * H ∧ x.length = W * H ∧ y.length = W * H
  · omega
  · have := fits_len (wr := wr) hl
    rw [Int.toNat_natCast, Int.toNat_natCast, this] at hf
    cases hf
end Go.Abs

