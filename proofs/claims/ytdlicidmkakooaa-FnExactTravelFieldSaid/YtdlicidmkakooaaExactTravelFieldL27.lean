/- Laws of functions, some texts put together. Conditions: the laws of what they call. -/
import Derived.Test.YtdlicidmkakooaaExactTravelFieldL26
import Derived.Test.YtdlicidmkakooaaExactTravelFieldL63
import Derived.Test.YtdlicidmkakooaaExactTravelFieldL30
namespace Go.Abs

set_option linter.unusedSimpArgs false
set_option linter.unusedVariables false
set_option maxHeartbeats 8000000


section
variable {C : Ctab} {F : Frame} {τ l : Heap}
end

/-- A field and whether it is one, as results. -/
def flRes (ok : Bool) (b : Nat) (e x y : List Nat) : Value := if ok = true then .tuple #[fV (slV b e.length) (slV (b + 1) x.length) (slV (b + 2) y.length), .bool true] else .tuple #[noField, .bool false]
def flRows (ok : Bool) (e x y : List Nat) : Heap := if ok = true then [rowO e, rowO x, rowO y] else []
theorem flRes_f (b : Nat) (e x y : List Nat) : flRes false b e x y = .tuple #[noField, .bool false] := rfl
theorem flRows_f (e x y : List Nat) : flRows false e x y = [] := rfl
theorem flRes_t (b : Nat) (e x y : List Nat) : flRes true b e x y = .tuple #[fV (slV b e.length) (slV (b + 1) x.length) (slV (b + 2) y.length), .bool true] := rfl
theorem flRows_t (e x y : List Nat) : flRows true e x y = [rowO e, rowO x, rowO y] := rfl
end Go.Abs


namespace Go.Abs

set_option linter.unusedSimpArgs false
set_option linter.unusedVariables false
set_option maxHeartbeats 8000000
set_option maxRecDepth 20000


/-- The place of an element of a row. -/
def PtE (σ : Heap) (b o c : Nat) (cs : List Value) : Prop := ∃ cells e r, σ[b]? = some (⟨cells, e, r⟩ : AObj) ∧ e ≠ 0 ∧ cells.length = c ∧ (cells.drop o).take cs.length = cs
theorem PtE.ext {σ : Heap} {b o c : Nat} {cs : List Value} (h : PtE σ b o c cs) (t : Heap) : PtE (σ ++ t) b o c cs := by
  obtain ⟨cells, e, r, h1, h2⟩ := h
  exact ⟨cells, e, r, by rw [List.getElem?_append_left (List.getElem?_eq_some_iff.1 h1).1]; exact h1, h2⟩
theorem PtE.load1R {σ : Heap} {b o c k : Nat} {cs : List Value} {l : Heap} (h : PtE σ b o c cs) (hk : k < cs.length) : aLoad1 (σ ++ l) (.pointer (some ⟨b, o + k, some c⟩)) = cs[k]? := by
  obtain ⟨cells, e, r, h1, h2, h3, h4⟩ := h.ext l
  rw [load1_obj h1 h3 h2, ← h4, List.getElem?_take, if_pos hk, List.getElem?_drop]
theorem PtE.loadNR {σ : Heap} {b o c n : Nat} {cs : List Value} {l : Heap} (h : PtE σ b o c cs) (hk : cs.length = n) (hn : 0 < n) : aLoadN (σ ++ l) n (.pointer (some ⟨b, o, some c⟩)) = some (.agg cs.toArray) := by
  obtain ⟨cells, e, r, h1, h2, h3, h4⟩ := h.ext l
  subst hk
  have hlen : o + cs.length ≤ cells.length := by
    have := congrArg List.length h4
    rw [List.length_take, List.length_drop] at this
    omega
  simp only [aLoadN, h1]
  rw [if_pos (by simp [ptrOk, h3, h2]; exact ⟨by cases e with | zero => exact absurd rfl h2 | succ n => rfl, by omega⟩), h4]
attribute [push_cast] PtE.load1R PtE.loadNR
theorem PtAt.first {σ : Heap} {b o : Nat} {cs ds : List Value} (h : PtAt σ b o (cs ++ ds)) : PtAt σ b o cs := by
  obtain ⟨cells, r, h1, h2⟩ := h
  refine ⟨cells, r, h1, ?_⟩
  have := congrArg (List.take cs.length) h2
  rw [List.take_take, List.take_left] at this
  have hl := congrArg List.length h2
  rw [List.length_take, List.length_append, List.length_drop] at hl
  rw [← this]
  congr 1
  rw [List.length_append]
  simp only [List.length_take, List.length_drop]
  omega
end Go.Abs


namespace Go.Abs

set_option linter.unusedSimpArgs false
set_option linter.unusedVariables false
set_option maxHeartbeats 8000000
set_option maxRecDepth 20000
theorem FlsC.drop {σ : Heap} : ∀ {fs : List Fld} {cs : List Value} (a : Nat), FlsC σ fs cs → FlsC σ (fs.drop a) (cs.drop (a * 3))
  | fs, cs, 0, h => by simpa using h
  | [], [], a + 1, h => by simp; trivial
  | f :: fs, u :: v :: w :: cs, a + 1, h => by
    rw [show (a + 1) * 3 = a * 3 + 3 by omega]
    exact FlsC.drop a h.2
  | [], _ :: _, _, h => False.elim h
  | _ :: _, [], _ + 1, h => False.elim h
  | _ :: _, [_], _ + 1, h => False.elim h
  | _ :: _, [_, _], _ + 1, h => False.elim h
theorem FlsC.take {σ : Heap} : ∀ {fs : List Fld} {cs : List Value} (k : Nat), FlsC σ fs cs → FlsC σ (fs.take k) (cs.take (k * 3))
  | fs, cs, 0, h => by simp; trivial
  | [], [], k + 1, h => by simp; trivial
  | f :: fs, u :: v :: w :: cs, k + 1, h => by
    rw [show (k + 1) * 3 = k * 3 + 3 by omega]
    exact ⟨h.1, FlsC.take k h.2⟩
  | [], _ :: _, _, h => False.elim h
  | _ :: _, [], _ + 1, h => False.elim h
  | _ :: _, [_], _ + 1, h => False.elim h
  | _ :: _, [_, _], _ + 1, h => False.elim h
section
variable {C : Ctab} {F : Frame} {τ l : Heap}
end
end Go.Abs

