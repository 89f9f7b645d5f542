/- Laws of functions: fields of films that are copied and compared. Conditions: the laws of what they call. -/
import Derived.Test.YtaacdckenhnocaaExactLoadSheetL61
import Derived.Test.YtaacdckenhnocaaExactLoadSheetL26
namespace Go.Abs

set_option linter.unusedSimpArgs false
set_option linter.unusedVariables false
set_option maxHeartbeats 8000000
set_option maxRecDepth 20000
/-! ### Rows that are owned: places and what lies there -/
abbrev Rws := List (Nat × List Nat)
def slOf (p : Nat × List Nat) : Value := slV p.1 p.2.length
/-- Rows at places from lo on, no two at one place. -/
structure RInv (H : Heap) (lo : Nat) (R : Rws) : Prop where
  own : ∀ p ∈ R, H[p.1]? = some (rowO p.2)
  low : ∀ p ∈ R, lo ≤ p.1
  nod : (R.map Prod.fst).Nodup
theorem RInv.nil (H : Heap) (lo : Nat) : RInv H lo [] := ⟨fun p hp => by simp at hp, fun p hp => by simp at hp, by simp⟩
theorem RInv.lt {H : Heap} {lo : Nat} {R : Rws} (h : RInv H lo R) {p : Nat × List Nat} (hp : p ∈ R) : p.1 < H.length := (List.getElem?_eq_some_iff.1 (h.own p hp)).1
theorem RInv.ext {H : Heap} {lo : Nat} {R : Rws} (h : RInv H lo R) (t : Heap) : RInv (H ++ t) lo R :=
  ⟨fun p hp => by rw [List.getElem?_append_left (h.lt hp)]; exact h.own p hp, h.low, h.nod⟩
/-- Fields whose rows are owned. -/
structure FlsO (H : Heap) (lo b : Nat) (R : Rws) (fs : List Fld) : Prop where
  row : H[b]? = some ⟨R.map slOf, 3, true⟩
  inv : RInv H lo R
  con : R.map Prod.snd = rowsOf fs
  bl : lo ≤ b
  bn : b ∉ R.map Prod.fst
theorem FlsO.len {H : Heap} {lo b : Nat} {R : Rws} {fs : List Fld} (h : FlsO H lo b R fs) : R.length = fs.length * 3 := by
  rw [← rowsOf_length, ← h.con, List.length_map]
theorem FlsO.ext {H : Heap} {lo b : Nat} {R : Rws} {fs : List Fld} (h : FlsO H lo b R fs) (t : Heap) : FlsO (H ++ t) lo b R fs :=
  ⟨by rw [List.getElem?_append_left (List.getElem?_eq_some_iff.1 h.row).1]; exact h.row, h.inv.ext t, h.con, h.bl, h.bn⟩
end Go.Abs

