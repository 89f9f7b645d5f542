/- Laws of functions: fields of films that are marked and held. Conditions: the laws of what they call. -/
import Derived.Test.YtogekdhkcndbdaaChangesL62
import Derived.Test.YtogekdhkcndbdaaChangesL07
namespace Go.Abs

set_option linter.unusedSimpArgs false
set_option linter.unusedVariables false
set_option maxHeartbeats 8000000
set_option maxRecDepth 20000
def markH : Heap → Int → Rws → Heap
  | σ, _, [] => σ
  | σ, k, p :: R => markH (σ.set p.1 (rowO (marks k p.2.length))) (k + p.2.length) R
theorem markH_out : ∀ {R : Rws} {σ : Heap} {k : Int} {o : Nat}, o ∉ R.map Prod.fst → (markH σ k R)[o]? = σ[o]?
  | [], σ, k, o, _ => rfl
  | p :: R, σ, k, o, h => by
    simp only [List.map_cons, List.mem_cons, not_or] at h
    unfold markH
    rw [markH_out h.2, List.getElem?_set_ne (Ne.symm h.1)]
/-- Marks elsewhere. -/
theorem RInv.other {H : Heap} {lo : Nat} {R S : Rws} (h : RInv H lo R) (hd : ∀ p ∈ R, p.1 ∉ S.map Prod.fst) (k : Int) : RInv (markH H k S) lo R :=
  ⟨fun p hp => by rw [markH_out (hd p hp)]; exact h.own p hp, h.low, h.nod⟩

section
variable {C : Ctab} {F : Frame} {τ l : Heap}
end

end Go.Abs

