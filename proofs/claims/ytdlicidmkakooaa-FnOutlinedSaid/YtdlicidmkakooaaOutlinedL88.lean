/- Laws of functions, some texts put together. Conditions: the laws of what they call. -/
import Derived.Test.YtdlicidmkakooaaOutlinedL36
import Derived.Test.YtdlicidmkakooaaOutlinedL57
import Derived.Test.YtdlicidmkakooaaOutlinedL71
import Derived.Test.YtdlicidmkakooaaOutlinedL16
namespace Go.Abs

set_option linter.unusedSimpArgs false
set_option linter.unusedVariables false
set_option maxHeartbeats 8000000
set_option maxRecDepth 20000
def SameNumberN_ok (c : Contract) : Prop := ∀ (σ : Heap) (a b : Nat), a < 4294967296 → b < 4294967296 → Ret c [.float .f32 a, .float .f32 b] σ fun v σ' => v = .bool (decide (bitsC a = bitsC b)) ∧ σ' = σ
abbrev spec_l01SameN_ok := SameNumberN_ok
theorem spec_l01SameN_law {C : Ctab} {i : FuncId} {c : Contract} (h1 : Has C i c spec_l01BitsN_ok) : spec_l01SameN_ok (gcC C (spec_l01Same i) true) := by
  intro σ a b ha hb
  refine ret_gc rfl rfl ?_
  repeat' (first | refine ff ?_ | (apply EvR.aCall h1.at_; (· exact eva); (· apply h1.ok <;> exact sid); (rintro _ _ ⟨rfl, rfl⟩; refine EvR.nrm ?_)) | ((first | refine sR ?_ ?_ | refine sC ?_ ?_) <;> (intro hb; (try rw [hb]); (try simp only [bb] at hb); (try (exfalso; first | omega | exact hb trivial)))) | (apply endS trivial; rotate_left; (· exact eva); (· rfl); try refine ⟨?_, rfl⟩) | fail)
  rw [decide_eq_decide.2 (Int.ofNat_inj (m := bitsC a) (n := bitsC b))]

def in32N (xs : List Nat) : Prop := ∀ i, xs.getD i 0 < 4294967296
def lowF1 (f : Fld) : Prop := in32N f.e ∧ in32N f.x ∧ in32N f.y
end Go.Abs


namespace Go.Abs

set_option linter.unusedSimpArgs false
set_option linter.unusedVariables false
set_option maxHeartbeats 8000000
set_option maxRecDepth 20000
theorem Ev.base {C : Ctab} {F : Frame} {Q} {code : SCode} {H : Heap} (h : ∀ S, S = H → Ev C code F (S ++ []) Q) : Ev C code F H Q := by
  have := h H rfl
  rwa [List.append_nil] at this
end Go.Abs

