/- Contracts of functions that the model itself has: a float64 of bits, the root. Condition: the function is that one. -/
import Derived.Test.YtdlicidmkakooaaExactTravelFieldWvMF
namespace Go.Abs

def gFrom64 : List Value → Option Value
  | [.int .u64 n] => some (.float .f64 n.toNat)
  | _ => none
def gSqrt64 : List Value → Option Value
  | [.float .f64 b] => some (.float .f64 ((Ieee.double.sqrt b).getD (nanOf .f64)))
  | _ => none
/-- A function without a body that only computes, and may ask which NaN is meant. -/
theorem simOk_pureD {P : Program} {f : FuncId} {g : List Value → Option Value} {e : Array Value → Sem Value}
    (hcall : ∀ args w, (callFunc f args).run P w = ((e args).run P w).andThen fun v w' => .ok (.value v) w')
    (hg : ∀ args v, g args = some v → ∀ (β : Inj) (σ : Heap) (w : World) (cargs : Array Value), LRel β σ args cargs.toList → ∃ c w', (e cargs).run P w = .ok c w' ∧ VRel β σ v c ∧ Drew w w') : SimOk P f (pureC g) := by
  refine ⟨fun args σ v σ' h β w cargs hok ha => ?_, fun _ args σ v σ' h => ?_⟩
  · obtain ⟨h1, rfl⟩ := map_pair h
    obtain ⟨c, w', h2, h3, h4⟩ := hg _ _ h1 β _ w cargs ha
    exact Does.pure_ hok (by rw [hcall, h2]; rfl) h3 h4
  · obtain ⟨_, rfl⟩ := map_pair h
    exact ⟨[], by simp⟩
theorem sim_from64 {P : Program} {f : FuncId} (hcall : ∀ args w, (callFunc f args).run P w = ((Extern.MathFloatBits.float64frombits args).run P w).andThen fun v w' => .ok (.value v) w') : SimOk P f (pureC gFrom64) := by
  refine simOk_pure hcall fun args v h β σ w cargs ha => ?_
  unfold gFrom64 at h
  split at h
  · cases h
    obtain ⟨c, rfl, hc⟩ := lrel_one ha
    cases hc with
    | int => exact ⟨_, rfl, .float (.inl rfl)⟩
  · cases h
theorem sqrt_nan {b : Nat} (h : isNaN .f64 b = true) : Ieee.double.sqrt b = none := by
  unfold isNaN FloatKind.decode at h
  have h2 : (Ieee.double.read b).isNaN = true := h
  unfold Ieee.Format.sqrt
  cases hd : Ieee.double.read b with
  | nan s t => rfl
  | infinity s => rw [hd] at h2; cases h2
  | number s m e => rw [hd] at h2; cases h2
theorem sim_sqrt64 {P : Program} {f : FuncId} (hcall : ∀ args w, (callFunc f args).run P w = ((Extern.MathSqrt.sqrt args).run P w).andThen fun v w' => .ok (.value v) w') : SimOk P f (pureC gSqrt64) := by
  refine simOk_pureD hcall fun args v h β σ w cargs ha => ?_
  unfold gSqrt64 at h
  split at h
  · rename_i b
    cases h
    obtain ⟨c, rfl, hc⟩ := lrel_one ha
    cases hc with
    | @float _ _ b' hr =>
      have hsq : Ieee.double.sqrt b = Ieee.double.sqrt b' := by
        rcases hr with rfl | ⟨h1, h2⟩
        · rfl
        · rw [sqrt_nan h1, sqrt_nan h2]
      have he : Extern.MathSqrt.sqrt #[.float .f64 b'] = (match FloatKind.f64.format.sqrt b' with | some r => (pure (.float .f64 r) : Sem Value) | none => do pure (.float .f64 (← choose (.nanBits .f64 b' b')))) := rfl
      cases hb : Ieee.double.sqrt b' with
      | some r =>
        have hb' : FloatKind.f64.format.sqrt b' = some r := hb
        exact ⟨.float .f64 r, w, by rw [he, hb']; rfl, .float (.inl (by rw [hsq, hb]; rfl)), .inl rfl⟩
      | none =>
        have hb' : FloatKind.f64.format.sqrt b' = none := hb
        exact ⟨.float .f64 ((Question.nanBits .f64 b' b').cut (w.tape w.drawn (.nanBits .f64 b' b'))), w.drew, by rw [he, hb']; simp [Question.forced], .float (.inr ⟨by rw [hsq, hb]; exact isNaN_nanOf _, cut_nan _ _ _ _⟩), .inr rfl⟩
  · cases h
theorem ret_from64 (n : Int) (σ : Heap) : Ret (pureC gFrom64) [.int .u64 n] σ fun v σ' => v = .float .f64 n.toNat ∧ σ' = σ := by
  unfold Ret
  exact ⟨_, _, rfl, rfl, rfl⟩
theorem ret_sqrt64 (b : Nat) (σ : Heap) : Ret (pureC gSqrt64) [.float .f64 b] σ fun v σ' => v = .float .f64 ((Ieee.double.sqrt b).getD (nanOf .f64)) ∧ σ' = σ := by
  unfold Ret
  exact ⟨_, _, rfl, rfl, rfl⟩
end Go.Abs

