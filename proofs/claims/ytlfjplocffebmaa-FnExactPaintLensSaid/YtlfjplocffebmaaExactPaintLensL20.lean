/- Law of a row's function: half planes. Conditions: the laws of what it calls. -/
import Derived.Test.YtlfjplocffebmaaExactPaintLensL19
import Derived.Test.YtlfjplocffebmaaExactPaintLensL14
import Derived.Test.YtlfjplocffebmaaExactPaintLensL08
namespace Go.Abs

set_option linter.unusedSimpArgs false
set_option linter.unusedVariables false
set_option maxHeartbeats 8000000
theorem mark_nm {c : Contract} (hk : laws_markSheet_ok c) (σ : Heap) (w h : Int) (wr : Bool) (bs bl : Nat) (sp lo : List Nat) (k : Int) (n m : Nat) (hn : sp.length = n) (hm : lo.length = m) (hne : bs ≠ bl) (hs : σ[bs]? = some (rowO sp)) (hl : σ[bl]? = some (rowO lo)) (hn1 : sp.length ≤ 1048576) (hn2 : lo.length ≤ 1048576) (k0 : 0 ≤ k) (k1 : k ≤ 1000000000) :
    Ret c [shV w h wr (slV bs n) (slV bl m), .int .i64 k] σ fun v σ' => v = .int .i64 (k + n + m) ∧ σ' = (σ.set bs (rowO (marks k n))).set bl (rowO (marks (k + n) m)) := by
  subst hn hm; exact hk.2 σ w h wr bs bl sp lo k hne hs hl hn1 hn2 k0 k1
end Go.Abs

