/- The row FnExactIsPaint: it returns true whatever its arguments, and leaves them. No condition. -/
import Derived.Test.YtnibmlgdnhiglaaRows
import Derived.Test.YtnibmlgdnhiglaaWvL01
import Derived.ProofKit
namespace Go.Proofs.Ytnibmlgdnhiglaa.laws_FnExactIsPaint
open Go.Abs Go.ChangeShapes Go.WideShapes Go.ChangeAt Go.RowKit
set_option maxRecDepth 100000
theorem own : ownKnob Try.prog.godebug = none := by kernel_rfl
theorem laidOut : laidOutB Try.prog = true := by kernel_rfl
theorem mixed : Try.prog.follows .mixedOrders = true := by kernel_rfl
noncomputable def con_laws_toPaint : Contract := gcC cnil laws_toPaint true
theorem sim_laws_toPaint : SimOk Try.prog 15 con_laws_toPaint := simOk_gc mixed (ctab_nil _) true Try.func15 Try.call15 (by kernel_rfl)
theorem law_laws_toPaint : laws_toPaint_ok con_laws_toPaint := laws_toPaint_law 
noncomputable def con_spec_l05Share : Contract := gcC cnil spec_l05Share true
theorem sim_spec_l05Share : SimOk Try.prog 76 con_spec_l05Share := simOk_gc mixed (ctab_nil _) true Try.func76 Try.call76 (by kernel_rfl)
theorem law_spec_l05Share : spec_l05Share_ok con_spec_l05Share := spec_l05Share_law 
noncomputable def con_spec_l09Is : Contract := gcC (cadd 76 con_spec_l05Share cnil) (spec_l09Is 76) true
theorem sim_spec_l09Is : SimOk Try.prog 55 con_spec_l09Is := simOk_gc mixed (ctab_add sim_spec_l05Share (ctab_nil _)) true Try.func55 Try.call55 (by kernel_rfl)
theorem law_spec_l09Is : spec_l09Is_ok con_spec_l09Is := spec_l09Is_law rfl law_spec_l05Share
noncomputable def con_spec_IsPaint : Contract := gcC (cadd 55 con_spec_l09Is cnil) (spec_IsPaint 55) true
theorem sim_spec_IsPaint : SimOk Try.prog 14 con_spec_IsPaint := simOk_gc mixed (ctab_add sim_spec_l09Is (ctab_nil _)) true Try.func14 Try.call14 (by kernel_rfl)
theorem law_spec_IsPaint : spec_IsPaint_ok con_spec_IsPaint := spec_IsPaint_law rfl law_spec_l09Is
noncomputable def con_impl_isShare : Contract := gcC cnil impl_isShare true
theorem sim_impl_isShare : SimOk Try.prog 56 con_impl_isShare := simOk_gc mixed (ctab_nil _) true Try.func56 Try.call56 (by kernel_rfl)
theorem law_impl_isShare : impl_isShare_ok con_impl_isShare := impl_isShare_law 
noncomputable def con_impl_IsPaint : Contract := gcC (cadd 56 con_impl_isShare cnil) (impl_IsPaint 56) true
theorem sim_impl_IsPaint : SimOk Try.prog 16 con_impl_IsPaint := simOk_gc mixed (ctab_add sim_impl_isShare (ctab_nil _)) true Try.func16 Try.call16 (by kernel_rfl)
theorem law_impl_IsPaint : impl_IsPaint_ok con_impl_IsPaint := impl_IsPaint_law rfl law_impl_isShare
noncomputable def con_laws_FnExactIsPaint : Contract := gcC (cadd 15 con_laws_toPaint (cadd 14 con_spec_IsPaint (cadd 16 con_impl_IsPaint cnil))) (laws_FnExactIsPaint 15 14 16) true
theorem sim_laws_FnExactIsPaint : SimOk Try.prog 3 con_laws_FnExactIsPaint := simOk_gc mixed (ctab_add sim_laws_toPaint (ctab_add sim_spec_IsPaint (ctab_add sim_impl_IsPaint (ctab_nil _)))) true Try.func3 Try.call3 (by kernel_rfl)
theorem law_laws_FnExactIsPaint : laws_FnExactIsPaint_ok con_laws_FnExactIsPaint := laws_FnExactIsPaint_law rfl law_laws_toPaint rfl law_spec_IsPaint rfl law_impl_IsPaint
theorem lifted (os : Os) (started : os.Started) (H : Type) (enc : TypeId × Value → H) :
    ReturnsInHanded {} Try.checked os 3 .any (Rows.fnExactIsPaintSpec.pre6 enc Try.prog Try.f3 Rows.fnExactIsPaintRow.domain false) (Rows.fnExactIsPaintSpec.post enc Try.prog Try.f3 false true false false) := by
  refine returnsInHanded_of_change (C := Try.checked) own started (by kernel_rfl) Try.func3
    (ChangeSpec.witness6 (enc := enc) (C := Try.checked) false ⟨#[], #[.agg #[.float .f32 0, .float .f32 0]], []⟩ 8 (by kernel_rfl) (by kernel_rfl) (by kernel_rfl) (by kernel_rfl)) ?_
  intro W base args ds gs before hval hW _ _
  exact row_contract (P := Try.prog) (fn := Try.f3) (d := 8) (sh := [paintK]) (n := 1) sim_laws_FnExactIsPaint Try.call3 (by kernel_rfl) law_laws_FnExactIsPaint laidOut (by kernel_rfl) rfl rfl (by kernel_rfl) (by kernel_rfl)
    (fun ds h => by match ds, h with | [_], _ => rfl) hval hW
theorem holds : Rows.FnExactIsPaintSaid :=
  OpenClaim.holds_of_wide 3 Try.f3 rfl rfl rfl rfl rfl rfl rfl ⟨rfl, rfl, rfl, rfl, rfl⟩ rfl rfl rfl rfl rfl (by kernel_rfl) Try.func3 (by kernel_rfl)
    (of_decide_eq_true (by kernel_rfl)) (by unfold Func.isWrapper; first | (rw [if_pos (by decide +kernel)]; kernel_rfl) | (rw [if_neg (by decide +kernel)]; exact ⟨rfl, rfl⟩))
    (fun os started H enc _ => lifted os started H enc)
end Go.Proofs.Ytnibmlgdnhiglaa.laws_FnExactIsPaint
