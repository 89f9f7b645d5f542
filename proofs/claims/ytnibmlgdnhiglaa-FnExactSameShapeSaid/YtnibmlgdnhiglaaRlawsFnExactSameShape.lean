/- The row FnExactSameShape: it returns true whatever its arguments, and leaves them. No condition. -/
import Derived.Test.YtnibmlgdnhiglaaRows
import Derived.Test.YtnibmlgdnhiglaaWvL06
import Derived.ProofKit
namespace Go.Proofs.Ytnibmlgdnhiglaa.laws_FnExactSameShape
open Go.Abs Go.ChangeShapes Go.WideShapes Go.ChangeAt Go.RowKit
set_option maxRecDepth 100000
theorem own : ownKnob Try.prog.godebug = none := by kernel_rfl
theorem laidOut : laidOutB Try.prog = true := by kernel_rfl
theorem mixed : Try.prog.follows .mixedOrders = true := by kernel_rfl
noncomputable def con_laws_szFloat32S : Contract := gcC cnil laws_szFloat32S true
theorem sim_laws_szFloat32S : SimOk Try.prog 61 con_laws_szFloat32S := simOk_gc mixed (ctab_nil _) true Try.func61 Try.call61 (by kernel_rfl)
theorem law_laws_szFloat32S : laws_szFloat32S_ok con_laws_szFloat32S := laws_szFloat32S_law 
noncomputable def con_laws_szSheet : Contract := gcC (cadd 61 con_laws_szFloat32S cnil) (laws_szSheet 61) true
theorem sim_laws_szSheet : SimOk Try.prog 21 con_laws_szSheet := simOk_gc mixed (ctab_add sim_laws_szFloat32S (ctab_nil _)) true Try.func21 Try.call21 (by kernel_rfl)
theorem law_laws_szSheet : laws_szSheet_ok con_laws_szSheet := laws_szSheet_law ⟨rfl, rfl, law_laws_szFloat32S⟩
noncomputable def con_laws_toFloat32S : Contract := gcC cnil laws_toFloat32S true
theorem sim_laws_toFloat32S : SimOk Try.prog 18 con_laws_toFloat32S := simOk_gc mixed (ctab_nil _) true Try.func18 Try.call18 (by kernel_rfl)
theorem law_laws_toFloat32S : laws_toFloat32S_ok con_laws_toFloat32S := laws_toFloat32S_law 
noncomputable def con_laws_toSheet : Contract := gcC (cadd 18 con_laws_toFloat32S cnil) (laws_toSheet 18) true
theorem sim_laws_toSheet : SimOk Try.prog 23 con_laws_toSheet := simOk_gc mixed (ctab_add sim_laws_toFloat32S (ctab_nil _)) true Try.func23 Try.call23 (by kernel_rfl)
theorem law_laws_toSheet : laws_toSheet_ok con_laws_toSheet := laws_toSheet_law ⟨rfl, rfl, law_laws_toFloat32S⟩
noncomputable def con_spec_l00In : Contract := gcC cnil spec_l00In true
theorem sim_spec_l00In : SimOk Try.prog 63 con_spec_l00In := simOk_gc mixed (ctab_nil _) true Try.func63 Try.call63 (by kernel_rfl)
theorem law_spec_l00In : spec_l00In_ok con_spec_l00In := spec_l00In_law 
noncomputable def con_spec_l02Sides : Contract := gcC (cadd 63 con_spec_l00In cnil) (spec_l02Sides 63) true
theorem sim_spec_l02Sides : SimOk Try.prog 98 con_spec_l02Sides := simOk_gc mixed (ctab_add sim_spec_l00In (ctab_nil _)) true Try.func98 Try.call98 (by kernel_rfl)
theorem law_spec_l02Sides : spec_l02Sides_ok con_spec_l02Sides := spec_l02Sides_law ⟨rfl, rfl, law_spec_l00In⟩
noncomputable def con_spec_l02Is : Contract := gcC (cadd 98 con_spec_l02Sides cnil) (spec_l02Is 98) true
theorem sim_spec_l02Is : SimOk Try.prog 62 con_spec_l02Is := simOk_gc mixed (ctab_add sim_spec_l02Sides (ctab_nil _)) true Try.func62 Try.call62 (by kernel_rfl)
theorem law_spec_l02Is : spec_l02Is_ok con_spec_l02Is := spec_l02Is_law ⟨rfl, rfl, law_spec_l02Sides⟩
noncomputable def con_spec_SameShape : Contract := gcC (cadd 62 con_spec_l02Is cnil) (spec_SameShape 62) true
theorem sim_spec_SameShape : SimOk Try.prog 27 con_spec_SameShape := simOk_gc mixed (ctab_add sim_spec_l02Is (ctab_nil _)) true Try.func27 Try.call27 (by kernel_rfl)
theorem law_spec_SameShape : spec_SameShape_ok con_spec_SameShape := spec_SameShape_law ⟨rfl, rfl, law_spec_l02Is⟩
noncomputable def con_impl_within : Contract := gcC cnil impl_within true
theorem sim_impl_within : SimOk Try.prog 93 con_impl_within := simOk_gc mixed (ctab_nil _) true Try.func93 Try.call93 (by kernel_rfl)
theorem law_impl_within : impl_within_ok con_impl_within := impl_within_law 
noncomputable def con_impl_areBetween : Contract := gcC cnil impl_areBetween true
theorem sim_impl_areBetween : SimOk Try.prog 99 con_impl_areBetween := simOk_gc mixed (ctab_nil _) true Try.func99 Try.call99 (by kernel_rfl)
theorem law_impl_areBetween : impl_areBetween_ok con_impl_areBetween := impl_areBetween_law 
noncomputable def con_impl_ValidSheet : Contract := gcC (cadd 93 con_impl_within (cadd 99 con_impl_areBetween cnil)) (impl_ValidSheet 93 99) true
theorem sim_impl_ValidSheet : SimOk Try.prog 66 con_impl_ValidSheet := simOk_gc mixed (ctab_add sim_impl_within (ctab_add sim_impl_areBetween (ctab_nil _))) true Try.func66 Try.call66 (by kernel_rfl)
theorem law_impl_ValidSheet : impl_ValidSheet_ok con_impl_ValidSheet := impl_ValidSheet_law ⟨rfl, rfl, law_impl_within⟩ ⟨rfl, rfl, law_impl_areBetween⟩
noncomputable def con_impl_SameShape : Contract := gcC (cadd 66 con_impl_ValidSheet cnil) (impl_SameShape 66) true
theorem sim_impl_SameShape : SimOk Try.prog 28 con_impl_SameShape := simOk_gc mixed (ctab_add sim_impl_ValidSheet (ctab_nil _)) true Try.func28 Try.call28 (by kernel_rfl)
theorem law_impl_SameShape : impl_SameShape_ok con_impl_SameShape := impl_SameShape_law ⟨rfl, rfl, law_impl_ValidSheet⟩
noncomputable def con_laws_sameFloat : Contract := gcC cnil laws_sameFloat true
theorem sim_laws_sameFloat : SimOk Try.prog 25 con_laws_sameFloat := simOk_gc mixed (ctab_nil _) true Try.func25 Try.call25 (by kernel_rfl)
theorem law_laws_sameFloat : laws_sameFloat_ok con_laws_sameFloat := laws_sameFloat_law 
noncomputable def con_laws_eqFloat32S : Contract := gcC (cadd 25 con_laws_sameFloat cnil) (laws_eqFloat32S 25) true
theorem sim_laws_eqFloat32S : SimOk Try.prog 20 con_laws_eqFloat32S := simOk_gc mixed (ctab_add sim_laws_sameFloat (ctab_nil _)) true Try.func20 Try.call20 (by kernel_rfl)
theorem law_laws_eqFloat32S : laws_eqFloat32S_ok con_laws_eqFloat32S := laws_eqFloat32S_law ⟨rfl, rfl, law_laws_sameFloat⟩
noncomputable def con_laws_eqSheet : Contract := gcC (cadd 20 con_laws_eqFloat32S cnil) (laws_eqSheet 20) true
theorem sim_laws_eqSheet : SimOk Try.prog 26 con_laws_eqSheet := simOk_gc mixed (ctab_add sim_laws_eqFloat32S (ctab_nil _)) true Try.func26 Try.call26 (by kernel_rfl)
theorem law_laws_eqSheet : laws_eqSheet_ok con_laws_eqSheet := laws_eqSheet_law ⟨rfl, rfl, law_laws_eqFloat32S⟩
noncomputable def con_laws_FnExactSameShape : Contract := gcC (cadd 21 con_laws_szSheet (cadd 23 con_laws_toSheet (cadd 27 con_spec_SameShape (cadd 28 con_impl_SameShape (cadd 26 con_laws_eqSheet cnil))))) (laws_FnExactSameShape 21 23 27 28 26) true
theorem sim_laws_FnExactSameShape : SimOk Try.prog 6 con_laws_FnExactSameShape := simOk_gc mixed (ctab_add sim_laws_szSheet (ctab_add sim_laws_toSheet (ctab_add sim_spec_SameShape (ctab_add sim_impl_SameShape (ctab_add sim_laws_eqSheet (ctab_nil _)))))) true Try.func6 Try.call6 (by kernel_rfl)
theorem law_laws_FnExactSameShape : laws_FnExactSameShape_ok con_laws_FnExactSameShape := laws_FnExactSameShape_law ⟨rfl, rfl, law_laws_szSheet⟩ ⟨rfl, rfl, law_laws_toSheet⟩ ⟨rfl, rfl, law_spec_SameShape⟩ ⟨rfl, rfl, law_impl_SameShape⟩ ⟨rfl, rfl, law_laws_eqSheet⟩
theorem lifted (os : Os) (started : os.Started) (H : Type) (enc : TypeId × Value → H) :
    ReturnsInHanded {} Try.checked os 6 .any (Rows.fnExactSameShapeSpec.pre6 enc Try.prog Try.f6 Rows.fnExactSameShapeRow.domain false) (Rows.fnExactSameShapeSpec.post enc Try.prog Try.f6 false true false false) := by
  refine returnsInHanded_of_change (C := Try.checked) own started (by kernel_rfl) Try.func6
    (ChangeSpec.witness6 (enc := enc) (C := Try.checked) false ⟨#[], #[.agg #[.int .i64 0, .int .i64 0, .bool false, .slice none 0 0, .slice none 0 0], .agg #[.int .i64 0, .int .i64 0, .bool false, .slice none 0 0, .slice none 0 0]], []⟩ 8 (by kernel_rfl) (by kernel_rfl) (by kernel_rfl) (by kernel_rfl)) ?_
  intro W base args ds gs before hval hW _ _
  exact row_contract (P := Try.prog) (fn := Try.f6) (d := 8) (sh := [sheetK, sheetK]) (n := 2) sim_laws_FnExactSameShape Try.call6 (by kernel_rfl) law_laws_FnExactSameShape laidOut (by kernel_rfl) rfl rfl (by kernel_rfl) (by kernel_rfl)
    (fun ds h => by match ds, h with | [_, _], _ => rfl) hval hW
theorem holds : Rows.FnExactSameShapeSaid :=
  OpenClaim.holds_of_wide 6 Try.f6 rfl rfl rfl rfl rfl rfl rfl ⟨rfl, rfl, rfl, rfl, rfl⟩ rfl rfl rfl rfl rfl (by kernel_rfl) Try.func6 (by kernel_rfl)
    (of_decide_eq_true (by kernel_rfl)) (by unfold Func.isWrapper; first | (rw [if_pos (by decide +kernel)]; kernel_rfl) | (rw [if_neg (by decide +kernel)]; exact ⟨rfl, rfl⟩))
    (fun os started H enc _ => lifted os started H enc)
end Go.Proofs.Ytnibmlgdnhiglaa.laws_FnExactSameShape
