/- The row FnExactValidDesk: it returns true whatever its arguments, and leaves them. No condition. -/
import Derived.Test.YtnibmlgdnhiglaaRows
import Derived.Test.YtnibmlgdnhiglaaWvL14
import Derived.ProofKit
namespace Go.Proofs.Ytnibmlgdnhiglaa.laws_FnExactValidDesk
open Go.Abs Go.ChangeShapes Go.WideShapes Go.ChangeAt Go.RowKit
set_option maxRecDepth 100000
theorem own : ownKnob Try.prog.godebug = none := by kernel_rfl
theorem laidOut : laidOutB Try.prog = true := by kernel_rfl
theorem mixed : Try.prog.follows .mixedOrders = true := by kernel_rfl
noncomputable def con_laws_szFloat32S : Contract := gcC cnil laws_szFloat32S true
theorem sim_laws_szFloat32S : SimOk Try.prog 61 con_laws_szFloat32S := simOk_gc mixed (ctab_nil _) true Try.func61 Try.call61 (by kernel_rfl)
theorem law_laws_szFloat32S : laws_szFloat32S_ok con_laws_szFloat32S := laws_szFloat32S_law 
noncomputable def con_laws_szSheet : Contract := gcC (cadd 61 con_laws_szFloat32S cnil) (laws_szSheet 61) true
theorem sim_laws_szSheet : SimOk Try.prog 21 con_laws_szSheet := simOk_gc mixed (ctab_add sim_laws_szFloat32S (ctab_nil _)) true Try.func21 Try.call21 (by kernel_rfl)
theorem law_laws_szSheet : laws_szSheet_ok con_laws_szSheet := laws_szSheet_law ⟨rfl, rfl, law_laws_szFloat32S⟩
noncomputable def con_laws_szField : Contract := gcC (cadd 61 con_laws_szFloat32S cnil) (laws_szField 61) true
theorem sim_laws_szField : SimOk Try.prog 89 con_laws_szField := simOk_gc mixed (ctab_add sim_laws_szFloat32S (ctab_nil _)) true Try.func89 Try.call89 (by kernel_rfl)
theorem law_laws_szField : laws_szField_ok con_laws_szField := laws_szField_law ⟨rfl, rfl, law_laws_szFloat32S⟩
noncomputable def con_laws_szDesk : Contract := gcC (cadd 21 con_laws_szSheet (cadd 89 con_laws_szField cnil)) (laws_szDesk 21 89) true
theorem sim_laws_szDesk : SimOk Try.prog 50 con_laws_szDesk := simOk_gc mixed (ctab_add sim_laws_szSheet (ctab_add sim_laws_szField (ctab_nil _))) true Try.func50 Try.call50 (by kernel_rfl)
theorem law_laws_szDesk : laws_szDesk_ok con_laws_szDesk := laws_szDesk_law ⟨rfl, rfl, law_laws_szSheet⟩ ⟨rfl, rfl, law_laws_szField⟩
noncomputable def con_laws_toFloat32S : Contract := gcC cnil laws_toFloat32S true
theorem sim_laws_toFloat32S : SimOk Try.prog 18 con_laws_toFloat32S := simOk_gc mixed (ctab_nil _) true Try.func18 Try.call18 (by kernel_rfl)
theorem law_laws_toFloat32S : laws_toFloat32S_ok con_laws_toFloat32S := laws_toFloat32S_law 
noncomputable def con_laws_toSheet : Contract := gcC (cadd 18 con_laws_toFloat32S cnil) (laws_toSheet 18) true
theorem sim_laws_toSheet : SimOk Try.prog 23 con_laws_toSheet := simOk_gc mixed (ctab_add sim_laws_toFloat32S (ctab_nil _)) true Try.func23 Try.call23 (by kernel_rfl)
theorem law_laws_toSheet : laws_toSheet_ok con_laws_toSheet := laws_toSheet_law ⟨rfl, rfl, law_laws_toFloat32S⟩
noncomputable def con_laws_toField : Contract := gcC (cadd 18 con_laws_toFloat32S cnil) (laws_toField 18) true
theorem sim_laws_toField : SimOk Try.prog 91 con_laws_toField := simOk_gc mixed (ctab_add sim_laws_toFloat32S (ctab_nil _)) true Try.func91 Try.call91 (by kernel_rfl)
theorem law_laws_toField : laws_toField_ok con_laws_toField := laws_toField_law ⟨rfl, rfl, law_laws_toFloat32S⟩
noncomputable def con_laws_toDesk : Contract := gcC (cadd 23 con_laws_toSheet (cadd 91 con_laws_toField cnil)) (laws_toDesk 23 91) true
theorem sim_laws_toDesk : SimOk Try.prog 52 con_laws_toDesk := simOk_gc mixed (ctab_add sim_laws_toSheet (ctab_add sim_laws_toField (ctab_nil _))) true Try.func52 Try.call52 (by kernel_rfl)
theorem law_laws_toDesk : laws_toDesk_ok con_laws_toDesk := laws_toDesk_law ⟨rfl, rfl, law_laws_toSheet⟩ ⟨rfl, rfl, law_laws_toField⟩
noncomputable def con_spec_l00In : Contract := gcC cnil spec_l00In true
theorem sim_spec_l00In : SimOk Try.prog 63 con_spec_l00In := simOk_gc mixed (ctab_nil _) true Try.func63 Try.call63 (by kernel_rfl)
theorem law_spec_l00In : spec_l00In_ok con_spec_l00In := spec_l00In_law 
noncomputable def con_spec_l02Sides : Contract := gcC (cadd 63 con_spec_l00In cnil) (spec_l02Sides 63) true
theorem sim_spec_l02Sides : SimOk Try.prog 98 con_spec_l02Sides := simOk_gc mixed (ctab_add sim_spec_l00In (ctab_nil _)) true Try.func98 Try.call98 (by kernel_rfl)
theorem law_spec_l02Sides : spec_l02Sides_ok con_spec_l02Sides := spec_l02Sides_law ⟨rfl, rfl, law_spec_l00In⟩
noncomputable def con_spec_l02Is : Contract := gcC (cadd 98 con_spec_l02Sides cnil) (spec_l02Is 98) true
theorem sim_spec_l02Is : SimOk Try.prog 62 con_spec_l02Is := simOk_gc mixed (ctab_add sim_spec_l02Sides (ctab_nil _)) true Try.func62 Try.call62 (by kernel_rfl)
theorem law_spec_l02Is : spec_l02Is_ok con_spec_l02Is := spec_l02Is_law ⟨rfl, rfl, law_spec_l02Sides⟩
noncomputable def con_spec_l02Border : Contract := gcC cnil spec_l02Border true
theorem sim_spec_l02Border : SimOk Try.prog 121 con_spec_l02Border := simOk_gc mixed (ctab_nil _) true Try.func121 Try.call121 (by kernel_rfl)
theorem law_spec_l02Border : spec_l02Border_ok con_spec_l02Border := spec_l02Border_law 
noncomputable def con_spec_l02Fits : Contract := gcC (cadd 121 con_spec_l02Border cnil) (spec_l02Fits 121) true
theorem sim_spec_l02Fits : SimOk Try.prog 119 con_spec_l02Fits := simOk_gc mixed (ctab_add sim_spec_l02Border (ctab_nil _)) true Try.func119 Try.call119 (by kernel_rfl)
theorem law_spec_l02Fits : spec_l02Fits_ok con_spec_l02Fits := spec_l02Fits_law ⟨rfl, rfl, law_spec_l02Border⟩
noncomputable def con_spec_l03Both : Contract := gcC (cadd 62 con_spec_l02Is (cadd 119 con_spec_l02Fits cnil)) (spec_l03Both 62 119) true
theorem sim_spec_l03Both : SimOk Try.prog 111 con_spec_l03Both := simOk_gc mixed (ctab_add sim_spec_l02Is (ctab_add sim_spec_l02Fits (ctab_nil _))) true Try.func111 Try.call111 (by kernel_rfl)
theorem law_spec_l03Both : spec_l03Both_ok con_spec_l03Both := spec_l03Both_law ⟨rfl, rfl, law_spec_l02Is⟩ ⟨rfl, rfl, law_spec_l02Fits⟩
noncomputable def con_spec_l11Is : Contract := gcC (cadd 111 con_spec_l03Both (cadd 63 con_spec_l00In cnil)) (spec_l11Is 111 63) true
theorem sim_spec_l11Is : SimOk Try.prog 90 con_spec_l11Is := simOk_gc mixed (ctab_add sim_spec_l03Both (ctab_add sim_spec_l00In (ctab_nil _))) true Try.func90 Try.call90 (by kernel_rfl)
theorem law_spec_l11Is : spec_l11Is_ok con_spec_l11Is := spec_l11Is_law ⟨rfl, rfl, law_spec_l03Both⟩ ⟨rfl, rfl, law_spec_l00In⟩
noncomputable def con_spec_ValidDesk : Contract := gcC (cadd 90 con_spec_l11Is cnil) (spec_ValidDesk 90) true
theorem sim_spec_ValidDesk : SimOk Try.prog 51 con_spec_ValidDesk := simOk_gc mixed (ctab_add sim_spec_l11Is (ctab_nil _)) true Try.func51 Try.call51 (by kernel_rfl)
theorem law_spec_ValidDesk : spec_ValidDesk_ok con_spec_ValidDesk := spec_ValidDesk_law ⟨rfl, rfl, law_spec_l11Is⟩
noncomputable def con_impl_within : Contract := gcC cnil impl_within true
theorem sim_impl_within : SimOk Try.prog 93 con_impl_within := simOk_gc mixed (ctab_nil _) true Try.func93 Try.call93 (by kernel_rfl)
theorem law_impl_within : impl_within_ok con_impl_within := impl_within_law 
noncomputable def con_impl_areBetween : Contract := gcC cnil impl_areBetween true
theorem sim_impl_areBetween : SimOk Try.prog 99 con_impl_areBetween := simOk_gc mixed (ctab_nil _) true Try.func99 Try.call99 (by kernel_rfl)
theorem law_impl_areBetween : impl_areBetween_ok con_impl_areBetween := impl_areBetween_law 
noncomputable def con_impl_ValidSheet : Contract := gcC (cadd 93 con_impl_within (cadd 99 con_impl_areBetween cnil)) (impl_ValidSheet 93 99) true
theorem sim_impl_ValidSheet : SimOk Try.prog 66 con_impl_ValidSheet := simOk_gc mixed (ctab_add sim_impl_within (ctab_add sim_impl_areBetween (ctab_nil _))) true Try.func66 Try.call66 (by kernel_rfl)
theorem law_impl_ValidSheet : impl_ValidSheet_ok con_impl_ValidSheet := impl_ValidSheet_law ⟨rfl, rfl, law_impl_within⟩ ⟨rfl, rfl, law_impl_areBetween⟩
noncomputable def con_impl_Sheet_isBorder : Contract := gcC cnil impl_Sheet_isBorder true
theorem sim_impl_Sheet_isBorder : SimOk Try.prog 112 con_impl_Sheet_isBorder := simOk_gc mixed (ctab_nil _) true Try.func112 Try.call112 (by kernel_rfl)
theorem law_impl_Sheet_isBorder : impl_Sheet_isBorder_ok con_impl_Sheet_isBorder := impl_Sheet_isBorder_law 
noncomputable def con_impl_IsField : Contract := gcC (cadd 66 con_impl_ValidSheet (cadd 112 con_impl_Sheet_isBorder cnil)) (impl_IsField 66 112) true
theorem sim_impl_IsField : SimOk Try.prog 92 con_impl_IsField := simOk_gc mixed (ctab_add sim_impl_ValidSheet (ctab_add sim_impl_Sheet_isBorder (ctab_nil _))) true Try.func92 Try.call92 (by kernel_rfl)
theorem law_impl_IsField : impl_IsField_ok con_impl_IsField := impl_IsField_law ⟨rfl, rfl, law_impl_ValidSheet⟩ ⟨rfl, rfl, law_impl_Sheet_isBorder⟩
noncomputable def con_impl_ValidDesk : Contract := gcC (cadd 92 con_impl_IsField (cadd 93 con_impl_within cnil)) (impl_ValidDesk 92 93) true
theorem sim_impl_ValidDesk : SimOk Try.prog 53 con_impl_ValidDesk := simOk_gc mixed (ctab_add sim_impl_IsField (ctab_add sim_impl_within (ctab_nil _))) true Try.func53 Try.call53 (by kernel_rfl)
theorem law_impl_ValidDesk : impl_ValidDesk_ok con_impl_ValidDesk := impl_ValidDesk_law ⟨rfl, rfl, law_impl_IsField⟩ ⟨rfl, rfl, law_impl_within⟩
noncomputable def con_laws_sameFloat : Contract := gcC cnil laws_sameFloat true
theorem sim_laws_sameFloat : SimOk Try.prog 25 con_laws_sameFloat := simOk_gc mixed (ctab_nil _) true Try.func25 Try.call25 (by kernel_rfl)
theorem law_laws_sameFloat : laws_sameFloat_ok con_laws_sameFloat := laws_sameFloat_law 
noncomputable def con_laws_eqFloat32S : Contract := gcC (cadd 25 con_laws_sameFloat cnil) (laws_eqFloat32S 25) true
theorem sim_laws_eqFloat32S : SimOk Try.prog 20 con_laws_eqFloat32S := simOk_gc mixed (ctab_add sim_laws_sameFloat (ctab_nil _)) true Try.func20 Try.call20 (by kernel_rfl)
theorem law_laws_eqFloat32S : laws_eqFloat32S_ok con_laws_eqFloat32S := laws_eqFloat32S_law ⟨rfl, rfl, law_laws_sameFloat⟩
noncomputable def con_laws_eqSheet : Contract := gcC (cadd 20 con_laws_eqFloat32S cnil) (laws_eqSheet 20) true
theorem sim_laws_eqSheet : SimOk Try.prog 26 con_laws_eqSheet := simOk_gc mixed (ctab_add sim_laws_eqFloat32S (ctab_nil _)) true Try.func26 Try.call26 (by kernel_rfl)
theorem law_laws_eqSheet : laws_eqSheet_ok con_laws_eqSheet := laws_eqSheet_law ⟨rfl, rfl, law_laws_eqFloat32S⟩
noncomputable def con_laws_eqField : Contract := gcC (cadd 20 con_laws_eqFloat32S cnil) (laws_eqField 20) true
theorem sim_laws_eqField : SimOk Try.prog 94 con_laws_eqField := simOk_gc mixed (ctab_add sim_laws_eqFloat32S (ctab_nil _)) true Try.func94 Try.call94 (by kernel_rfl)
theorem law_laws_eqField : laws_eqField_ok con_laws_eqField := laws_eqField_law ⟨rfl, rfl, law_laws_eqFloat32S⟩
noncomputable def con_laws_eqDesk : Contract := gcC (cadd 26 con_laws_eqSheet (cadd 94 con_laws_eqField cnil)) (laws_eqDesk 26 94) true
theorem sim_laws_eqDesk : SimOk Try.prog 54 con_laws_eqDesk := simOk_gc mixed (ctab_add sim_laws_eqSheet (ctab_add sim_laws_eqField (ctab_nil _))) true Try.func54 Try.call54 (by kernel_rfl)
theorem law_laws_eqDesk : laws_eqDesk_ok con_laws_eqDesk := laws_eqDesk_law ⟨rfl, rfl, law_laws_eqSheet⟩ ⟨rfl, rfl, law_laws_eqField⟩
noncomputable def con_laws_FnExactValidDesk : Contract := gcC (cadd 50 con_laws_szDesk (cadd 52 con_laws_toDesk (cadd 51 con_spec_ValidDesk (cadd 53 con_impl_ValidDesk (cadd 54 con_laws_eqDesk cnil))))) (laws_FnExactValidDesk 50 52 51 53 54) true
theorem sim_laws_FnExactValidDesk : SimOk Try.prog 13 con_laws_FnExactValidDesk := simOk_gc mixed (ctab_add sim_laws_szDesk (ctab_add sim_laws_toDesk (ctab_add sim_spec_ValidDesk (ctab_add sim_impl_ValidDesk (ctab_add sim_laws_eqDesk (ctab_nil _)))))) true Try.func13 Try.call13 (by kernel_rfl)
theorem law_laws_FnExactValidDesk : laws_FnExactValidDesk_ok con_laws_FnExactValidDesk := laws_FnExactValidDesk_law ⟨rfl, rfl, law_laws_szDesk⟩ ⟨rfl, rfl, law_laws_toDesk⟩ ⟨rfl, rfl, law_spec_ValidDesk⟩ ⟨rfl, rfl, law_impl_ValidDesk⟩ ⟨rfl, rfl, law_laws_eqDesk⟩
theorem lifted (os : Os) (started : os.Started) (H : Type) (enc : TypeId × Value → H) :
    ReturnsInHanded {} Try.checked os 13 .any (Rows.fnExactValidDeskSpec.pre6 enc Try.prog Try.f13 Rows.fnExactValidDeskRow.domain false) (Rows.fnExactValidDeskSpec.post enc Try.prog Try.f13 false true false false) := by
  refine returnsInHanded_of_change (C := Try.checked) own started (by kernel_rfl) Try.func13
    (ChangeSpec.witness6 (enc := enc) (C := Try.checked) false ⟨#[], #[.agg #[.int .i64 0, .int .i64 0, .bool false, .slice none 0 0, .slice none 0 0, .slice none 0 0, .slice none 0 0, .slice none 0 0, .int .i64 0]], []⟩ 8 (by kernel_rfl) (by kernel_rfl) (by kernel_rfl) (by kernel_rfl)) ?_
  intro W base args ds gs before hval hW _ _
  exact row_contract (P := Try.prog) (fn := Try.f13) (d := 8) (sh := [deskK]) (n := 1) sim_laws_FnExactValidDesk Try.call13 (by kernel_rfl) law_laws_FnExactValidDesk laidOut (by kernel_rfl) rfl rfl (by kernel_rfl) (by kernel_rfl)
    (fun ds h => by match ds, h with | [_], _ => rfl) hval hW
theorem holds : Rows.FnExactValidDeskSaid :=
  OpenClaim.holds_of_wide 13 Try.f13 rfl rfl rfl rfl rfl rfl rfl ⟨rfl, rfl, rfl, rfl, rfl⟩ rfl rfl rfl rfl rfl (by kernel_rfl) Try.func13 (by kernel_rfl)
    (of_decide_eq_true (by kernel_rfl)) (by unfold Func.isWrapper; first | (rw [if_pos (by decide +kernel)]; kernel_rfl) | (rw [if_neg (by decide +kernel)]; exact ⟨rfl, rfl⟩))
    (fun os started H enc _ => lifted os started H enc)
end Go.Proofs.Ytnibmlgdnhiglaa.laws_FnExactValidDesk
