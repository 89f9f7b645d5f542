/- The row FnExactPutStrip: it returns true whatever its arguments, and leaves them. No condition. -/
import Derived.Test.YtlfjplocffebmaaRows
import Derived.Test.YtlfjplocffebmaaExactPutStripL29
import Derived.ProofKit
namespace Go.Proofs.Ytlfjplocffebmaa.laws_FnExactPutStrip
open Go.Abs Go.ChangeShapes Go.WideShapes Go.ChangeAt Go.RowKit
set_option maxRecDepth 100000
theorem own : ownKnob Try.prog.godebug = none := by kernel_rfl
theorem laidOut : laidOutB Try.prog = true := by kernel_rfl
theorem mixed : Try.prog.follows .mixedOrders = true := by kernel_rfl
noncomputable def con_laws_szFloat32S : Contract := gcC cnil laws_szFloat32S true
theorem sim_laws_szFloat32S : SimOk Try.prog 56 con_laws_szFloat32S := simOk_gc mixed (ctab_nil _) true Try.func56 Try.call56 (by kernel_rfl)
theorem law_laws_szFloat32S : laws_szFloat32S_ok  con_laws_szFloat32S := laws_szFloat32S_law 
noncomputable def con_laws_szSheet : Contract := gcC (cadd 56 con_laws_szFloat32S cnil) (laws_szSheet 56) true
theorem sim_laws_szSheet : SimOk Try.prog 13 con_laws_szSheet := simOk_gc mixed (ctab_add sim_laws_szFloat32S (ctab_nil _)) true Try.func13 Try.call13 (by kernel_rfl)
theorem law_laws_szSheet : laws_szSheet_ok  con_laws_szSheet := laws_szSheet_law ⟨rfl, rfl, law_laws_szFloat32S⟩
noncomputable def con_laws_szField : Contract := gcC (cadd 56 con_laws_szFloat32S cnil) (laws_szField 56) true
theorem sim_laws_szField : SimOk Try.prog 34 con_laws_szField := simOk_gc mixed (ctab_add sim_laws_szFloat32S (ctab_nil _)) true Try.func34 Try.call34 (by kernel_rfl)
theorem law_laws_szField : laws_szField_ok  con_laws_szField := laws_szField_law ⟨rfl, rfl, law_laws_szFloat32S⟩
noncomputable def con_laws_toFloat32S : Contract := gcC cnil laws_toFloat32S true
theorem sim_laws_toFloat32S : SimOk Try.prog 61 con_laws_toFloat32S := simOk_gc mixed (ctab_nil _) true Try.func61 Try.call61 (by kernel_rfl)
theorem law_laws_toFloat32S : laws_toFloat32S_ok  con_laws_toFloat32S := laws_toFloat32S_law 
noncomputable def con_laws_toSheet : Contract := gcC (cadd 61 con_laws_toFloat32S cnil) (laws_toSheet 61) true
theorem sim_laws_toSheet : SimOk Try.prog 15 con_laws_toSheet := simOk_gc mixed (ctab_add sim_laws_toFloat32S (ctab_nil _)) true Try.func15 Try.call15 (by kernel_rfl)
theorem law_laws_toSheet : laws_toSheet_ok  con_laws_toSheet := laws_toSheet_law ⟨rfl, rfl, law_laws_toFloat32S⟩
noncomputable def con_laws_toField : Contract := gcC (cadd 61 con_laws_toFloat32S cnil) (laws_toField 61) true
theorem sim_laws_toField : SimOk Try.prog 36 con_laws_toField := simOk_gc mixed (ctab_add sim_laws_toFloat32S (ctab_nil _)) true Try.func36 Try.call36 (by kernel_rfl)
theorem law_laws_toField : laws_toField_ok  con_laws_toField := laws_toField_law ⟨rfl, rfl, law_laws_toFloat32S⟩
noncomputable def con_laws_toStrip : Contract := gcC cnil laws_toStrip true
theorem sim_laws_toStrip : SimOk Try.prog 37 con_laws_toStrip := simOk_gc mixed (ctab_nil _) true Try.func37 Try.call37 (by kernel_rfl)
theorem law_laws_toStrip : laws_toStrip_ok  con_laws_toStrip := laws_toStrip_law 
noncomputable def con_spec_l00In : Contract := gcC cnil spec_l00In true
theorem sim_spec_l00In : SimOk Try.prog 121 con_spec_l00In := simOk_gc mixed (ctab_nil _) true Try.func121 Try.call121 (by kernel_rfl)
theorem law_spec_l00In : spec_l00In_ok  con_spec_l00In := spec_l00In_law 
noncomputable def con_spec_l02Sides : Contract := gcC (cadd 121 con_spec_l00In cnil) (spec_l02Sides 121) true
theorem sim_spec_l02Sides : SimOk Try.prog 120 con_spec_l02Sides := simOk_gc mixed (ctab_add sim_spec_l00In (ctab_nil _)) true Try.func120 Try.call120 (by kernel_rfl)
theorem law_spec_l02Sides : spec_l02Sides_ok  con_spec_l02Sides := spec_l02Sides_law ⟨rfl, rfl, law_spec_l00In⟩
noncomputable def con_spec_l02Is : Contract := gcC (cadd 120 con_spec_l02Sides cnil) (spec_l02Is 120) true
theorem sim_spec_l02Is : SimOk Try.prog 57 con_spec_l02Is := simOk_gc mixed (ctab_add sim_spec_l02Sides (ctab_nil _)) true Try.func57 Try.call57 (by kernel_rfl)
theorem law_spec_l02Is : spec_l02Is_ok  con_spec_l02Is := spec_l02Is_law ⟨rfl, rfl, law_spec_l02Sides⟩
noncomputable def con_spec_l02Border : Contract := gcC cnil spec_l02Border true
theorem sim_spec_l02Border : SimOk Try.prog 138 con_spec_l02Border := simOk_gc mixed (ctab_nil _) true Try.func138 Try.call138 (by kernel_rfl)
theorem law_spec_l02Border : spec_l02Border_ok  con_spec_l02Border := spec_l02Border_law 
noncomputable def con_spec_l02Fits : Contract := gcC (cadd 138 con_spec_l02Border cnil) (spec_l02Fits 138) true
theorem sim_spec_l02Fits : SimOk Try.prog 89 con_spec_l02Fits := simOk_gc mixed (ctab_add sim_spec_l02Border (ctab_nil _)) true Try.func89 Try.call89 (by kernel_rfl)
theorem law_spec_l02Fits : spec_l02Fits_ok  con_spec_l02Fits := spec_l02Fits_law ⟨rfl, rfl, law_spec_l02Border⟩
noncomputable def con_spec_l03Both : Contract := gcC (cadd 57 con_spec_l02Is (cadd 89 con_spec_l02Fits cnil)) (spec_l03Both 57 89) true
theorem sim_spec_l03Both : SimOk Try.prog 85 con_spec_l03Both := simOk_gc mixed (ctab_add sim_spec_l02Is (ctab_add sim_spec_l02Fits (ctab_nil _))) true Try.func85 Try.call85 (by kernel_rfl)
theorem law_spec_l03Both : spec_l03Both_ok  con_spec_l03Both := spec_l03Both_law ⟨rfl, rfl, law_spec_l02Is⟩ ⟨rfl, rfl, law_spec_l02Fits⟩
noncomputable def con_spec_l07Is : Contract := gcC (cadd 121 con_spec_l00In cnil) (spec_l07Is 121) true
theorem sim_spec_l07Is : SimOk Try.prog 86 con_spec_l07Is := simOk_gc mixed (ctab_add sim_spec_l00In (ctab_nil _)) true Try.func86 Try.call86 (by kernel_rfl)
theorem law_spec_l07Is : spec_l07Is_ok  con_spec_l07Is := spec_l07Is_law ⟨rfl, rfl, law_spec_l00In⟩
noncomputable def con_spec_l02Own : Contract := gcC cnil spec_l02Own true
theorem sim_spec_l02Own : SimOk Try.prog 87 con_spec_l02Own := simOk_gc mixed (ctab_nil _) true Try.func87 Try.call87 (by kernel_rfl)
theorem law_spec_l02Own : spec_l02Own_ok  con_spec_l02Own := spec_l02Own_law 
noncomputable def con_spec_l07Put : Contract := gcC cnil spec_l07Put false
theorem sim_spec_l07Put : SimOk Try.prog 88 con_spec_l07Put := simOk_gc mixed (ctab_nil _) false Try.func88 Try.call88 (by kernel_rfl)
theorem law_spec_l07Put : spec_l07Put_ok  con_spec_l07Put := spec_l07Put_law 
noncomputable def con_spec_PutStrip : Contract := gcC (cadd 85 con_spec_l03Both (cadd 86 con_spec_l07Is (cadd 87 con_spec_l02Own (cadd 88 con_spec_l07Put (cadd 89 con_spec_l02Fits cnil))))) (spec_PutStrip 85 86 87 88 89) true
theorem sim_spec_PutStrip : SimOk Try.prog 35 con_spec_PutStrip := simOk_gc mixed (ctab_add sim_spec_l03Both (ctab_add sim_spec_l07Is (ctab_add sim_spec_l02Own (ctab_add sim_spec_l07Put (ctab_add sim_spec_l02Fits (ctab_nil _)))))) true Try.func35 Try.call35 (by kernel_rfl)
theorem law_spec_PutStrip : spec_PutStrip_ok  con_spec_PutStrip := spec_PutStrip_law ⟨rfl, rfl, law_spec_l03Both⟩ ⟨rfl, rfl, law_spec_l07Is⟩ ⟨rfl, rfl, law_spec_l02Own⟩ ⟨rfl, law_spec_l07Put⟩ ⟨rfl, rfl, law_spec_l02Fits⟩
noncomputable def con_impl_within : Contract := gcC cnil impl_within true
theorem sim_impl_within : SimOk Try.prog 75 con_impl_within := simOk_gc mixed (ctab_nil _) true Try.func75 Try.call75 (by kernel_rfl)
theorem law_impl_within : impl_within_ok  con_impl_within := impl_within_law 
noncomputable def con_impl_areBetween : Contract := gcC cnil impl_areBetween true
theorem sim_impl_areBetween : SimOk Try.prog 129 con_impl_areBetween := simOk_gc mixed (ctab_nil _) true Try.func129 Try.call129 (by kernel_rfl)
theorem law_impl_areBetween : impl_areBetween_ok  con_impl_areBetween := impl_areBetween_law 
noncomputable def con_impl_ValidSheet : Contract := gcC (cadd 75 con_impl_within (cadd 129 con_impl_areBetween cnil)) (impl_ValidSheet 75 129) true
theorem sim_impl_ValidSheet : SimOk Try.prog 79 con_impl_ValidSheet := simOk_gc mixed (ctab_add sim_impl_within (ctab_add sim_impl_areBetween (ctab_nil _))) true Try.func79 Try.call79 (by kernel_rfl)
theorem law_impl_ValidSheet : impl_ValidSheet_ok  con_impl_ValidSheet := impl_ValidSheet_law ⟨rfl, rfl, law_impl_within⟩ ⟨rfl, rfl, law_impl_areBetween⟩
noncomputable def con_impl_Sheet_isBorder : Contract := gcC cnil impl_Sheet_isBorder true
theorem sim_impl_Sheet_isBorder : SimOk Try.prog 106 con_impl_Sheet_isBorder := simOk_gc mixed (ctab_nil _) true Try.func106 Try.call106 (by kernel_rfl)
theorem law_impl_Sheet_isBorder : impl_Sheet_isBorder_ok  con_impl_Sheet_isBorder := impl_Sheet_isBorder_law 
noncomputable def con_impl_IsField : Contract := gcC (cadd 79 con_impl_ValidSheet (cadd 106 con_impl_Sheet_isBorder cnil)) (impl_IsField 79 106) true
theorem sim_impl_IsField : SimOk Try.prog 50 con_impl_IsField := simOk_gc mixed (ctab_add sim_impl_ValidSheet (ctab_add sim_impl_Sheet_isBorder (ctab_nil _))) true Try.func50 Try.call50 (by kernel_rfl)
theorem law_impl_IsField : impl_IsField_ok  con_impl_IsField := impl_IsField_law ⟨rfl, rfl, law_impl_ValidSheet⟩ ⟨rfl, rfl, law_impl_Sheet_isBorder⟩
noncomputable def con_impl_IsStrip : Contract := gcC (cadd 79 con_impl_ValidSheet (cadd 75 con_impl_within cnil)) (impl_IsStrip 79 75) true
theorem sim_impl_IsStrip : SimOk Try.prog 90 con_impl_IsStrip := simOk_gc mixed (ctab_add sim_impl_ValidSheet (ctab_add sim_impl_within (ctab_nil _))) true Try.func90 Try.call90 (by kernel_rfl)
theorem law_impl_IsStrip : impl_IsStrip_ok  con_impl_IsStrip := impl_IsStrip_law ⟨rfl, rfl, law_impl_ValidSheet⟩ ⟨rfl, rfl, law_impl_within⟩
noncomputable def con_impl_copyOf : Contract := gcC cnil impl_copyOf true
theorem sim_impl_copyOf : SimOk Try.prog 139 con_impl_copyOf := simOk_gc mixed (ctab_nil _) true Try.func139 Try.call139 (by kernel_rfl)
theorem law_impl_copyOf : impl_copyOf_ok  con_impl_copyOf := impl_copyOf_law 
noncomputable def con_impl_copyField : Contract := gcC (cadd 139 con_impl_copyOf cnil) (impl_copyField 139) true
theorem sim_impl_copyField : SimOk Try.prog 91 con_impl_copyField := simOk_gc mixed (ctab_add sim_impl_copyOf (ctab_nil _)) true Try.func91 Try.call91 (by kernel_rfl)
theorem law_impl_copyField : impl_copyField_ok  con_impl_copyField := impl_copyField_law ⟨rfl, rfl, law_impl_copyOf⟩
noncomputable def con_impl_put : Contract := gcC cnil impl_put false
theorem sim_impl_put : SimOk Try.prog 92 con_impl_put := simOk_gc mixed (ctab_nil _) false Try.func92 Try.call92 (by kernel_rfl)
theorem law_impl_put : impl_put_ok  con_impl_put := impl_put_law 
noncomputable def con_impl_validField : Contract := gcC (cadd 50 con_impl_IsField cnil) (impl_validField 50) true
theorem sim_impl_validField : SimOk Try.prog 93 con_impl_validField := simOk_gc mixed (ctab_add sim_impl_IsField (ctab_nil _)) true Try.func93 Try.call93 (by kernel_rfl)
theorem law_impl_validField : impl_validField_ok  con_impl_validField := impl_validField_law ⟨rfl, rfl, law_impl_IsField⟩
noncomputable def con_impl_PutStrip : Contract := gcC (cadd 50 con_impl_IsField (cadd 90 con_impl_IsStrip (cadd 91 con_impl_copyField (cadd 92 con_impl_put (cadd 93 con_impl_validField cnil))))) (impl_PutStrip 50 90 91 92 93) true
theorem sim_impl_PutStrip : SimOk Try.prog 38 con_impl_PutStrip := simOk_gc mixed (ctab_add sim_impl_IsField (ctab_add sim_impl_IsStrip (ctab_add sim_impl_copyField (ctab_add sim_impl_put (ctab_add sim_impl_validField (ctab_nil _)))))) true Try.func38 Try.call38 (by kernel_rfl)
theorem law_impl_PutStrip : impl_PutStrip_ok  con_impl_PutStrip := impl_PutStrip_law ⟨rfl, rfl, law_impl_IsField⟩ ⟨rfl, rfl, law_impl_IsStrip⟩ ⟨rfl, rfl, law_impl_copyField⟩ ⟨rfl, law_impl_put⟩ ⟨rfl, rfl, law_impl_validField⟩
noncomputable def con_laws_sameFloat : Contract := gcC cnil laws_sameFloat true
theorem sim_laws_sameFloat : SimOk Try.prog 127 con_laws_sameFloat := simOk_gc mixed (ctab_nil _) true Try.func127 Try.call127 (by kernel_rfl)
theorem law_laws_sameFloat : laws_sameFloat_ok  con_laws_sameFloat := laws_sameFloat_law 
noncomputable def con_laws_eqFloat32S : Contract := gcC (cadd 127 con_laws_sameFloat cnil) (laws_eqFloat32S 127) true
theorem sim_laws_eqFloat32S : SimOk Try.prog 65 con_laws_eqFloat32S := simOk_gc mixed (ctab_add sim_laws_sameFloat (ctab_nil _)) true Try.func65 Try.call65 (by kernel_rfl)
theorem law_laws_eqFloat32S : laws_eqFloat32S_ok  con_laws_eqFloat32S := laws_eqFloat32S_law ⟨rfl, rfl, law_laws_sameFloat⟩
noncomputable def con_laws_eqField : Contract := gcC (cadd 65 con_laws_eqFloat32S cnil) (laws_eqField 65) true
theorem sim_laws_eqField : SimOk Try.prog 39 con_laws_eqField := simOk_gc mixed (ctab_add sim_laws_eqFloat32S (ctab_nil _)) true Try.func39 Try.call39 (by kernel_rfl)
theorem law_laws_eqField : laws_eqField_ok  con_laws_eqField := laws_eqField_law ⟨rfl, rfl, law_laws_eqFloat32S⟩
noncomputable def con_laws_eqSheet : Contract := gcC (cadd 65 con_laws_eqFloat32S cnil) (laws_eqSheet 65) true
theorem sim_laws_eqSheet : SimOk Try.prog 18 con_laws_eqSheet := simOk_gc mixed (ctab_add sim_laws_eqFloat32S (ctab_nil _)) true Try.func18 Try.call18 (by kernel_rfl)
theorem law_laws_eqSheet : laws_eqSheet_ok  con_laws_eqSheet := laws_eqSheet_law ⟨rfl, rfl, law_laws_eqFloat32S⟩
noncomputable def con_laws_markFloat32S : Contract := gcC cnil laws_markFloat32S false
theorem sim_laws_markFloat32S : SimOk Try.prog 66 con_laws_markFloat32S := simOk_gc mixed (ctab_nil _) false Try.func66 Try.call66 (by kernel_rfl)
theorem law_laws_markFloat32S : laws_markFloat32S_ok  con_laws_markFloat32S := laws_markFloat32S_law 
noncomputable def con_laws_markSheet : Contract := gcC (cadd 66 con_laws_markFloat32S cnil) (laws_markSheet 66) false
theorem sim_laws_markSheet : SimOk Try.prog 19 con_laws_markSheet := simOk_gc mixed (ctab_add sim_laws_markFloat32S (ctab_nil _)) false Try.func19 Try.call19 (by kernel_rfl)
theorem law_laws_markSheet : laws_markSheet_ok  con_laws_markSheet := laws_markSheet_law ⟨rfl, law_laws_markFloat32S⟩
noncomputable def con_laws_markField : Contract := gcC (cadd 66 con_laws_markFloat32S cnil) (laws_markField 66) false
theorem sim_laws_markField : SimOk Try.prog 40 con_laws_markField := simOk_gc mixed (ctab_add sim_laws_markFloat32S (ctab_nil _)) false Try.func40 Try.call40 (by kernel_rfl)
theorem law_laws_markField : laws_markField_ok  con_laws_markField := laws_markField_law ⟨rfl, law_laws_markFloat32S⟩
noncomputable def con_laws_heldFloat32S : Contract := gcC cnil laws_heldFloat32S true
theorem sim_laws_heldFloat32S : SimOk Try.prog 67 con_laws_heldFloat32S := simOk_gc mixed (ctab_nil _) true Try.func67 Try.call67 (by kernel_rfl)
theorem law_laws_heldFloat32S : laws_heldFloat32S_ok  con_laws_heldFloat32S := laws_heldFloat32S_law 
noncomputable def con_laws_heldField : Contract := gcC (cadd 67 con_laws_heldFloat32S cnil) (laws_heldField 67) true
theorem sim_laws_heldField : SimOk Try.prog 41 con_laws_heldField := simOk_gc mixed (ctab_add sim_laws_heldFloat32S (ctab_nil _)) true Try.func41 Try.call41 (by kernel_rfl)
theorem law_laws_heldField : laws_heldField_ok  con_laws_heldField := laws_heldField_law ⟨rfl, rfl, law_laws_heldFloat32S⟩
noncomputable def con_laws_FnExactPutStrip : Contract := gcC (cadd 13 con_laws_szSheet (cadd 34 con_laws_szField (cadd 15 con_laws_toSheet (cadd 36 con_laws_toField (cadd 37 con_laws_toStrip (cadd 35 con_spec_PutStrip (cadd 38 con_impl_PutStrip (cadd 39 con_laws_eqField (cadd 18 con_laws_eqSheet (cadd 19 con_laws_markSheet (cadd 40 con_laws_markField (cadd 41 con_laws_heldField cnil)))))))))))) (laws_FnExactPutStrip 13 34 15 36 37 35 38 39 18 19 40 41) true
theorem sim_laws_FnExactPutStrip : SimOk Try.prog 9 con_laws_FnExactPutStrip := simOk_gc mixed (ctab_add sim_laws_szSheet (ctab_add sim_laws_szField (ctab_add sim_laws_toSheet (ctab_add sim_laws_toField (ctab_add sim_laws_toStrip (ctab_add sim_spec_PutStrip (ctab_add sim_impl_PutStrip (ctab_add sim_laws_eqField (ctab_add sim_laws_eqSheet (ctab_add sim_laws_markSheet (ctab_add sim_laws_markField (ctab_add sim_laws_heldField (ctab_nil _))))))))))))) true Try.func9 Try.call9 (by kernel_rfl)
theorem law_laws_FnExactPutStrip : laws_FnExactPutStrip_ok  con_laws_FnExactPutStrip := laws_FnExactPutStrip_law ⟨rfl, rfl, law_laws_szSheet⟩ ⟨rfl, rfl, law_laws_szField⟩ ⟨rfl, rfl, law_laws_toSheet⟩ ⟨rfl, rfl, law_laws_toField⟩ ⟨rfl, rfl, law_laws_toStrip⟩ ⟨rfl, rfl, law_spec_PutStrip⟩ ⟨rfl, rfl, law_impl_PutStrip⟩ ⟨rfl, rfl, law_laws_eqField⟩ ⟨rfl, rfl, law_laws_eqSheet⟩ ⟨rfl, law_laws_markSheet⟩ ⟨rfl, law_laws_markField⟩ ⟨rfl, rfl, law_laws_heldField⟩
theorem lifted (os : Os) (started : os.Started) (H : Type) (enc : TypeId × Value → H) :
    ReturnsInHanded {} Try.checked os 9 .any (Rows.fnExactPutStripSpec.pre6 enc Try.prog Try.f9 Rows.fnExactPutStripRow.domain false) (Rows.fnExactPutStripSpec.post enc Try.prog Try.f9 false true false false) := by
  refine returnsInHanded_of_change (C := Try.checked) own started (by kernel_rfl) Try.func9
    (ChangeSpec.witness6 (enc := enc) (C := Try.checked) false ⟨#[], #[.agg #[.int .i64 0, .int .i64 0, .bool false, .slice none 0 0, .slice none 0 0], .agg #[.slice none 0 0, .slice none 0 0, .slice none 0 0], .agg #[.int .i64 0, .int .i64 0], .agg #[.slice none 0 0, .slice none 0 0, .slice none 0 0]], []⟩ 8 (by kernel_rfl) (by kernel_rfl) (by kernel_rfl) (by kernel_rfl)) ?_
  intro W base args ds gs before hval hW _ _
  exact row_contract (P := Try.prog) (fn := Try.f9) (d := 8) (sh := [sheetK, fieldK, stripK, fieldK]) (n := 4) sim_laws_FnExactPutStrip Try.call9 (by kernel_rfl) law_laws_FnExactPutStrip laidOut (by kernel_rfl) rfl rfl (by kernel_rfl) (by kernel_rfl)
    (fun ds h => by match ds, h with | [_, _, _, _], _ => rfl) hval hW
theorem holds : Rows.FnExactPutStripSaid :=
  OpenClaim.holds_of_wide 9 Try.f9 rfl rfl rfl rfl rfl rfl rfl ⟨rfl, rfl, rfl, rfl, rfl⟩ rfl rfl rfl rfl rfl (by kernel_rfl) Try.func9 (by kernel_rfl)
    (of_decide_eq_true (by kernel_rfl)) (by unfold Func.isWrapper; first | (rw [if_pos (by decide +kernel)]; kernel_rfl) | (rw [if_neg (by decide +kernel)]; exact ⟨rfl, rfl⟩))
    (fun os started H enc _ => lifted os started H enc)
end Go.Proofs.Ytlfjplocffebmaa.laws_FnExactPutStrip
