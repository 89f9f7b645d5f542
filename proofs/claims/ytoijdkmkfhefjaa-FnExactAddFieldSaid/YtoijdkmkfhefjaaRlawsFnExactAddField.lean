/- The row FnExactAddField: it returns true whatever its arguments, and leaves them. No condition. -/
import Derived.Test.YtoijdkmkfhefjaaRows
import Derived.Test.YtoijdkmkfhefjaaExactAddFieldL73
import Derived.ProofKit
namespace Go.Proofs.Ytoijdkmkfhefjaa.laws_FnExactAddField
open Go.Abs Go.ChangeShapes Go.WideShapes Go.ChangeAt Go.RowKit
set_option maxRecDepth 100000
theorem own : ownKnob Try.prog.godebug = none := by kernel_rfl
theorem laidOut : laidOutB Try.prog = true := by kernel_rfl
theorem mixed : Try.prog.follows .mixedOrders = true := by kernel_rfl
noncomputable def con_laws_szFloat32S : Contract := gcC cnil laws_szFloat32S true
theorem sim_laws_szFloat32S : SimOk Try.prog 90 con_laws_szFloat32S := simOk_gc mixed (ctab_nil _) true Try.func90 Try.call90 (by kernel_rfl)
theorem law_laws_szFloat32S : laws_szFloat32S_ok  con_laws_szFloat32S := laws_szFloat32S_law 
noncomputable def con_laws_szSheet : Contract := gcC (cadd 90 con_laws_szFloat32S cnil) (laws_szSheet 90) true
theorem sim_laws_szSheet : SimOk Try.prog 45 con_laws_szSheet := simOk_gc mixed (ctab_add sim_laws_szFloat32S (ctab_nil _)) true Try.func45 Try.call45 (by kernel_rfl)
theorem law_laws_szSheet : laws_szSheet_ok  con_laws_szSheet := laws_szSheet_law ⟨rfl, rfl, law_laws_szFloat32S⟩
noncomputable def con_laws_szField : Contract := gcC (cadd 90 con_laws_szFloat32S cnil) (laws_szField 90) true
theorem sim_laws_szField : SimOk Try.prog 31 con_laws_szField := simOk_gc mixed (ctab_add sim_laws_szFloat32S (ctab_nil _)) true Try.func31 Try.call31 (by kernel_rfl)
theorem law_laws_szField : laws_szField_ok  con_laws_szField := laws_szField_law ⟨rfl, rfl, law_laws_szFloat32S⟩
noncomputable def con_laws_szFieldS : Contract := gcC (cadd 31 con_laws_szField cnil) (laws_szFieldS 31) true
theorem sim_laws_szFieldS : SimOk Try.prog 79 con_laws_szFieldS := simOk_gc mixed (ctab_add sim_laws_szField (ctab_nil _)) true Try.func79 Try.call79 (by kernel_rfl)
theorem law_laws_szFieldS : laws_szFieldS_ok  con_laws_szFieldS := laws_szFieldS_law ⟨rfl, rfl, law_laws_szField⟩
noncomputable def con_laws_szFilm : Contract := gcC (cadd 45 con_laws_szSheet (cadd 79 con_laws_szFieldS cnil)) (laws_szFilm 45 79) true
theorem sim_laws_szFilm : SimOk Try.prog 24 con_laws_szFilm := simOk_gc mixed (ctab_add sim_laws_szSheet (ctab_add sim_laws_szFieldS (ctab_nil _))) true Try.func24 Try.call24 (by kernel_rfl)
theorem law_laws_szFilm : laws_szFilm_ok  con_laws_szFilm := laws_szFilm_law ⟨rfl, rfl, law_laws_szSheet⟩ ⟨rfl, rfl, law_laws_szFieldS⟩
noncomputable def con_laws_toFloat32S : Contract := gcC cnil laws_toFloat32S true
theorem sim_laws_toFloat32S : SimOk Try.prog 93 con_laws_toFloat32S := simOk_gc mixed (ctab_nil _) true Try.func93 Try.call93 (by kernel_rfl)
theorem law_laws_toFloat32S : laws_toFloat32S_ok  con_laws_toFloat32S := laws_toFloat32S_law 
noncomputable def con_laws_toSheet : Contract := gcC (cadd 93 con_laws_toFloat32S cnil) (laws_toSheet 93) true
theorem sim_laws_toSheet : SimOk Try.prog 47 con_laws_toSheet := simOk_gc mixed (ctab_add sim_laws_toFloat32S (ctab_nil _)) true Try.func47 Try.call47 (by kernel_rfl)
theorem law_laws_toSheet : laws_toSheet_ok  con_laws_toSheet := laws_toSheet_law ⟨rfl, rfl, law_laws_toFloat32S⟩
noncomputable def con_laws_toField : Contract := gcC (cadd 93 con_laws_toFloat32S cnil) (laws_toField 93) true
theorem sim_laws_toField : SimOk Try.prog 33 con_laws_toField := simOk_gc mixed (ctab_add sim_laws_toFloat32S (ctab_nil _)) true Try.func33 Try.call33 (by kernel_rfl)
theorem law_laws_toField : laws_toField_ok  con_laws_toField := laws_toField_law ⟨rfl, rfl, law_laws_toFloat32S⟩
noncomputable def con_laws_toFieldS : Contract := bodyC (cadd 33 con_laws_toField cnil) (laws_toFieldS 33) true
theorem sim_laws_toFieldS : SimOk Try.prog 83 con_laws_toFieldS := simOk_body mixed (ctab_add sim_laws_toField (ctab_nil _)) true Try.func83 Try.call83 (by kernel_rfl)
theorem law_laws_toFieldS : laws_toFieldS_ok  con_laws_toFieldS := laws_toFieldS_law ⟨rfl, rfl, law_laws_toField⟩
noncomputable def con_laws_toFilm : Contract := bodyC (cadd 47 con_laws_toSheet (cadd 83 con_laws_toFieldS cnil)) (laws_toFilm 47 83) true
theorem sim_laws_toFilm : SimOk Try.prog 26 con_laws_toFilm := simOk_body mixed (ctab_add sim_laws_toSheet (ctab_add sim_laws_toFieldS (ctab_nil _))) true Try.func26 Try.call26 (by kernel_rfl)
theorem law_laws_toFilm : laws_toFilm_ok  con_laws_toFilm := laws_toFilm_law ⟨rfl, rfl, law_laws_toSheet⟩ ⟨rfl, rfl, law_laws_toFieldS⟩
noncomputable def con_spec_l00In : Contract := gcC cnil spec_l00In true
theorem sim_spec_l00In : SimOk Try.prog 81 con_spec_l00In := simOk_gc mixed (ctab_nil _) true Try.func81 Try.call81 (by kernel_rfl)
theorem law_spec_l00In : spec_l00In_ok  con_spec_l00In := spec_l00In_law 
noncomputable def con_spec_l02Sides : Contract := gcC (cadd 81 con_spec_l00In cnil) (spec_l02Sides 81) true
theorem sim_spec_l02Sides : SimOk Try.prog 151 con_spec_l02Sides := simOk_gc mixed (ctab_add sim_spec_l00In (ctab_nil _)) true Try.func151 Try.call151 (by kernel_rfl)
theorem law_spec_l02Sides : spec_l02Sides_ok  con_spec_l02Sides := spec_l02Sides_law ⟨rfl, rfl, law_spec_l00In⟩
noncomputable def con_spec_l02Is : Contract := gcC (cadd 151 con_spec_l02Sides cnil) (spec_l02Is 151) true
theorem sim_spec_l02Is : SimOk Try.prog 110 con_spec_l02Is := simOk_gc mixed (ctab_add sim_spec_l02Sides (ctab_nil _)) true Try.func110 Try.call110 (by kernel_rfl)
theorem law_spec_l02Is : spec_l02Is_ok  con_spec_l02Is := spec_l02Is_law ⟨rfl, rfl, law_spec_l02Sides⟩
noncomputable def con_spec_l02Border : Contract := gcC cnil spec_l02Border true
theorem sim_spec_l02Border : SimOk Try.prog 132 con_spec_l02Border := simOk_gc mixed (ctab_nil _) true Try.func132 Try.call132 (by kernel_rfl)
theorem law_spec_l02Border : spec_l02Border_ok  con_spec_l02Border := spec_l02Border_law 
noncomputable def con_spec_l02Fits : Contract := gcC (cadd 132 con_spec_l02Border cnil) (spec_l02Fits 132) true
theorem sim_spec_l02Fits : SimOk Try.prog 91 con_spec_l02Fits := simOk_gc mixed (ctab_add sim_spec_l02Border (ctab_nil _)) true Try.func91 Try.call91 (by kernel_rfl)
theorem law_spec_l02Fits : spec_l02Fits_ok  con_spec_l02Fits := spec_l02Fits_law ⟨rfl, rfl, law_spec_l02Border⟩
theorem law_spec_l02FitsE : spec_l02FitsE_ok con_spec_l02Fits := spec_l02FitsE_law ⟨rfl, rfl, law_spec_l02Border⟩
noncomputable def con_spec_l10Is : Contract := gcC (cadd 110 con_spec_l02Is (cadd 91 con_spec_l02Fits cnil)) (spec_l10Is 110 91) true
theorem sim_spec_l10Is : SimOk Try.prog 80 con_spec_l10Is := simOk_gc mixed (ctab_add sim_spec_l02Is (ctab_add sim_spec_l02Fits (ctab_nil _))) true Try.func80 Try.call80 (by kernel_rfl)
theorem law_spec_l10Is : spec_l10Is_ok  con_spec_l10Is := spec_l10Is_law ⟨rfl, rfl, law_spec_l02Is⟩ ⟨rfl, rfl, law_spec_l02FitsE⟩
noncomputable def con_spec_l10Sheet : Contract := gcC cnil spec_l10Sheet true
theorem sim_spec_l10Sheet : SimOk Try.prog 111 con_spec_l10Sheet := simOk_gc mixed (ctab_nil _) true Try.func111 Try.call111 (by kernel_rfl)
theorem law_spec_l10Sheet : spec_l10Sheet_ok  con_spec_l10Sheet := spec_l10Sheet_law 
noncomputable def con_spec_l02Own : Contract := gcC cnil spec_l02Own true
theorem sim_spec_l02Own : SimOk Try.prog 92 con_spec_l02Own := simOk_gc mixed (ctab_nil _) true Try.func92 Try.call92 (by kernel_rfl)
theorem law_spec_l02Own : spec_l02Own_ok  con_spec_l02Own := spec_l02Own_law 
theorem law_spec_l02OwnE : spec_l02OwnE_ok con_spec_l02Own := spec_l02OwnE_law 
noncomputable def con_spec_l10Some : Contract := bodyC (cadd 111 con_spec_l10Sheet (cadd 92 con_spec_l02Own cnil)) (spec_l10Some 111 92) true
theorem sim_spec_l10Some : SimOk Try.prog 82 con_spec_l10Some := simOk_body mixed (ctab_add sim_spec_l10Sheet (ctab_add sim_spec_l02Own (ctab_nil _))) true Try.func82 Try.call82 (by kernel_rfl)
theorem law_spec_l10Some : spec_l10Some_ok  con_spec_l10Some := spec_l10Some_law ⟨rfl, rfl, law_spec_l10Sheet⟩ ⟨rfl, rfl, law_spec_l02OwnE⟩
noncomputable def con_spec_AddField : Contract := bodyC (cadd 80 con_spec_l10Is (cadd 91 con_spec_l02Fits (cadd 82 con_spec_l10Some (cadd 92 con_spec_l02Own cnil)))) (spec_AddField 80 91 82 92) true
theorem sim_spec_AddField : SimOk Try.prog 32 con_spec_AddField := simOk_body mixed (ctab_add sim_spec_l10Is (ctab_add sim_spec_l02Fits (ctab_add sim_spec_l10Some (ctab_add sim_spec_l02Own (ctab_nil _))))) true Try.func32 Try.call32 (by kernel_rfl)
theorem law_spec_AddField : spec_AddField_ok  con_spec_AddField := spec_AddField_law ⟨rfl, rfl, law_spec_l10Is⟩ ⟨rfl, rfl, law_spec_l02Fits⟩ ⟨rfl, rfl, law_spec_l10Some⟩ ⟨rfl, rfl, law_spec_l02Own⟩
noncomputable def con_impl_within : Contract := gcC cnil impl_within true
theorem sim_impl_within : SimOk Try.prog 75 con_impl_within := simOk_gc mixed (ctab_nil _) true Try.func75 Try.call75 (by kernel_rfl)
theorem law_impl_within : impl_within_ok  con_impl_within := impl_within_law 
noncomputable def con_impl_areBetween : Contract := gcC cnil impl_areBetween true
theorem sim_impl_areBetween : SimOk Try.prog 76 con_impl_areBetween := simOk_gc mixed (ctab_nil _) true Try.func76 Try.call76 (by kernel_rfl)
theorem law_impl_areBetween : impl_areBetween_ok  con_impl_areBetween := impl_areBetween_law 
noncomputable def con_impl_ValidSheet : Contract := gcC (cadd 75 con_impl_within (cadd 76 con_impl_areBetween cnil)) (impl_ValidSheet 75 76) true
theorem sim_impl_ValidSheet : SimOk Try.prog 21 con_impl_ValidSheet := simOk_gc mixed (ctab_add sim_impl_within (ctab_add sim_impl_areBetween (ctab_nil _))) true Try.func21 Try.call21 (by kernel_rfl)
theorem law_impl_ValidSheet : impl_ValidSheet_ok  con_impl_ValidSheet := impl_ValidSheet_law ⟨rfl, rfl, law_impl_within⟩ ⟨rfl, rfl, law_impl_areBetween⟩
noncomputable def con_impl_Sheet_isBorder : Contract := gcC cnil impl_Sheet_isBorder true
theorem sim_impl_Sheet_isBorder : SimOk Try.prog 141 con_impl_Sheet_isBorder := simOk_gc mixed (ctab_nil _) true Try.func141 Try.call141 (by kernel_rfl)
theorem law_impl_Sheet_isBorder : impl_Sheet_isBorder_ok  con_impl_Sheet_isBorder := impl_Sheet_isBorder_law 
noncomputable def con_impl_IsField : Contract := gcC (cadd 21 con_impl_ValidSheet (cadd 141 con_impl_Sheet_isBorder cnil)) (impl_IsField 21 141) true
theorem sim_impl_IsField : SimOk Try.prog 100 con_impl_IsField := simOk_gc mixed (ctab_add sim_impl_ValidSheet (ctab_add sim_impl_Sheet_isBorder (ctab_nil _))) true Try.func100 Try.call100 (by kernel_rfl)
theorem law_impl_IsField : impl_IsField_ok  con_impl_IsField := impl_IsField_law ⟨rfl, rfl, law_impl_ValidSheet⟩ ⟨rfl, rfl, law_impl_Sheet_isBorder⟩
noncomputable def con_impl_ValidFilmC1 : Contract := gcC (cadd 100 con_impl_IsField cnil) (impl_ValidFilmC1 100) true
theorem sim_impl_ValidFilmC1 : SimOk Try.prog 139 con_impl_ValidFilmC1 := simOk_gc mixed (ctab_add sim_impl_IsField (ctab_nil _)) true Try.func139 Try.call139 (by kernel_rfl)
theorem law_impl_ValidFilmC1 : impl_ValidFilmC1_ok  con_impl_ValidFilmC1 := impl_ValidFilmC1_law ⟨rfl, rfl, law_impl_IsField⟩
noncomputable def con_slices_IndexFunc_Field__impl_ValidFilm : Contract := gcC (cadd 139 con_impl_ValidFilmC1 cnil) slices_IndexFunc_Field true
theorem sim_slices_IndexFunc_Field__impl_ValidFilm : SimOk Try.prog 172 con_slices_IndexFunc_Field__impl_ValidFilm := simOk_gc mixed (ctab_add sim_impl_ValidFilmC1 (ctab_nil _)) true Try.func172 Try.call172 (by kernel_rfl)
theorem law_slices_IndexFunc_Field__impl_ValidFilm : slices_IndexFunc_Field_ok 139 con_impl_ValidFilmC1 con_slices_IndexFunc_Field__impl_ValidFilm := slices_IndexFunc_Field_law rfl
noncomputable def con_slices_ContainsFunc_Field__impl_ValidFilm : Contract := gcC (cadd 172 con_slices_IndexFunc_Field__impl_ValidFilm cnil) (slices_ContainsFunc_Field 172) true
theorem sim_slices_ContainsFunc_Field__impl_ValidFilm : SimOk Try.prog 138 con_slices_ContainsFunc_Field__impl_ValidFilm := simOk_gc mixed (ctab_add sim_slices_IndexFunc_Field__impl_ValidFilm (ctab_nil _)) true Try.func138 Try.call138 (by kernel_rfl)
theorem law_slices_ContainsFunc_Field__impl_ValidFilm : slices_ContainsFunc_Field_ok 139 con_impl_ValidFilmC1 con_slices_ContainsFunc_Field__impl_ValidFilm := slices_ContainsFunc_Field_law ⟨rfl, rfl, law_slices_IndexFunc_Field__impl_ValidFilm⟩
noncomputable def con_impl_ValidFilm : Contract := gcC (cadd 21 con_impl_ValidSheet (cadd 139 con_impl_ValidFilmC1 (cadd 138 con_slices_ContainsFunc_Field__impl_ValidFilm cnil))) (impl_ValidFilm 21 139 138) true
theorem sim_impl_ValidFilm : SimOk Try.prog 84 con_impl_ValidFilm := simOk_gc mixed (ctab_add sim_impl_ValidSheet (ctab_add sim_impl_ValidFilmC1 (ctab_add sim_slices_ContainsFunc_Field__impl_ValidFilm (ctab_nil _)))) true Try.func84 Try.call84 (by kernel_rfl)
theorem law_impl_ValidFilm : impl_ValidFilm_ok  con_impl_ValidFilm := impl_ValidFilm_law ⟨rfl, rfl, law_impl_ValidSheet⟩ law_impl_ValidFilmC1 ⟨rfl, rfl, law_slices_ContainsFunc_Field__impl_ValidFilm⟩
noncomputable def con_impl_copyOf : Contract := gcC cnil impl_copyOf true
theorem sim_impl_copyOf : SimOk Try.prog 126 con_impl_copyOf := simOk_gc mixed (ctab_nil _) true Try.func126 Try.call126 (by kernel_rfl)
theorem law_impl_copyOf : impl_copyOf_ok  con_impl_copyOf := impl_copyOf_law 
noncomputable def con_impl_copySheet : Contract := gcC (cadd 126 con_impl_copyOf cnil) (impl_copySheet 126) true
theorem sim_impl_copySheet : SimOk Try.prog 65 con_impl_copySheet := simOk_gc mixed (ctab_add sim_impl_copyOf (ctab_nil _)) true Try.func65 Try.call65 (by kernel_rfl)
theorem law_impl_copySheet : impl_copySheet_ok  con_impl_copySheet := impl_copySheet_law ⟨rfl, rfl, law_impl_copyOf⟩
noncomputable def con_impl_copyField : Contract := gcC (cadd 126 con_impl_copyOf cnil) (impl_copyField 126) true
theorem sim_impl_copyField : SimOk Try.prog 95 con_impl_copyField := simOk_gc mixed (ctab_add sim_impl_copyOf (ctab_nil _)) true Try.func95 Try.call95 (by kernel_rfl)
theorem law_impl_copyField : impl_copyField_ok  con_impl_copyField := impl_copyField_law ⟨rfl, rfl, law_impl_copyOf⟩
noncomputable def con_impl_copyFields : Contract := bodyC (cadd 95 con_impl_copyField cnil) (impl_copyFields 95) true
theorem sim_impl_copyFields : SimOk Try.prog 85 con_impl_copyFields := simOk_body mixed (ctab_add sim_impl_copyField (ctab_nil _)) true Try.func85 Try.call85 (by kernel_rfl)
theorem law_impl_copyFields : impl_copyFields_ok  con_impl_copyFields := impl_copyFields_law ⟨rfl, rfl, law_impl_copyField⟩
noncomputable def con_impl_validFilm : Contract := bodyC (cadd 84 con_impl_ValidFilm cnil) (impl_validFilm 84) true
theorem sim_impl_validFilm : SimOk Try.prog 94 con_impl_validFilm := simOk_body mixed (ctab_add sim_impl_ValidFilm (ctab_nil _)) true Try.func94 Try.call94 (by kernel_rfl)
theorem law_impl_validFilm : impl_validFilm_ok  con_impl_validFilm := impl_validFilm_law ⟨rfl, rfl, law_impl_ValidFilm⟩
noncomputable def con_impl_AddField : Contract := bodyC (cadd 84 con_impl_ValidFilm (cadd 65 con_impl_copySheet (cadd 85 con_impl_copyFields (cadd 95 con_impl_copyField (cadd 94 con_impl_validFilm cnil))))) (impl_AddField 84 65 85 95 94) true
theorem sim_impl_AddField : SimOk Try.prog 34 con_impl_AddField := simOk_body mixed (ctab_add sim_impl_ValidFilm (ctab_add sim_impl_copySheet (ctab_add sim_impl_copyFields (ctab_add sim_impl_copyField (ctab_add sim_impl_validFilm (ctab_nil _)))))) true Try.func34 Try.call34 (by kernel_rfl)
theorem law_impl_AddField : impl_AddField_ok  con_impl_AddField := impl_AddField_law ⟨rfl, rfl, law_impl_ValidFilm⟩ ⟨rfl, rfl, law_impl_copySheet⟩ ⟨rfl, rfl, law_impl_copyFields⟩ ⟨rfl, rfl, law_impl_copyField⟩ ⟨rfl, rfl, law_impl_validFilm⟩
noncomputable def con_laws_sameFloat : Contract := gcC cnil laws_sameFloat true
theorem sim_laws_sameFloat : SimOk Try.prog 140 con_laws_sameFloat := simOk_gc mixed (ctab_nil _) true Try.func140 Try.call140 (by kernel_rfl)
theorem law_laws_sameFloat : laws_sameFloat_ok  con_laws_sameFloat := laws_sameFloat_law 
noncomputable def con_laws_eqFloat32S : Contract := gcC (cadd 140 con_laws_sameFloat cnil) (laws_eqFloat32S 140) true
theorem sim_laws_eqFloat32S : SimOk Try.prog 96 con_laws_eqFloat32S := simOk_gc mixed (ctab_add sim_laws_sameFloat (ctab_nil _)) true Try.func96 Try.call96 (by kernel_rfl)
theorem law_laws_eqFloat32S : laws_eqFloat32S_ok  con_laws_eqFloat32S := laws_eqFloat32S_law ⟨rfl, rfl, law_laws_sameFloat⟩
noncomputable def con_laws_eqSheet : Contract := gcC (cadd 96 con_laws_eqFloat32S cnil) (laws_eqSheet 96) true
theorem sim_laws_eqSheet : SimOk Try.prog 49 con_laws_eqSheet := simOk_gc mixed (ctab_add sim_laws_eqFloat32S (ctab_nil _)) true Try.func49 Try.call49 (by kernel_rfl)
theorem law_laws_eqSheet : laws_eqSheet_ok  con_laws_eqSheet := laws_eqSheet_law ⟨rfl, rfl, law_laws_eqFloat32S⟩
noncomputable def con_laws_eqField : Contract := gcC (cadd 96 con_laws_eqFloat32S cnil) (laws_eqField 96) true
theorem sim_laws_eqField : SimOk Try.prog 35 con_laws_eqField := simOk_gc mixed (ctab_add sim_laws_eqFloat32S (ctab_nil _)) true Try.func35 Try.call35 (by kernel_rfl)
theorem law_laws_eqField : laws_eqField_ok  con_laws_eqField := laws_eqField_law ⟨rfl, rfl, law_laws_eqFloat32S⟩
noncomputable def con_laws_eqFieldS : Contract := gcC (cadd 35 con_laws_eqField cnil) (laws_eqFieldS 35) true
theorem sim_laws_eqFieldS : SimOk Try.prog 86 con_laws_eqFieldS := simOk_gc mixed (ctab_add sim_laws_eqField (ctab_nil _)) true Try.func86 Try.call86 (by kernel_rfl)
theorem law_laws_eqFieldS : laws_eqFieldS_ok  con_laws_eqFieldS := laws_eqFieldS_law ⟨rfl, rfl, law_laws_eqField⟩
noncomputable def con_laws_eqFilm : Contract := gcC (cadd 49 con_laws_eqSheet (cadd 86 con_laws_eqFieldS cnil)) (laws_eqFilm 49 86) true
theorem sim_laws_eqFilm : SimOk Try.prog 28 con_laws_eqFilm := simOk_gc mixed (ctab_add sim_laws_eqSheet (ctab_add sim_laws_eqFieldS (ctab_nil _))) true Try.func28 Try.call28 (by kernel_rfl)
theorem law_laws_eqFilm : laws_eqFilm_ok  con_laws_eqFilm := laws_eqFilm_law ⟨rfl, rfl, law_laws_eqSheet⟩ ⟨rfl, rfl, law_laws_eqFieldS⟩
noncomputable def con_laws_markFloat32S : Contract := gcC cnil laws_markFloat32S false
theorem sim_laws_markFloat32S : SimOk Try.prog 97 con_laws_markFloat32S := simOk_gc mixed (ctab_nil _) false Try.func97 Try.call97 (by kernel_rfl)
theorem law_laws_markFloat32S : laws_markFloat32S_ok  con_laws_markFloat32S := laws_markFloat32S_law 
noncomputable def con_laws_markSheet : Contract := gcC (cadd 97 con_laws_markFloat32S cnil) (laws_markSheet 97) false
theorem sim_laws_markSheet : SimOk Try.prog 50 con_laws_markSheet := simOk_gc mixed (ctab_add sim_laws_markFloat32S (ctab_nil _)) false Try.func50 Try.call50 (by kernel_rfl)
theorem law_laws_markSheet : laws_markSheet_ok  con_laws_markSheet := laws_markSheet_law ⟨rfl, law_laws_markFloat32S⟩
noncomputable def con_laws_markFieldS : Contract := bodyC (cadd 97 con_laws_markFloat32S cnil) (laws_markFieldS 97) false
theorem sim_laws_markFieldS : SimOk Try.prog 87 con_laws_markFieldS := simOk_body mixed (ctab_add sim_laws_markFloat32S (ctab_nil _)) false Try.func87 Try.call87 (by kernel_rfl)
theorem law_laws_markFieldS : laws_markFieldS_ok  con_laws_markFieldS := laws_markFieldS_law ⟨rfl, law_laws_markFloat32S⟩
noncomputable def con_laws_markFilm : Contract := bodyC (cadd 50 con_laws_markSheet (cadd 87 con_laws_markFieldS cnil)) (laws_markFilm 50 87) false
theorem sim_laws_markFilm : SimOk Try.prog 29 con_laws_markFilm := simOk_body mixed (ctab_add sim_laws_markSheet (ctab_add sim_laws_markFieldS (ctab_nil _))) false Try.func29 Try.call29 (by kernel_rfl)
theorem law_laws_markFilm : laws_markFilm_ok  con_laws_markFilm := laws_markFilm_law ⟨rfl, law_laws_markSheet⟩ ⟨rfl, law_laws_markFieldS⟩
noncomputable def con_laws_markField : Contract := gcC (cadd 97 con_laws_markFloat32S cnil) (laws_markField 97) false
theorem sim_laws_markField : SimOk Try.prog 36 con_laws_markField := simOk_gc mixed (ctab_add sim_laws_markFloat32S (ctab_nil _)) false Try.func36 Try.call36 (by kernel_rfl)
theorem law_laws_markField : laws_markField_ok  con_laws_markField := laws_markField_law ⟨rfl, law_laws_markFloat32S⟩
noncomputable def con_laws_heldFloat32S : Contract := gcC cnil laws_heldFloat32S true
theorem sim_laws_heldFloat32S : SimOk Try.prog 109 con_laws_heldFloat32S := simOk_gc mixed (ctab_nil _) true Try.func109 Try.call109 (by kernel_rfl)
theorem law_laws_heldFloat32S : laws_heldFloat32S_ok  con_laws_heldFloat32S := laws_heldFloat32S_law 
noncomputable def con_laws_heldSheet : Contract := gcC (cadd 109 con_laws_heldFloat32S cnil) (laws_heldSheet 109) true
theorem sim_laws_heldSheet : SimOk Try.prog 88 con_laws_heldSheet := simOk_gc mixed (ctab_add sim_laws_heldFloat32S (ctab_nil _)) true Try.func88 Try.call88 (by kernel_rfl)
theorem law_laws_heldSheet : laws_heldSheet_ok  con_laws_heldSheet := laws_heldSheet_law ⟨rfl, rfl, law_laws_heldFloat32S⟩
noncomputable def con_laws_heldFieldS : Contract := gcC (cadd 109 con_laws_heldFloat32S cnil) (laws_heldFieldS 109) true
theorem sim_laws_heldFieldS : SimOk Try.prog 89 con_laws_heldFieldS := simOk_gc mixed (ctab_add sim_laws_heldFloat32S (ctab_nil _)) true Try.func89 Try.call89 (by kernel_rfl)
theorem law_laws_heldFieldS : laws_heldFieldS_ok  con_laws_heldFieldS := laws_heldFieldS_law ⟨rfl, rfl, law_laws_heldFloat32S⟩
noncomputable def con_laws_heldFilm : Contract := gcC (cadd 88 con_laws_heldSheet (cadd 89 con_laws_heldFieldS cnil)) (laws_heldFilm 88 89) true
theorem sim_laws_heldFilm : SimOk Try.prog 30 con_laws_heldFilm := simOk_gc mixed (ctab_add sim_laws_heldSheet (ctab_add sim_laws_heldFieldS (ctab_nil _))) true Try.func30 Try.call30 (by kernel_rfl)
theorem law_laws_heldFilm : laws_heldFilm_ok  con_laws_heldFilm := laws_heldFilm_law ⟨rfl, rfl, law_laws_heldSheet⟩ ⟨rfl, rfl, law_laws_heldFieldS⟩
noncomputable def con_laws_FnExactAddField : Contract := gcC (cadd 24 con_laws_szFilm (cadd 31 con_laws_szField (cadd 26 con_laws_toFilm (cadd 33 con_laws_toField (cadd 32 con_spec_AddField (cadd 34 con_impl_AddField (cadd 28 con_laws_eqFilm (cadd 35 con_laws_eqField (cadd 29 con_laws_markFilm (cadd 36 con_laws_markField (cadd 30 con_laws_heldFilm cnil))))))))))) (laws_FnExactAddField 24 31 26 33 32 34 28 35 29 36 30) true
theorem sim_laws_FnExactAddField : SimOk Try.prog 5 con_laws_FnExactAddField := simOk_gc mixed (ctab_add sim_laws_szFilm (ctab_add sim_laws_szField (ctab_add sim_laws_toFilm (ctab_add sim_laws_toField (ctab_add sim_spec_AddField (ctab_add sim_impl_AddField (ctab_add sim_laws_eqFilm (ctab_add sim_laws_eqField (ctab_add sim_laws_markFilm (ctab_add sim_laws_markField (ctab_add sim_laws_heldFilm (ctab_nil _)))))))))))) true Try.func5 Try.call5 (by kernel_rfl)
theorem law_laws_FnExactAddField : laws_FnExactAddField_ok  con_laws_FnExactAddField := laws_FnExactAddField_law ⟨rfl, rfl, law_laws_szFilm⟩ ⟨rfl, rfl, law_laws_szField⟩ ⟨rfl, rfl, law_laws_toFilm⟩ ⟨rfl, rfl, law_laws_toField⟩ ⟨rfl, rfl, law_spec_AddField⟩ ⟨rfl, rfl, law_impl_AddField⟩ ⟨rfl, rfl, law_laws_eqFilm⟩ ⟨rfl, rfl, law_laws_eqField⟩ ⟨rfl, law_laws_markFilm⟩ ⟨rfl, law_laws_markField⟩ ⟨rfl, rfl, law_laws_heldFilm⟩
theorem lifted (os : Os) (started : os.Started) (H : Type) (enc : TypeId × Value → H) :
    ReturnsInHanded {} Try.checked os 5 .any (Rows.fnExactAddFieldSpec.pre6 enc Try.prog Try.f5 Rows.fnExactAddFieldRow.domain false) (Rows.fnExactAddFieldSpec.post enc Try.prog Try.f5 false true false false) := by
  refine returnsInHanded_of_change (C := Try.checked) own started (by kernel_rfl) Try.func5
    (ChangeSpec.witness6 (enc := enc) (C := Try.checked) false ⟨#[], #[.agg #[.int .i64 0, .int .i64 0, .bool false, .slice none 0 0, .slice none 0 0, .slice none 0 0], .agg #[.slice none 0 0, .slice none 0 0, .slice none 0 0]], []⟩ 8 (by kernel_rfl) (by kernel_rfl) (by kernel_rfl) (by kernel_rfl)) ?_
  intro W base args ds gs before hval hW _ _
  exact row_contract (P := Try.prog) (fn := Try.f5) (d := 8) (sh := [filmK, fieldK]) (n := 2) sim_laws_FnExactAddField Try.call5 (by kernel_rfl) law_laws_FnExactAddField laidOut (by kernel_rfl) rfl rfl (by kernel_rfl) (by kernel_rfl)
    (fun ds h => by match ds, h with | [_, _], _ => rfl) hval hW
theorem holds : Rows.FnExactAddFieldSaid :=
  OpenClaim.holds_of_wide 5 Try.f5 rfl rfl rfl rfl rfl rfl rfl ⟨rfl, rfl, rfl, rfl, rfl⟩ rfl rfl rfl rfl rfl (by kernel_rfl) Try.func5 (by kernel_rfl)
    (of_decide_eq_true (by kernel_rfl)) (by unfold Func.isWrapper; first | (rw [if_pos (by decide +kernel)]; kernel_rfl) | (rw [if_neg (by decide +kernel)]; exact ⟨rfl, rfl⟩))
    (fun os started H enc _ => lifted os started H enc)
end Go.Proofs.Ytoijdkmkfhefjaa.laws_FnExactAddField
