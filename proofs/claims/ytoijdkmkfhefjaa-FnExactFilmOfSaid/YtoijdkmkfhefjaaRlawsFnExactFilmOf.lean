/- The row FnExactFilmOf: it returns true whatever its arguments, and leaves them. No condition. -/
import Derived.Test.YtoijdkmkfhefjaaRows
import Derived.Test.YtoijdkmkfhefjaaExactFilmOfL82
import Derived.ProofKit
namespace Go.Proofs.Ytoijdkmkfhefjaa.laws_FnExactFilmOf
open Go.Abs Go.ChangeShapes Go.WideShapes Go.ChangeAt Go.RowKit
set_option maxRecDepth 100000
theorem own : ownKnob Try.prog.godebug = none := by kernel_rfl
theorem laidOut : laidOutB Try.prog = true := by kernel_rfl
theorem mixed : Try.prog.follows .mixedOrders = true := by kernel_rfl
noncomputable def con_laws_szFloat32S : Contract := gcC cnil laws_szFloat32S true
theorem sim_laws_szFloat32S : SimOk Try.prog 90 con_laws_szFloat32S := simOk_gc mixed (ctab_nil _) true Try.func90 Try.call90 (by kernel_rfl)
theorem law_laws_szFloat32S : laws_szFloat32S_ok  con_laws_szFloat32S := laws_szFloat32S_law 
noncomputable def con_laws_szSheet : Contract := gcC (cadd 90 con_laws_szFloat32S cnil) (laws_szSheet 90) true
theorem sim_laws_szSheet : SimOk Try.prog 45 con_laws_szSheet := simOk_gc mixed (ctab_add sim_laws_szFloat32S (ctab_nil _)) true Try.func45 Try.call45 (by kernel_rfl)
theorem law_laws_szSheet : laws_szSheet_ok  con_laws_szSheet := laws_szSheet_law ⟨rfl, rfl, law_laws_szFloat32S⟩
noncomputable def con_laws_szField : Contract := gcC (cadd 90 con_laws_szFloat32S cnil) (laws_szField 90) true
theorem sim_laws_szField : SimOk Try.prog 31 con_laws_szField := simOk_gc mixed (ctab_add sim_laws_szFloat32S (ctab_nil _)) true Try.func31 Try.call31 (by kernel_rfl)
theorem law_laws_szField : laws_szField_ok  con_laws_szField := laws_szField_law ⟨rfl, rfl, law_laws_szFloat32S⟩
noncomputable def con_laws_toFloat32S : Contract := gcC cnil laws_toFloat32S true
theorem sim_laws_toFloat32S : SimOk Try.prog 93 con_laws_toFloat32S := simOk_gc mixed (ctab_nil _) true Try.func93 Try.call93 (by kernel_rfl)
theorem law_laws_toFloat32S : laws_toFloat32S_ok  con_laws_toFloat32S := laws_toFloat32S_law 
noncomputable def con_laws_toSheet : Contract := gcC (cadd 93 con_laws_toFloat32S cnil) (laws_toSheet 93) true
theorem sim_laws_toSheet : SimOk Try.prog 47 con_laws_toSheet := simOk_gc mixed (ctab_add sim_laws_toFloat32S (ctab_nil _)) true Try.func47 Try.call47 (by kernel_rfl)
theorem law_laws_toSheet : laws_toSheet_ok  con_laws_toSheet := laws_toSheet_law ⟨rfl, rfl, law_laws_toFloat32S⟩
noncomputable def con_laws_toField : Contract := gcC (cadd 93 con_laws_toFloat32S cnil) (laws_toField 93) true
theorem sim_laws_toField : SimOk Try.prog 33 con_laws_toField := simOk_gc mixed (ctab_add sim_laws_toFloat32S (ctab_nil _)) true Try.func33 Try.call33 (by kernel_rfl)
theorem law_laws_toField : laws_toField_ok  con_laws_toField := laws_toField_law ⟨rfl, rfl, law_laws_toFloat32S⟩
noncomputable def con_spec_l00In : Contract := gcC cnil spec_l00In true
theorem sim_spec_l00In : SimOk Try.prog 81 con_spec_l00In := simOk_gc mixed (ctab_nil _) true Try.func81 Try.call81 (by kernel_rfl)
theorem law_spec_l00In : spec_l00In_ok  con_spec_l00In := spec_l00In_law 
noncomputable def con_spec_l02Sides : Contract := gcC (cadd 81 con_spec_l00In cnil) (spec_l02Sides 81) true
theorem sim_spec_l02Sides : SimOk Try.prog 151 con_spec_l02Sides := simOk_gc mixed (ctab_add sim_spec_l00In (ctab_nil _)) true Try.func151 Try.call151 (by kernel_rfl)
theorem law_spec_l02Sides : spec_l02Sides_ok  con_spec_l02Sides := spec_l02Sides_law ⟨rfl, rfl, law_spec_l00In⟩
noncomputable def con_spec_l02Is : Contract := gcC (cadd 151 con_spec_l02Sides cnil) (spec_l02Is 151) true
theorem sim_spec_l02Is : SimOk Try.prog 110 con_spec_l02Is := simOk_gc mixed (ctab_add sim_spec_l02Sides (ctab_nil _)) true Try.func110 Try.call110 (by kernel_rfl)
theorem law_spec_l02Is : spec_l02Is_ok  con_spec_l02Is := spec_l02Is_law ⟨rfl, rfl, law_spec_l02Sides⟩
noncomputable def con_spec_l02Border : Contract := gcC cnil spec_l02Border true
theorem sim_spec_l02Border : SimOk Try.prog 132 con_spec_l02Border := simOk_gc mixed (ctab_nil _) true Try.func132 Try.call132 (by kernel_rfl)
theorem law_spec_l02Border : spec_l02Border_ok  con_spec_l02Border := spec_l02Border_law 
noncomputable def con_spec_l02Fits : Contract := gcC (cadd 132 con_spec_l02Border cnil) (spec_l02Fits 132) true
theorem sim_spec_l02Fits : SimOk Try.prog 91 con_spec_l02Fits := simOk_gc mixed (ctab_add sim_spec_l02Border (ctab_nil _)) true Try.func91 Try.call91 (by kernel_rfl)
theorem law_spec_l02Fits : spec_l02Fits_ok  con_spec_l02Fits := spec_l02Fits_law ⟨rfl, rfl, law_spec_l02Border⟩
noncomputable def con_spec_l10Sheet : Contract := gcC cnil spec_l10Sheet true
theorem sim_spec_l10Sheet : SimOk Try.prog 111 con_spec_l10Sheet := simOk_gc mixed (ctab_nil _) true Try.func111 Try.call111 (by kernel_rfl)
theorem law_spec_l10Sheet : spec_l10Sheet_ok  con_spec_l10Sheet := spec_l10Sheet_law 
noncomputable def con_spec_l02Own : Contract := gcC cnil spec_l02Own true
theorem sim_spec_l02Own : SimOk Try.prog 92 con_spec_l02Own := simOk_gc mixed (ctab_nil _) true Try.func92 Try.call92 (by kernel_rfl)
theorem law_spec_l02Own : spec_l02Own_ok  con_spec_l02Own := spec_l02Own_law 
noncomputable def con_spec_l03At : Contract := gcC cnil spec_l03At true
theorem sim_spec_l03At : SimOk Try.prog 154 con_spec_l03At := simOk_gc mixed (ctab_nil _) true Try.func154 Try.call154 (by kernel_rfl)
theorem law_spec_l03At : spec_l03At_ok  con_spec_l03At := spec_l03At_law 
noncomputable def con_spec_l03HalfX : Contract := gcC (cadd 154 con_spec_l03At cnil) (spec_l03HalfX 154) true
theorem sim_spec_l03HalfX : SimOk Try.prog 181 con_spec_l03HalfX := simOk_gc mixed (ctab_add sim_spec_l03At (ctab_nil _)) true Try.func181 Try.call181 (by kernel_rfl)
theorem law_spec_l03HalfX : spec_l03HalfX_ok  con_spec_l03HalfX := spec_l03HalfX_law ⟨rfl, rfl, law_spec_l03At⟩
noncomputable def con_spec_l03HalfY : Contract := gcC (cadd 154 con_spec_l03At cnil) (spec_l03HalfY 154) true
theorem sim_spec_l03HalfY : SimOk Try.prog 182 con_spec_l03HalfY := simOk_gc mixed (ctab_add sim_spec_l03At (ctab_nil _)) true Try.func182 Try.call182 (by kernel_rfl)
theorem law_spec_l03HalfY : spec_l03HalfY_ok  con_spec_l03HalfY := spec_l03HalfY_law ⟨rfl, rfl, law_spec_l03At⟩
noncomputable def con_spec_l03Half : Contract := gcC (cadd 92 con_spec_l02Own (cadd 154 con_spec_l03At (cadd 181 con_spec_l03HalfX (cadd 182 con_spec_l03HalfY cnil)))) (spec_l03Half 92 154 181 182) true
theorem sim_spec_l03Half : SimOk Try.prog 152 con_spec_l03Half := simOk_gc mixed (ctab_add sim_spec_l02Own (ctab_add sim_spec_l03At (ctab_add sim_spec_l03HalfX (ctab_add sim_spec_l03HalfY (ctab_nil _))))) true Try.func152 Try.call152 (by kernel_rfl)
theorem law_spec_l03Half : spec_l03Half_ok  con_spec_l03Half := spec_l03Half_law ⟨rfl, rfl, law_spec_l02Own⟩ ⟨rfl, rfl, law_spec_l03At⟩ ⟨rfl, rfl, law_spec_l03HalfX⟩ ⟨rfl, rfl, law_spec_l03HalfY⟩
noncomputable def con_spec_l03Rest : Contract := gcC (cadd 154 con_spec_l03At (cadd 132 con_spec_l02Border cnil)) (spec_l03Rest 154 132) true
theorem sim_spec_l03Rest : SimOk Try.prog 153 con_spec_l03Rest := simOk_gc mixed (ctab_add sim_spec_l03At (ctab_add sim_spec_l02Border (ctab_nil _))) true Try.func153 Try.call153 (by kernel_rfl)
theorem law_spec_l03Rest : spec_l03Rest_ok  con_spec_l03Rest := spec_l03Rest_law ⟨rfl, rfl, law_spec_l03At⟩ ⟨rfl, rfl, law_spec_l02Border⟩
noncomputable def con_spec_l03Step : Contract := gcC (cadd 152 con_spec_l03Half (cadd 92 con_spec_l02Own (cadd 154 con_spec_l03At (cadd 153 con_spec_l03Rest cnil)))) (spec_l03Step 152 92 154 153) true
theorem sim_spec_l03Step : SimOk Try.prog 112 con_spec_l03Step := simOk_gc mixed (ctab_add sim_spec_l03Half (ctab_add sim_spec_l02Own (ctab_add sim_spec_l03At (ctab_add sim_spec_l03Rest (ctab_nil _))))) true Try.func112 Try.call112 (by kernel_rfl)
theorem law_spec_l03Step : spec_l03Step_ok  con_spec_l03Step := spec_l03Step_law ⟨rfl, rfl, law_spec_l03Half⟩ ⟨rfl, rfl, law_spec_l02Own⟩ ⟨rfl, rfl, law_spec_l03At⟩ ⟨rfl, rfl, law_spec_l03Rest⟩
noncomputable def con_spec_FilmOf : Contract := bodyC (cadd 110 con_spec_l02Is (cadd 91 con_spec_l02Fits (cadd 81 con_spec_l00In (cadd 111 con_spec_l10Sheet (cadd 92 con_spec_l02Own (cadd 112 con_spec_l03Step cnil)))))) (spec_FilmOf 110 91 81 111 92 112) true
theorem sim_spec_FilmOf : SimOk Try.prog 52 con_spec_FilmOf := simOk_body mixed (ctab_add sim_spec_l02Is (ctab_add sim_spec_l02Fits (ctab_add sim_spec_l00In (ctab_add sim_spec_l10Sheet (ctab_add sim_spec_l02Own (ctab_add sim_spec_l03Step (ctab_nil _))))))) true Try.func52 Try.call52 (by kernel_rfl)
theorem law_spec_FilmOf : spec_FilmOf_ok  con_spec_FilmOf := spec_FilmOf_law ⟨rfl, rfl, law_spec_l02Is⟩ ⟨rfl, rfl, law_spec_l02Fits⟩ ⟨rfl, rfl, law_spec_l00In⟩ ⟨rfl, rfl, law_spec_l10Sheet⟩ ⟨rfl, rfl, law_spec_l02Own⟩ ⟨rfl, rfl, law_spec_l03Step⟩
noncomputable def con_impl_within : Contract := gcC cnil impl_within true
theorem sim_impl_within : SimOk Try.prog 75 con_impl_within := simOk_gc mixed (ctab_nil _) true Try.func75 Try.call75 (by kernel_rfl)
theorem law_impl_within : impl_within_ok  con_impl_within := impl_within_law 
noncomputable def con_impl_areBetween : Contract := gcC cnil impl_areBetween true
theorem sim_impl_areBetween : SimOk Try.prog 76 con_impl_areBetween := simOk_gc mixed (ctab_nil _) true Try.func76 Try.call76 (by kernel_rfl)
theorem law_impl_areBetween : impl_areBetween_ok  con_impl_areBetween := impl_areBetween_law 
noncomputable def con_impl_ValidSheet : Contract := gcC (cadd 75 con_impl_within (cadd 76 con_impl_areBetween cnil)) (impl_ValidSheet 75 76) true
theorem sim_impl_ValidSheet : SimOk Try.prog 21 con_impl_ValidSheet := simOk_gc mixed (ctab_add sim_impl_within (ctab_add sim_impl_areBetween (ctab_nil _))) true Try.func21 Try.call21 (by kernel_rfl)
theorem law_impl_ValidSheet : impl_ValidSheet_ok  con_impl_ValidSheet := impl_ValidSheet_law ⟨rfl, rfl, law_impl_within⟩ ⟨rfl, rfl, law_impl_areBetween⟩
noncomputable def con_impl_Sheet_isBorder : Contract := gcC cnil impl_Sheet_isBorder true
theorem sim_impl_Sheet_isBorder : SimOk Try.prog 141 con_impl_Sheet_isBorder := simOk_gc mixed (ctab_nil _) true Try.func141 Try.call141 (by kernel_rfl)
theorem law_impl_Sheet_isBorder : impl_Sheet_isBorder_ok  con_impl_Sheet_isBorder := impl_Sheet_isBorder_law 
noncomputable def con_impl_IsField : Contract := gcC (cadd 21 con_impl_ValidSheet (cadd 141 con_impl_Sheet_isBorder cnil)) (impl_IsField 21 141) true
theorem sim_impl_IsField : SimOk Try.prog 100 con_impl_IsField := simOk_gc mixed (ctab_add sim_impl_ValidSheet (ctab_add sim_impl_Sheet_isBorder (ctab_nil _))) true Try.func100 Try.call100 (by kernel_rfl)
theorem law_impl_IsField : impl_IsField_ok  con_impl_IsField := impl_IsField_law ⟨rfl, rfl, law_impl_ValidSheet⟩ ⟨rfl, rfl, law_impl_Sheet_isBorder⟩
noncomputable def con_impl_copyOf : Contract := gcC cnil impl_copyOf true
theorem sim_impl_copyOf : SimOk Try.prog 126 con_impl_copyOf := simOk_gc mixed (ctab_nil _) true Try.func126 Try.call126 (by kernel_rfl)
theorem law_impl_copyOf : impl_copyOf_ok  con_impl_copyOf := impl_copyOf_law 
noncomputable def con_impl_copySheet : Contract := gcC (cadd 126 con_impl_copyOf cnil) (impl_copySheet 126) true
theorem sim_impl_copySheet : SimOk Try.prog 65 con_impl_copySheet := simOk_gc mixed (ctab_add sim_impl_copyOf (ctab_nil _)) true Try.func65 Try.call65 (by kernel_rfl)
theorem law_impl_copySheet : impl_copySheet_ok  con_impl_copySheet := impl_copySheet_law ⟨rfl, rfl, law_impl_copyOf⟩
noncomputable def con_impl_copyField : Contract := gcC (cadd 126 con_impl_copyOf cnil) (impl_copyField 126) true
theorem sim_impl_copyField : SimOk Try.prog 95 con_impl_copyField := simOk_gc mixed (ctab_add sim_impl_copyOf (ctab_nil _)) true Try.func95 Try.call95 (by kernel_rfl)
theorem law_impl_copyField : impl_copyField_ok  con_impl_copyField := impl_copyField_law ⟨rfl, rfl, law_impl_copyOf⟩
noncomputable def con_impl_Sheet_at : Contract := gcC cnil impl_Sheet_at true
theorem sim_impl_Sheet_at : SimOk Try.prog 62 con_impl_Sheet_at := simOk_gc mixed (ctab_nil _) true Try.func62 Try.call62 (by kernel_rfl)
theorem law_impl_Sheet_at : impl_Sheet_at_ok  con_impl_Sheet_at := impl_Sheet_at_law 
noncomputable def con_impl_halfStep : Contract := gcC (cadd 62 con_impl_Sheet_at cnil) (impl_halfStep 62) false
theorem sim_impl_halfStep : SimOk Try.prog 169 con_impl_halfStep := simOk_gc mixed (ctab_add sim_impl_Sheet_at (ctab_nil _)) false Try.func169 Try.call169 (by kernel_rfl)
theorem law_impl_halfStep : impl_halfStep_ok  con_impl_halfStep := impl_halfStep_law ⟨rfl, rfl, law_impl_Sheet_at⟩
noncomputable def con_impl_newValue : Contract := gcC (cadd 62 con_impl_Sheet_at cnil) (impl_newValue 62) true
theorem sim_impl_newValue : SimOk Try.prog 170 con_impl_newValue := simOk_gc mixed (ctab_add sim_impl_Sheet_at (ctab_nil _)) true Try.func170 Try.call170 (by kernel_rfl)
theorem law_impl_newValue : impl_newValue_ok  con_impl_newValue := impl_newValue_law ⟨rfl, rfl, law_impl_Sheet_at⟩
noncomputable def con_impl_stepped : Contract := gcC (cadd 95 con_impl_copyField (cadd 169 con_impl_halfStep (cadd 141 con_impl_Sheet_isBorder (cadd 62 con_impl_Sheet_at (cadd 170 con_impl_newValue cnil))))) (impl_stepped 95 169 141 62 170) true
theorem sim_impl_stepped : SimOk Try.prog 136 con_impl_stepped := simOk_gc mixed (ctab_add sim_impl_copyField (ctab_add sim_impl_halfStep (ctab_add sim_impl_Sheet_isBorder (ctab_add sim_impl_Sheet_at (ctab_add sim_impl_newValue (ctab_nil _)))))) true Try.func136 Try.call136 (by kernel_rfl)
theorem law_impl_stepped : impl_stepped_ok  con_impl_stepped := impl_stepped_law ⟨rfl, rfl, law_impl_copyField⟩ ⟨rfl, law_impl_halfStep⟩ ⟨rfl, rfl, law_impl_Sheet_isBorder⟩ ⟨rfl, rfl, law_impl_Sheet_at⟩ ⟨rfl, rfl, law_impl_newValue⟩
noncomputable def con_impl_RunFieldC1 : Contract := gcC cnil impl_RunFieldC1 true
theorem sim_impl_RunFieldC1 : SimOk Try.prog 74 con_impl_RunFieldC1 := simOk_gc mixed (ctab_nil _) true Try.func74 Try.call74 (by kernel_rfl)
theorem law_impl_RunFieldC1 : impl_RunFieldC1_ok  con_impl_RunFieldC1 := impl_RunFieldC1_law 
noncomputable def con_impl_run__impl_RunField : Contract := gcC (cadd 100 con_impl_IsField (cadd 75 con_impl_within (cadd 95 con_impl_copyField (cadd 136 con_impl_stepped (cadd 74 con_impl_RunFieldC1 cnil))))) (impl_run 100 75 95 136) true
theorem sim_impl_run__impl_RunField : SimOk Try.prog 73 con_impl_run__impl_RunField := simOk_gc mixed (ctab_add sim_impl_IsField (ctab_add sim_impl_within (ctab_add sim_impl_copyField (ctab_add sim_impl_stepped (ctab_add sim_impl_RunFieldC1 (ctab_nil _)))))) true Try.func73 Try.call73 (by kernel_rfl)
theorem law_impl_run__impl_RunField : impl_run_ok 74 con_impl_RunFieldC1 con_impl_run__impl_RunField := impl_run_law ⟨rfl, rfl, law_impl_IsField⟩ ⟨rfl, rfl, law_impl_within⟩ ⟨rfl, rfl, law_impl_copyField⟩ ⟨rfl, rfl, law_impl_stepped⟩ rfl
noncomputable def con_impl_RunField : Contract := gcC (cadd 73 con_impl_run__impl_RunField (cadd 74 con_impl_RunFieldC1 cnil)) (impl_RunField 73 74) true
theorem sim_impl_RunField : SimOk Try.prog 20 con_impl_RunField := simOk_gc mixed (ctab_add sim_impl_run__impl_RunField (ctab_add sim_impl_RunFieldC1 (ctab_nil _))) true Try.func20 Try.call20 (by kernel_rfl)
theorem law_impl_RunField : impl_RunField_ok  con_impl_RunField := impl_RunField_law ⟨rfl, rfl, law_impl_run__impl_RunField⟩ law_impl_RunFieldC1
noncomputable def con_impl_FilmOf : Contract := bodyC (cadd 100 con_impl_IsField (cadd 75 con_impl_within (cadd 65 con_impl_copySheet (cadd 95 con_impl_copyField (cadd 20 con_impl_RunField cnil))))) (impl_FilmOf 100 75 65 95 20) true
theorem sim_impl_FilmOf : SimOk Try.prog 42 con_impl_FilmOf := simOk_body mixed (ctab_add sim_impl_IsField (ctab_add sim_impl_within (ctab_add sim_impl_copySheet (ctab_add sim_impl_copyField (ctab_add sim_impl_RunField (ctab_nil _)))))) true Try.func42 Try.call42 (by kernel_rfl)
theorem law_impl_FilmOf : impl_FilmOf_ok  con_impl_FilmOf := impl_FilmOf_law ⟨rfl, rfl, law_impl_IsField⟩ ⟨rfl, rfl, law_impl_within⟩ ⟨rfl, rfl, law_impl_copySheet⟩ ⟨rfl, rfl, law_impl_copyField⟩ ⟨rfl, rfl, law_impl_RunField⟩
noncomputable def con_laws_sameFloat : Contract := gcC cnil laws_sameFloat true
theorem sim_laws_sameFloat : SimOk Try.prog 140 con_laws_sameFloat := simOk_gc mixed (ctab_nil _) true Try.func140 Try.call140 (by kernel_rfl)
theorem law_laws_sameFloat : laws_sameFloat_ok  con_laws_sameFloat := laws_sameFloat_law 
noncomputable def con_laws_eqFloat32S : Contract := gcC (cadd 140 con_laws_sameFloat cnil) (laws_eqFloat32S 140) true
theorem sim_laws_eqFloat32S : SimOk Try.prog 96 con_laws_eqFloat32S := simOk_gc mixed (ctab_add sim_laws_sameFloat (ctab_nil _)) true Try.func96 Try.call96 (by kernel_rfl)
theorem law_laws_eqFloat32S : laws_eqFloat32S_ok  con_laws_eqFloat32S := laws_eqFloat32S_law ⟨rfl, rfl, law_laws_sameFloat⟩
noncomputable def con_laws_eqSheet : Contract := gcC (cadd 96 con_laws_eqFloat32S cnil) (laws_eqSheet 96) true
theorem sim_laws_eqSheet : SimOk Try.prog 49 con_laws_eqSheet := simOk_gc mixed (ctab_add sim_laws_eqFloat32S (ctab_nil _)) true Try.func49 Try.call49 (by kernel_rfl)
theorem law_laws_eqSheet : laws_eqSheet_ok  con_laws_eqSheet := laws_eqSheet_law ⟨rfl, rfl, law_laws_eqFloat32S⟩
noncomputable def con_laws_eqField : Contract := gcC (cadd 96 con_laws_eqFloat32S cnil) (laws_eqField 96) true
theorem sim_laws_eqField : SimOk Try.prog 35 con_laws_eqField := simOk_gc mixed (ctab_add sim_laws_eqFloat32S (ctab_nil _)) true Try.func35 Try.call35 (by kernel_rfl)
theorem law_laws_eqField : laws_eqField_ok  con_laws_eqField := laws_eqField_law ⟨rfl, rfl, law_laws_eqFloat32S⟩
noncomputable def con_laws_eqFieldS : Contract := gcC (cadd 35 con_laws_eqField cnil) (laws_eqFieldS 35) true
theorem sim_laws_eqFieldS : SimOk Try.prog 86 con_laws_eqFieldS := simOk_gc mixed (ctab_add sim_laws_eqField (ctab_nil _)) true Try.func86 Try.call86 (by kernel_rfl)
theorem law_laws_eqFieldS : laws_eqFieldS_ok  con_laws_eqFieldS := laws_eqFieldS_law ⟨rfl, rfl, law_laws_eqField⟩
noncomputable def con_laws_eqFilm : Contract := gcC (cadd 49 con_laws_eqSheet (cadd 86 con_laws_eqFieldS cnil)) (laws_eqFilm 49 86) true
theorem sim_laws_eqFilm : SimOk Try.prog 28 con_laws_eqFilm := simOk_gc mixed (ctab_add sim_laws_eqSheet (ctab_add sim_laws_eqFieldS (ctab_nil _))) true Try.func28 Try.call28 (by kernel_rfl)
theorem law_laws_eqFilm : laws_eqFilm_ok  con_laws_eqFilm := laws_eqFilm_law ⟨rfl, rfl, law_laws_eqSheet⟩ ⟨rfl, rfl, law_laws_eqFieldS⟩
noncomputable def con_laws_markFloat32S : Contract := gcC cnil laws_markFloat32S false
theorem sim_laws_markFloat32S : SimOk Try.prog 97 con_laws_markFloat32S := simOk_gc mixed (ctab_nil _) false Try.func97 Try.call97 (by kernel_rfl)
theorem law_laws_markFloat32S : laws_markFloat32S_ok  con_laws_markFloat32S := laws_markFloat32S_law 
noncomputable def con_laws_markSheet : Contract := gcC (cadd 97 con_laws_markFloat32S cnil) (laws_markSheet 97) false
theorem sim_laws_markSheet : SimOk Try.prog 50 con_laws_markSheet := simOk_gc mixed (ctab_add sim_laws_markFloat32S (ctab_nil _)) false Try.func50 Try.call50 (by kernel_rfl)
theorem law_laws_markSheet : laws_markSheet_ok  con_laws_markSheet := laws_markSheet_law ⟨rfl, law_laws_markFloat32S⟩
noncomputable def con_laws_markField : Contract := gcC (cadd 97 con_laws_markFloat32S cnil) (laws_markField 97) false
theorem sim_laws_markField : SimOk Try.prog 36 con_laws_markField := simOk_gc mixed (ctab_add sim_laws_markFloat32S (ctab_nil _)) false Try.func36 Try.call36 (by kernel_rfl)
theorem law_laws_markField : laws_markField_ok  con_laws_markField := laws_markField_law ⟨rfl, law_laws_markFloat32S⟩
noncomputable def con_laws_markFieldS : Contract := bodyC (cadd 97 con_laws_markFloat32S cnil) (laws_markFieldS 97) false
theorem sim_laws_markFieldS : SimOk Try.prog 87 con_laws_markFieldS := simOk_body mixed (ctab_add sim_laws_markFloat32S (ctab_nil _)) false Try.func87 Try.call87 (by kernel_rfl)
theorem law_laws_markFieldS : laws_markFieldS_ok  con_laws_markFieldS := laws_markFieldS_law ⟨rfl, law_laws_markFloat32S⟩
noncomputable def con_laws_markFilm : Contract := bodyC (cadd 50 con_laws_markSheet (cadd 87 con_laws_markFieldS cnil)) (laws_markFilm 50 87) false
theorem sim_laws_markFilm : SimOk Try.prog 29 con_laws_markFilm := simOk_body mixed (ctab_add sim_laws_markSheet (ctab_add sim_laws_markFieldS (ctab_nil _))) false Try.func29 Try.call29 (by kernel_rfl)
theorem law_laws_markFilm : laws_markFilm_ok  con_laws_markFilm := laws_markFilm_law ⟨rfl, law_laws_markSheet⟩ ⟨rfl, law_laws_markFieldS⟩
noncomputable def con_laws_heldFloat32S : Contract := gcC cnil laws_heldFloat32S true
theorem sim_laws_heldFloat32S : SimOk Try.prog 109 con_laws_heldFloat32S := simOk_gc mixed (ctab_nil _) true Try.func109 Try.call109 (by kernel_rfl)
theorem law_laws_heldFloat32S : laws_heldFloat32S_ok  con_laws_heldFloat32S := laws_heldFloat32S_law 
noncomputable def con_laws_heldSheet : Contract := gcC (cadd 109 con_laws_heldFloat32S cnil) (laws_heldSheet 109) true
theorem sim_laws_heldSheet : SimOk Try.prog 88 con_laws_heldSheet := simOk_gc mixed (ctab_add sim_laws_heldFloat32S (ctab_nil _)) true Try.func88 Try.call88 (by kernel_rfl)
theorem law_laws_heldSheet : laws_heldSheet_ok  con_laws_heldSheet := laws_heldSheet_law ⟨rfl, rfl, law_laws_heldFloat32S⟩
noncomputable def con_laws_heldFieldS : Contract := gcC (cadd 109 con_laws_heldFloat32S cnil) (laws_heldFieldS 109) true
theorem sim_laws_heldFieldS : SimOk Try.prog 89 con_laws_heldFieldS := simOk_gc mixed (ctab_add sim_laws_heldFloat32S (ctab_nil _)) true Try.func89 Try.call89 (by kernel_rfl)
theorem law_laws_heldFieldS : laws_heldFieldS_ok  con_laws_heldFieldS := laws_heldFieldS_law ⟨rfl, rfl, law_laws_heldFloat32S⟩
noncomputable def con_laws_heldFilm : Contract := gcC (cadd 88 con_laws_heldSheet (cadd 89 con_laws_heldFieldS cnil)) (laws_heldFilm 88 89) true
theorem sim_laws_heldFilm : SimOk Try.prog 30 con_laws_heldFilm := simOk_gc mixed (ctab_add sim_laws_heldSheet (ctab_add sim_laws_heldFieldS (ctab_nil _))) true Try.func30 Try.call30 (by kernel_rfl)
theorem law_laws_heldFilm : laws_heldFilm_ok  con_laws_heldFilm := laws_heldFilm_law ⟨rfl, rfl, law_laws_heldSheet⟩ ⟨rfl, rfl, law_laws_heldFieldS⟩
noncomputable def con_laws_FnExactFilmOf : Contract := gcC (cadd 45 con_laws_szSheet (cadd 31 con_laws_szField (cadd 47 con_laws_toSheet (cadd 33 con_laws_toField (cadd 52 con_spec_FilmOf (cadd 42 con_impl_FilmOf (cadd 28 con_laws_eqFilm (cadd 49 con_laws_eqSheet (cadd 35 con_laws_eqField (cadd 50 con_laws_markSheet (cadd 36 con_laws_markField (cadd 29 con_laws_markFilm (cadd 30 con_laws_heldFilm cnil))))))))))))) (laws_FnExactFilmOf 45 31 47 33 52 42 28 49 35 50 36 29 30) true
theorem sim_laws_FnExactFilmOf : SimOk Try.prog 8 con_laws_FnExactFilmOf := simOk_gc mixed (ctab_add sim_laws_szSheet (ctab_add sim_laws_szField (ctab_add sim_laws_toSheet (ctab_add sim_laws_toField (ctab_add sim_spec_FilmOf (ctab_add sim_impl_FilmOf (ctab_add sim_laws_eqFilm (ctab_add sim_laws_eqSheet (ctab_add sim_laws_eqField (ctab_add sim_laws_markSheet (ctab_add sim_laws_markField (ctab_add sim_laws_markFilm (ctab_add sim_laws_heldFilm (ctab_nil _)))))))))))))) true Try.func8 Try.call8 (by kernel_rfl)
theorem law_laws_FnExactFilmOf : laws_FnExactFilmOf_ok  con_laws_FnExactFilmOf := laws_FnExactFilmOf_law ⟨rfl, rfl, law_laws_szSheet⟩ ⟨rfl, rfl, law_laws_szField⟩ ⟨rfl, rfl, law_laws_toSheet⟩ ⟨rfl, rfl, law_laws_toField⟩ ⟨rfl, rfl, law_spec_FilmOf⟩ ⟨rfl, rfl, law_impl_FilmOf⟩ ⟨rfl, rfl, law_laws_eqFilm⟩ ⟨rfl, rfl, law_laws_eqSheet⟩ ⟨rfl, rfl, law_laws_eqField⟩ ⟨rfl, law_laws_markSheet⟩ ⟨rfl, law_laws_markField⟩ ⟨rfl, law_laws_markFilm⟩ ⟨rfl, rfl, law_laws_heldFilm⟩
theorem lifted (os : Os) (started : os.Started) (H : Type) (enc : TypeId × Value → H) :
    ReturnsInHanded {} Try.checked os 8 .any (Rows.fnExactFilmOfSpec.pre6 enc Try.prog Try.f8 Rows.fnExactFilmOfRow.domain false) (Rows.fnExactFilmOfSpec.post enc Try.prog Try.f8 false true false false) := by
  refine returnsInHanded_of_change (C := Try.checked) own started (by kernel_rfl) Try.func8
    (ChangeSpec.witness6 (enc := enc) (C := Try.checked) false ⟨#[], #[.agg #[.int .i64 0, .int .i64 0, .bool false, .slice none 0 0, .slice none 0 0], .agg #[.slice none 0 0, .slice none 0 0, .slice none 0 0], .int .i64 0, .int .i64 0], []⟩ 8 (by kernel_rfl) (by kernel_rfl) (by kernel_rfl) (by kernel_rfl)) ?_
  intro W base args ds gs before hval hW _ _
  exact row_contract (P := Try.prog) (fn := Try.f8) (d := 8) (sh := [sheetK, fieldK, intK, intK]) (n := 4) sim_laws_FnExactFilmOf Try.call8 (by kernel_rfl) law_laws_FnExactFilmOf laidOut (by kernel_rfl) rfl rfl (by kernel_rfl) (by kernel_rfl)
    (fun ds h => by match ds, h with | [_, _, _, _], _ => rfl) hval hW
theorem holds : Rows.FnExactFilmOfSaid :=
  OpenClaim.holds_of_wide 8 Try.f8 rfl rfl rfl rfl rfl rfl rfl ⟨rfl, rfl, rfl, rfl, rfl⟩ rfl rfl rfl rfl rfl (by kernel_rfl) Try.func8 (by kernel_rfl)
    (of_decide_eq_true (by kernel_rfl)) (by unfold Func.isWrapper; first | (rw [if_pos (by decide +kernel)]; kernel_rfl) | (rw [if_neg (by decide +kernel)]; exact ⟨rfl, rfl⟩))
    (fun os started H enc _ => lifted os started H enc)
end Go.Proofs.Ytoijdkmkfhefjaa.laws_FnExactFilmOf
