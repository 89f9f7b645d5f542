/- The row FnExactStoreFilm: it returns true whatever its arguments, and leaves them. No condition. -/
import Derived.Test.YtoijdkmkfhefjaaRows
import Derived.Test.YtoijdkmkfhefjaaExactStoreFilmL95
import Derived.ProofKit
namespace Go.Proofs.Ytoijdkmkfhefjaa.laws_FnExactStoreFilm
open Go.Abs Go.ChangeShapes Go.WideShapes Go.ChangeAt Go.RowKit
set_option maxRecDepth 100000
theorem own : ownKnob Try.prog.godebug = none := by kernel_rfl
theorem laidOut : laidOutB Try.prog = true := by kernel_rfl
theorem mixed : Try.prog.follows .mixedOrders = true := by kernel_rfl
noncomputable def con_laws_szFloat32S : Contract := gcC cnil laws_szFloat32S true
theorem sim_laws_szFloat32S : SimOk Try.prog 90 con_laws_szFloat32S := simOk_gc mixed (ctab_nil _) true Try.func90 Try.call90 (by kernel_rfl)
theorem law_laws_szFloat32S : laws_szFloat32S_ok  con_laws_szFloat32S := laws_szFloat32S_law 
noncomputable def con_laws_szSheet : Contract := gcC (cadd 90 con_laws_szFloat32S cnil) (laws_szSheet 90) true
theorem sim_laws_szSheet : SimOk Try.prog 45 con_laws_szSheet := simOk_gc mixed (ctab_add sim_laws_szFloat32S (ctab_nil _)) true Try.func45 Try.call45 (by kernel_rfl)
theorem law_laws_szSheet : laws_szSheet_ok  con_laws_szSheet := laws_szSheet_law ⟨rfl, rfl, law_laws_szFloat32S⟩
noncomputable def con_laws_szField : Contract := gcC (cadd 90 con_laws_szFloat32S cnil) (laws_szField 90) true
theorem sim_laws_szField : SimOk Try.prog 31 con_laws_szField := simOk_gc mixed (ctab_add sim_laws_szFloat32S (ctab_nil _)) true Try.func31 Try.call31 (by kernel_rfl)
theorem law_laws_szField : laws_szField_ok  con_laws_szField := laws_szField_law ⟨rfl, rfl, law_laws_szFloat32S⟩
noncomputable def con_laws_szFieldS : Contract := gcC (cadd 31 con_laws_szField cnil) (laws_szFieldS 31) true
theorem sim_laws_szFieldS : SimOk Try.prog 79 con_laws_szFieldS := simOk_gc mixed (ctab_add sim_laws_szField (ctab_nil _)) true Try.func79 Try.call79 (by kernel_rfl)
theorem law_laws_szFieldS : laws_szFieldS_ok  con_laws_szFieldS := laws_szFieldS_law ⟨rfl, rfl, law_laws_szField⟩
noncomputable def con_laws_szFilm : Contract := gcC (cadd 45 con_laws_szSheet (cadd 79 con_laws_szFieldS cnil)) (laws_szFilm 45 79) true
theorem sim_laws_szFilm : SimOk Try.prog 24 con_laws_szFilm := simOk_gc mixed (ctab_add sim_laws_szSheet (ctab_add sim_laws_szFieldS (ctab_nil _))) true Try.func24 Try.call24 (by kernel_rfl)
theorem law_laws_szFilm : laws_szFilm_ok  con_laws_szFilm := laws_szFilm_law ⟨rfl, rfl, law_laws_szSheet⟩ ⟨rfl, rfl, law_laws_szFieldS⟩
noncomputable def con_laws_toFloat32S : Contract := gcC cnil laws_toFloat32S true
theorem sim_laws_toFloat32S : SimOk Try.prog 93 con_laws_toFloat32S := simOk_gc mixed (ctab_nil _) true Try.func93 Try.call93 (by kernel_rfl)
theorem law_laws_toFloat32S : laws_toFloat32S_ok  con_laws_toFloat32S := laws_toFloat32S_law 
noncomputable def con_laws_toSheet : Contract := gcC (cadd 93 con_laws_toFloat32S cnil) (laws_toSheet 93) true
theorem sim_laws_toSheet : SimOk Try.prog 47 con_laws_toSheet := simOk_gc mixed (ctab_add sim_laws_toFloat32S (ctab_nil _)) true Try.func47 Try.call47 (by kernel_rfl)
theorem law_laws_toSheet : laws_toSheet_ok  con_laws_toSheet := laws_toSheet_law ⟨rfl, rfl, law_laws_toFloat32S⟩
noncomputable def con_laws_toField : Contract := gcC (cadd 93 con_laws_toFloat32S cnil) (laws_toField 93) true
theorem sim_laws_toField : SimOk Try.prog 33 con_laws_toField := simOk_gc mixed (ctab_add sim_laws_toFloat32S (ctab_nil _)) true Try.func33 Try.call33 (by kernel_rfl)
theorem law_laws_toField : laws_toField_ok  con_laws_toField := laws_toField_law ⟨rfl, rfl, law_laws_toFloat32S⟩
noncomputable def con_laws_toFieldS : Contract := bodyC (cadd 33 con_laws_toField cnil) (laws_toFieldS 33) true
theorem sim_laws_toFieldS : SimOk Try.prog 83 con_laws_toFieldS := simOk_body mixed (ctab_add sim_laws_toField (ctab_nil _)) true Try.func83 Try.call83 (by kernel_rfl)
theorem law_laws_toFieldS : laws_toFieldS_ok  con_laws_toFieldS := laws_toFieldS_law ⟨rfl, rfl, law_laws_toField⟩
noncomputable def con_laws_toFilm : Contract := bodyC (cadd 47 con_laws_toSheet (cadd 83 con_laws_toFieldS cnil)) (laws_toFilm 47 83) true
theorem sim_laws_toFilm : SimOk Try.prog 26 con_laws_toFilm := simOk_body mixed (ctab_add sim_laws_toSheet (ctab_add sim_laws_toFieldS (ctab_nil _))) true Try.func26 Try.call26 (by kernel_rfl)
theorem law_laws_toFilm : laws_toFilm_ok  con_laws_toFilm := laws_toFilm_law ⟨rfl, rfl, law_laws_toSheet⟩ ⟨rfl, rfl, law_laws_toFieldS⟩
noncomputable def con_spec_l00In : Contract := gcC cnil spec_l00In true
theorem sim_spec_l00In : SimOk Try.prog 81 con_spec_l00In := simOk_gc mixed (ctab_nil _) true Try.func81 Try.call81 (by kernel_rfl)
theorem law_spec_l00In : spec_l00In_ok  con_spec_l00In := spec_l00In_law 
noncomputable def con_spec_l02Sides : Contract := gcC (cadd 81 con_spec_l00In cnil) (spec_l02Sides 81) true
theorem sim_spec_l02Sides : SimOk Try.prog 151 con_spec_l02Sides := simOk_gc mixed (ctab_add sim_spec_l00In (ctab_nil _)) true Try.func151 Try.call151 (by kernel_rfl)
theorem law_spec_l02Sides : spec_l02Sides_ok  con_spec_l02Sides := spec_l02Sides_law ⟨rfl, rfl, law_spec_l00In⟩
noncomputable def con_spec_l02Is : Contract := gcC (cadd 151 con_spec_l02Sides cnil) (spec_l02Is 151) true
theorem sim_spec_l02Is : SimOk Try.prog 110 con_spec_l02Is := simOk_gc mixed (ctab_add sim_spec_l02Sides (ctab_nil _)) true Try.func110 Try.call110 (by kernel_rfl)
theorem law_spec_l02Is : spec_l02Is_ok  con_spec_l02Is := spec_l02Is_law ⟨rfl, rfl, law_spec_l02Sides⟩
noncomputable def con_spec_l02Border : Contract := gcC cnil spec_l02Border true
theorem sim_spec_l02Border : SimOk Try.prog 132 con_spec_l02Border := simOk_gc mixed (ctab_nil _) true Try.func132 Try.call132 (by kernel_rfl)
theorem law_spec_l02Border : spec_l02Border_ok  con_spec_l02Border := spec_l02Border_law 
noncomputable def con_spec_l02Fits : Contract := gcC (cadd 132 con_spec_l02Border cnil) (spec_l02Fits 132) true
theorem sim_spec_l02Fits : SimOk Try.prog 91 con_spec_l02Fits := simOk_gc mixed (ctab_add sim_spec_l02Border (ctab_nil _)) true Try.func91 Try.call91 (by kernel_rfl)
theorem law_spec_l02Fits : spec_l02Fits_ok  con_spec_l02Fits := spec_l02Fits_law ⟨rfl, rfl, law_spec_l02Border⟩
theorem law_spec_l02FitsE : spec_l02FitsE_ok con_spec_l02Fits := spec_l02FitsE_law ⟨rfl, rfl, law_spec_l02Border⟩
noncomputable def con_spec_l10Is : Contract := gcC (cadd 110 con_spec_l02Is (cadd 91 con_spec_l02Fits cnil)) (spec_l10Is 110 91) true
theorem sim_spec_l10Is : SimOk Try.prog 80 con_spec_l10Is := simOk_gc mixed (ctab_add sim_spec_l02Is (ctab_add sim_spec_l02Fits (ctab_nil _))) true Try.func80 Try.call80 (by kernel_rfl)
theorem law_spec_l10Is : spec_l10Is_ok  con_spec_l10Is := spec_l10Is_law ⟨rfl, rfl, law_spec_l02Is⟩ ⟨rfl, rfl, law_spec_l02FitsE⟩
noncomputable def con_spec_l10Word : Contract := gcC cnil spec_l10Word true
theorem sim_spec_l10Word : SimOk Try.prog 183 con_spec_l10Word := simOk_gc mixed (ctab_nil _) true Try.func183 Try.call183 (by kernel_rfl)
theorem law_spec_l10Word : spec_l10Word_ok  con_spec_l10Word := spec_l10Word_law 
noncomputable def con_math_Float32bits : Contract := pureC gBits32
theorem sim_math_Float32bits : SimOk Try.prog 171 con_math_Float32bits := sim_bits32 (run_callFunc_extern Try.func171 (by kernel_rfl) (by kernel_rfl) (by kernel_rfl) (by kernel_rfl))
theorem law_math_Float32bits : math_Float32bits_ok con_math_Float32bits := math_Float32bits_law
noncomputable def con_spec_l01Bits : Contract := gcC (cadd 171 con_math_Float32bits cnil) (spec_l01Bits 171) true
theorem sim_spec_l01Bits : SimOk Try.prog 137 con_spec_l01Bits := simOk_gc mixed (ctab_add sim_math_Float32bits (ctab_nil _)) true Try.func137 Try.call137 (by kernel_rfl)
theorem law_spec_l01Bits : spec_l01BitsN_ok  con_spec_l01Bits := spec_l01BitsN_law ⟨rfl, rfl, law_math_Float32bits⟩
noncomputable def con_spec_l10Head : Contract := gcC (cadd 183 con_spec_l10Word (cadd 137 con_spec_l01Bits cnil)) (spec_l10Head 183 137) true
theorem sim_spec_l10Head : SimOk Try.prog 158 con_spec_l10Head := simOk_gc mixed (ctab_add sim_spec_l10Word (ctab_add sim_spec_l01Bits (ctab_nil _))) true Try.func158 Try.call158 (by kernel_rfl)
theorem law_spec_l10Head : spec_l10Head_ok  con_spec_l10Head := spec_l10Head_law ⟨rfl, rfl, law_spec_l10Word⟩ ⟨rfl, rfl, law_spec_l01Bits⟩
noncomputable def con_spec_l10List : Contract := gcC cnil spec_l10List true
theorem sim_spec_l10List : SimOk Try.prog 159 con_spec_l10List := simOk_gc mixed (ctab_nil _) true Try.func159 Try.call159 (by kernel_rfl)
theorem law_spec_l10List : spec_l10List_ok  con_spec_l10List := spec_l10List_law 
noncomputable def con_spec_l10Change : Contract := gcC (cadd 137 con_spec_l01Bits (cadd 183 con_spec_l10Word cnil)) (spec_l10Change 137 183) true
theorem sim_spec_l10Change : SimOk Try.prog 184 con_spec_l10Change := simOk_gc mixed (ctab_add sim_spec_l01Bits (ctab_add sim_spec_l10Word (ctab_nil _))) true Try.func184 Try.call184 (by kernel_rfl)
theorem law_spec_l10Change : spec_l10Change_ok  con_spec_l10Change := spec_l10Change_law ⟨rfl, rfl, law_spec_l01Bits⟩ ⟨rfl, rfl, law_spec_l10Word⟩
noncomputable def con_spec_l01Check : Contract := gcC cnil spec_l01Check true
theorem sim_spec_l01Check : SimOk Try.prog 185 con_spec_l01Check := simOk_gc mixed (ctab_nil _) true Try.func185 Try.call185 (by kernel_rfl)
theorem law_spec_l01Check : spec_l01Check_ok  con_spec_l01Check := spec_l01Check_law 
noncomputable def con_spec_l10Frame : Contract := gcC (cadd 184 con_spec_l10Change (cadd 183 con_spec_l10Word (cadd 185 con_spec_l01Check cnil))) (spec_l10Frame 184 183 185) true
theorem sim_spec_l10Frame : SimOk Try.prog 160 con_spec_l10Frame := simOk_gc mixed (ctab_add sim_spec_l10Change (ctab_add sim_spec_l10Word (ctab_add sim_spec_l01Check (ctab_nil _)))) true Try.func160 Try.call160 (by kernel_rfl)
theorem law_spec_l10Frame : spec_l10Frame_ok  con_spec_l10Frame := spec_l10Frame_law ⟨rfl, rfl, law_spec_l10Change⟩ ⟨rfl, rfl, law_spec_l10Word⟩ ⟨rfl, rfl, law_spec_l01Check⟩
noncomputable def con_spec_l10Store : Contract := gcC (cadd 158 con_spec_l10Head (cadd 159 con_spec_l10List (cadd 160 con_spec_l10Frame cnil))) (spec_l10Store 158 159 160) true
theorem sim_spec_l10Store : SimOk Try.prog 118 con_spec_l10Store := simOk_gc mixed (ctab_add sim_spec_l10Head (ctab_add sim_spec_l10List (ctab_add sim_spec_l10Frame (ctab_nil _)))) true Try.func118 Try.call118 (by kernel_rfl)
theorem law_spec_l10Store : spec_l10Store_ok  con_spec_l10Store := spec_l10Store_law ⟨rfl, rfl, law_spec_l10Head⟩ ⟨rfl, rfl, law_spec_l10List⟩ ⟨rfl, rfl, law_spec_l10Frame⟩
noncomputable def con_spec_StoreFilm : Contract := gcC (cadd 80 con_spec_l10Is (cadd 118 con_spec_l10Store cnil)) (spec_StoreFilm 80 118) true
theorem sim_spec_StoreFilm : SimOk Try.prog 55 con_spec_StoreFilm := simOk_gc mixed (ctab_add sim_spec_l10Is (ctab_add sim_spec_l10Store (ctab_nil _))) true Try.func55 Try.call55 (by kernel_rfl)
theorem law_spec_StoreFilm : spec_StoreFilm_ok  con_spec_StoreFilm := spec_StoreFilm_law ⟨rfl, rfl, law_spec_l10Is⟩ ⟨rfl, rfl, law_spec_l10Store⟩
noncomputable def con_impl_within : Contract := gcC cnil impl_within true
theorem sim_impl_within : SimOk Try.prog 75 con_impl_within := simOk_gc mixed (ctab_nil _) true Try.func75 Try.call75 (by kernel_rfl)
theorem law_impl_within : impl_within_ok  con_impl_within := impl_within_law 
noncomputable def con_impl_areBetween : Contract := gcC cnil impl_areBetween true
theorem sim_impl_areBetween : SimOk Try.prog 76 con_impl_areBetween := simOk_gc mixed (ctab_nil _) true Try.func76 Try.call76 (by kernel_rfl)
theorem law_impl_areBetween : impl_areBetween_ok  con_impl_areBetween := impl_areBetween_law 
noncomputable def con_impl_ValidSheet : Contract := gcC (cadd 75 con_impl_within (cadd 76 con_impl_areBetween cnil)) (impl_ValidSheet 75 76) true
theorem sim_impl_ValidSheet : SimOk Try.prog 21 con_impl_ValidSheet := simOk_gc mixed (ctab_add sim_impl_within (ctab_add sim_impl_areBetween (ctab_nil _))) true Try.func21 Try.call21 (by kernel_rfl)
theorem law_impl_ValidSheet : impl_ValidSheet_ok  con_impl_ValidSheet := impl_ValidSheet_law ⟨rfl, rfl, law_impl_within⟩ ⟨rfl, rfl, law_impl_areBetween⟩
noncomputable def con_impl_Sheet_isBorder : Contract := gcC cnil impl_Sheet_isBorder true
theorem sim_impl_Sheet_isBorder : SimOk Try.prog 141 con_impl_Sheet_isBorder := simOk_gc mixed (ctab_nil _) true Try.func141 Try.call141 (by kernel_rfl)
theorem law_impl_Sheet_isBorder : impl_Sheet_isBorder_ok  con_impl_Sheet_isBorder := impl_Sheet_isBorder_law 
noncomputable def con_impl_IsField : Contract := gcC (cadd 21 con_impl_ValidSheet (cadd 141 con_impl_Sheet_isBorder cnil)) (impl_IsField 21 141) true
theorem sim_impl_IsField : SimOk Try.prog 100 con_impl_IsField := simOk_gc mixed (ctab_add sim_impl_ValidSheet (ctab_add sim_impl_Sheet_isBorder (ctab_nil _))) true Try.func100 Try.call100 (by kernel_rfl)
theorem law_impl_IsField : impl_IsField_ok  con_impl_IsField := impl_IsField_law ⟨rfl, rfl, law_impl_ValidSheet⟩ ⟨rfl, rfl, law_impl_Sheet_isBorder⟩
noncomputable def con_impl_ValidFilmC1 : Contract := gcC (cadd 100 con_impl_IsField cnil) (impl_ValidFilmC1 100) true
theorem sim_impl_ValidFilmC1 : SimOk Try.prog 139 con_impl_ValidFilmC1 := simOk_gc mixed (ctab_add sim_impl_IsField (ctab_nil _)) true Try.func139 Try.call139 (by kernel_rfl)
theorem law_impl_ValidFilmC1 : impl_ValidFilmC1_ok  con_impl_ValidFilmC1 := impl_ValidFilmC1_law ⟨rfl, rfl, law_impl_IsField⟩
noncomputable def con_slices_IndexFunc_Field__impl_ValidFilm : Contract := gcC (cadd 139 con_impl_ValidFilmC1 cnil) slices_IndexFunc_Field true
theorem sim_slices_IndexFunc_Field__impl_ValidFilm : SimOk Try.prog 172 con_slices_IndexFunc_Field__impl_ValidFilm := simOk_gc mixed (ctab_add sim_impl_ValidFilmC1 (ctab_nil _)) true Try.func172 Try.call172 (by kernel_rfl)
theorem law_slices_IndexFunc_Field__impl_ValidFilm : slices_IndexFunc_Field_ok 139 con_impl_ValidFilmC1 con_slices_IndexFunc_Field__impl_ValidFilm := slices_IndexFunc_Field_law rfl
noncomputable def con_slices_ContainsFunc_Field__impl_ValidFilm : Contract := gcC (cadd 172 con_slices_IndexFunc_Field__impl_ValidFilm cnil) (slices_ContainsFunc_Field 172) true
theorem sim_slices_ContainsFunc_Field__impl_ValidFilm : SimOk Try.prog 138 con_slices_ContainsFunc_Field__impl_ValidFilm := simOk_gc mixed (ctab_add sim_slices_IndexFunc_Field__impl_ValidFilm (ctab_nil _)) true Try.func138 Try.call138 (by kernel_rfl)
theorem law_slices_ContainsFunc_Field__impl_ValidFilm : slices_ContainsFunc_Field_ok 139 con_impl_ValidFilmC1 con_slices_ContainsFunc_Field__impl_ValidFilm := slices_ContainsFunc_Field_law ⟨rfl, rfl, law_slices_IndexFunc_Field__impl_ValidFilm⟩
noncomputable def con_impl_ValidFilm : Contract := gcC (cadd 21 con_impl_ValidSheet (cadd 139 con_impl_ValidFilmC1 (cadd 138 con_slices_ContainsFunc_Field__impl_ValidFilm cnil))) (impl_ValidFilm 21 139 138) true
theorem sim_impl_ValidFilm : SimOk Try.prog 84 con_impl_ValidFilm := simOk_gc mixed (ctab_add sim_impl_ValidSheet (ctab_add sim_impl_ValidFilmC1 (ctab_add sim_slices_ContainsFunc_Field__impl_ValidFilm (ctab_nil _)))) true Try.func84 Try.call84 (by kernel_rfl)
theorem law_impl_ValidFilm : impl_ValidFilm_ok  con_impl_ValidFilm := impl_ValidFilm_law ⟨rfl, rfl, law_impl_ValidSheet⟩ law_impl_ValidFilmC1 ⟨rfl, rfl, law_slices_ContainsFunc_Field__impl_ValidFilm⟩
noncomputable def con_slices_Grow_float32 : Contract := gcC cnil slices_Grow_float32 true
theorem sim_slices_Grow_float32 : SimOk Try.prog 186 con_slices_Grow_float32 := simOk_gc mixed (ctab_nil _) true Try.func186 Try.call186 (by kernel_rfl)
theorem law_slices_Grow_float32 : slices_Grow_float32_ok  con_slices_Grow_float32 := slices_Grow_float32_law 
noncomputable def con_slices_Concat_float32 : Contract := gcC (cadd 186 con_slices_Grow_float32 cnil) (slices_Concat_float32 186) true
theorem sim_slices_Concat_float32 : SimOk Try.prog 161 con_slices_Concat_float32 := simOk_gc mixed (ctab_add sim_slices_Grow_float32 (ctab_nil _)) true Try.func161 Try.call161 (by kernel_rfl)
theorem law_slices_Concat_float32 : slices_Concat_float32_ok  con_slices_Concat_float32 := slices_Concat_float32_law ⟨rfl, rfl, law_slices_Grow_float32⟩
noncomputable def con_impl_BitsOf : Contract := gcC (cadd 171 con_math_Float32bits cnil) (impl_BitsOf 171) true
theorem sim_impl_BitsOf : SimOk Try.prog 163 con_impl_BitsOf := simOk_gc mixed (ctab_add sim_math_Float32bits (ctab_nil _)) true Try.func163 Try.call163 (by kernel_rfl)
theorem law_impl_BitsOf : impl_BitsOf_ok  con_impl_BitsOf := impl_BitsOf_law ⟨rfl, rfl, law_math_Float32bits⟩
noncomputable def con_impl_lowBytes : Contract := gcC cnil impl_lowBytes true
theorem sim_impl_lowBytes : SimOk Try.prog 162 con_impl_lowBytes := simOk_gc mixed (ctab_nil _) true Try.func162 Try.call162 (by kernel_rfl)
theorem law_impl_lowBytes : impl_lowBytes_ok  con_impl_lowBytes := impl_lowBytes_law 
noncomputable def con_impl_sheetBytes : Contract := gcC (cadd 161 con_slices_Concat_float32 (cadd 163 con_impl_BitsOf (cadd 162 con_impl_lowBytes cnil))) (impl_sheetBytes 161 163 162) true
theorem sim_impl_sheetBytes : SimOk Try.prog 119 con_impl_sheetBytes := simOk_gc mixed (ctab_add sim_slices_Concat_float32 (ctab_add sim_impl_BitsOf (ctab_add sim_impl_lowBytes (ctab_nil _)))) true Try.func119 Try.call119 (by kernel_rfl)
theorem law_impl_sheetBytes : impl_sheetBytes_ok  con_impl_sheetBytes := impl_sheetBytes_law ⟨rfl, rfl, law_slices_Concat_float32⟩ ⟨rfl, rfl, law_impl_BitsOf⟩ ⟨rfl, rfl, law_impl_lowBytes⟩
noncomputable def con_impl_zeroField : Contract := gcC cnil impl_zeroField true
theorem sim_impl_zeroField : SimOk Try.prog 121 con_impl_zeroField := simOk_gc mixed (ctab_nil _) true Try.func121 Try.call121 (by kernel_rfl)
theorem law_impl_zeroField : impl_zeroField_ok  con_impl_zeroField := impl_zeroField_law 
noncomputable def con_impl_numbersOf : Contract := gcC (cadd 161 con_slices_Concat_float32 cnil) (impl_numbersOf 161) true
theorem sim_impl_numbersOf : SimOk Try.prog 120 con_impl_numbersOf := simOk_gc mixed (ctab_add sim_slices_Concat_float32 (ctab_nil _)) true Try.func120 Try.call120 (by kernel_rfl)
theorem law_impl_numbersOf : impl_numbersOf_ok  con_impl_numbersOf := impl_numbersOf_law ⟨rfl, rfl, law_slices_Concat_float32⟩
noncomputable def con_impl_changeBytes : Contract := gcC (cadd 163 con_impl_BitsOf (cadd 162 con_impl_lowBytes cnil)) (impl_changeBytes 163 162) true
theorem sim_impl_changeBytes : SimOk Try.prog 164 con_impl_changeBytes := simOk_gc mixed (ctab_add sim_impl_BitsOf (ctab_add sim_impl_lowBytes (ctab_nil _))) true Try.func164 Try.call164 (by kernel_rfl)
theorem law_impl_changeBytes : impl_changeBytes_ok  con_impl_changeBytes := impl_changeBytes_law ⟨rfl, rfl, law_impl_BitsOf⟩ ⟨rfl, rfl, law_impl_lowBytes⟩
noncomputable def con_impl_CheckOf : Contract := gcC (cadd 75 con_impl_within cnil) (impl_CheckOf 75) true
theorem sim_impl_CheckOf : SimOk Try.prog 165 con_impl_CheckOf := simOk_gc mixed (ctab_add sim_impl_within (ctab_nil _)) true Try.func165 Try.call165 (by kernel_rfl)
theorem law_impl_CheckOf : impl_CheckOf_ok  con_impl_CheckOf := impl_CheckOf_law ⟨rfl, rfl, law_impl_within⟩
noncomputable def con_impl_withFrame : Contract := bodyC (cadd 164 con_impl_changeBytes (cadd 162 con_impl_lowBytes (cadd 165 con_impl_CheckOf cnil))) (impl_withFrame 164 162 165) false
theorem sim_impl_withFrame : SimOk Try.prog 122 con_impl_withFrame := simOk_body mixed (ctab_add sim_impl_changeBytes (ctab_add sim_impl_lowBytes (ctab_add sim_impl_CheckOf (ctab_nil _)))) false Try.func122 Try.call122 (by kernel_rfl)
theorem law_impl_withFrame : impl_withFrame_ok  con_impl_withFrame := impl_withFrame_law ⟨rfl, rfl, law_impl_changeBytes⟩ ⟨rfl, rfl, law_impl_lowBytes⟩ ⟨rfl, rfl, law_impl_CheckOf⟩
noncomputable def con_impl_StoreFilm : Contract := gcC (cadd 84 con_impl_ValidFilm (cadd 119 con_impl_sheetBytes (cadd 121 con_impl_zeroField (cadd 120 con_impl_numbersOf (cadd 122 con_impl_withFrame cnil))))) (impl_StoreFilm 84 119 121 120 122) true
theorem sim_impl_StoreFilm : SimOk Try.prog 56 con_impl_StoreFilm := simOk_gc mixed (ctab_add sim_impl_ValidFilm (ctab_add sim_impl_sheetBytes (ctab_add sim_impl_zeroField (ctab_add sim_impl_numbersOf (ctab_add sim_impl_withFrame (ctab_nil _)))))) true Try.func56 Try.call56 (by kernel_rfl)
theorem law_impl_StoreFilm : impl_StoreFilm_ok  con_impl_StoreFilm := impl_StoreFilm_law ⟨rfl, rfl, law_impl_ValidFilm⟩ ⟨rfl, rfl, law_impl_sheetBytes⟩ ⟨rfl, rfl, law_impl_zeroField⟩ ⟨rfl, rfl, law_impl_numbersOf⟩ ⟨rfl, law_impl_withFrame⟩
noncomputable def con_laws_sameFloat : Contract := gcC cnil laws_sameFloat true
theorem sim_laws_sameFloat : SimOk Try.prog 140 con_laws_sameFloat := simOk_gc mixed (ctab_nil _) true Try.func140 Try.call140 (by kernel_rfl)
theorem law_laws_sameFloat : laws_sameFloat_ok  con_laws_sameFloat := laws_sameFloat_law 
noncomputable def con_laws_eqFloat32S : Contract := gcC (cadd 140 con_laws_sameFloat cnil) (laws_eqFloat32S 140) true
theorem sim_laws_eqFloat32S : SimOk Try.prog 96 con_laws_eqFloat32S := simOk_gc mixed (ctab_add sim_laws_sameFloat (ctab_nil _)) true Try.func96 Try.call96 (by kernel_rfl)
theorem law_laws_eqFloat32S : laws_eqFloat32S_ok  con_laws_eqFloat32S := laws_eqFloat32S_law ⟨rfl, rfl, law_laws_sameFloat⟩
noncomputable def con_laws_eqSheet : Contract := gcC (cadd 96 con_laws_eqFloat32S cnil) (laws_eqSheet 96) true
theorem sim_laws_eqSheet : SimOk Try.prog 49 con_laws_eqSheet := simOk_gc mixed (ctab_add sim_laws_eqFloat32S (ctab_nil _)) true Try.func49 Try.call49 (by kernel_rfl)
theorem law_laws_eqSheet : laws_eqSheet_ok  con_laws_eqSheet := laws_eqSheet_law ⟨rfl, rfl, law_laws_eqFloat32S⟩
noncomputable def con_laws_eqField : Contract := gcC (cadd 96 con_laws_eqFloat32S cnil) (laws_eqField 96) true
theorem sim_laws_eqField : SimOk Try.prog 35 con_laws_eqField := simOk_gc mixed (ctab_add sim_laws_eqFloat32S (ctab_nil _)) true Try.func35 Try.call35 (by kernel_rfl)
theorem law_laws_eqField : laws_eqField_ok  con_laws_eqField := laws_eqField_law ⟨rfl, rfl, law_laws_eqFloat32S⟩
noncomputable def con_laws_eqFieldS : Contract := gcC (cadd 35 con_laws_eqField cnil) (laws_eqFieldS 35) true
theorem sim_laws_eqFieldS : SimOk Try.prog 86 con_laws_eqFieldS := simOk_gc mixed (ctab_add sim_laws_eqField (ctab_nil _)) true Try.func86 Try.call86 (by kernel_rfl)
theorem law_laws_eqFieldS : laws_eqFieldS_ok  con_laws_eqFieldS := laws_eqFieldS_law ⟨rfl, rfl, law_laws_eqField⟩
noncomputable def con_laws_eqFilm : Contract := gcC (cadd 49 con_laws_eqSheet (cadd 86 con_laws_eqFieldS cnil)) (laws_eqFilm 49 86) true
theorem sim_laws_eqFilm : SimOk Try.prog 28 con_laws_eqFilm := simOk_gc mixed (ctab_add sim_laws_eqSheet (ctab_add sim_laws_eqFieldS (ctab_nil _))) true Try.func28 Try.call28 (by kernel_rfl)
theorem law_laws_eqFilm : laws_eqFilm_ok  con_laws_eqFilm := laws_eqFilm_law ⟨rfl, rfl, law_laws_eqSheet⟩ ⟨rfl, rfl, law_laws_eqFieldS⟩
noncomputable def con_laws_FnExactStoreFilm : Contract := gcC (cadd 24 con_laws_szFilm (cadd 26 con_laws_toFilm (cadd 55 con_spec_StoreFilm (cadd 56 con_impl_StoreFilm (cadd 28 con_laws_eqFilm cnil))))) (laws_FnExactStoreFilm 24 26 55 56 28) true
theorem sim_laws_FnExactStoreFilm : SimOk Try.prog 11 con_laws_FnExactStoreFilm := simOk_gc mixed (ctab_add sim_laws_szFilm (ctab_add sim_laws_toFilm (ctab_add sim_spec_StoreFilm (ctab_add sim_impl_StoreFilm (ctab_add sim_laws_eqFilm (ctab_nil _)))))) true Try.func11 Try.call11 (by kernel_rfl)
theorem law_laws_FnExactStoreFilm : laws_FnExactStoreFilm_ok  con_laws_FnExactStoreFilm := laws_FnExactStoreFilm_law ⟨rfl, rfl, law_laws_szFilm⟩ ⟨rfl, rfl, law_laws_toFilm⟩ ⟨rfl, rfl, law_spec_StoreFilm⟩ ⟨rfl, rfl, law_impl_StoreFilm⟩ ⟨rfl, rfl, law_laws_eqFilm⟩
theorem lifted (os : Os) (started : os.Started) (H : Type) (enc : TypeId × Value → H) :
    ReturnsInHanded {} Try.checked os 11 .any (Rows.fnExactStoreFilmSpec.pre6 enc Try.prog Try.f11 Rows.fnExactStoreFilmRow.domain false) (Rows.fnExactStoreFilmSpec.post enc Try.prog Try.f11 false true false false) := by
  refine returnsInHanded_of_change (C := Try.checked) own started (by kernel_rfl) Try.func11
    (ChangeSpec.witness6 (enc := enc) (C := Try.checked) false ⟨#[], #[.agg #[.int .i64 0, .int .i64 0, .bool false, .slice none 0 0, .slice none 0 0, .slice none 0 0]], []⟩ 8 (by kernel_rfl) (by kernel_rfl) (by kernel_rfl) (by kernel_rfl)) ?_
  intro W base args ds gs before hval hW _ _
  exact row_contract (P := Try.prog) (fn := Try.f11) (d := 8) (sh := [filmK]) (n := 1) sim_laws_FnExactStoreFilm Try.call11 (by kernel_rfl) law_laws_FnExactStoreFilm laidOut (by kernel_rfl) rfl rfl (by kernel_rfl) (by kernel_rfl)
    (fun ds h => by match ds, h with | [_], _ => rfl) hval hW
theorem holds : Rows.FnExactStoreFilmSaid :=
  OpenClaim.holds_of_wide 11 Try.f11 rfl rfl rfl rfl rfl rfl rfl ⟨rfl, rfl, rfl, rfl, rfl⟩ rfl rfl rfl rfl rfl (by kernel_rfl) Try.func11 (by kernel_rfl)
    (of_decide_eq_true (by kernel_rfl)) (by unfold Func.isWrapper; first | (rw [if_pos (by decide +kernel)]; kernel_rfl) | (rw [if_neg (by decide +kernel)]; exact ⟨rfl, rfl⟩))
    (fun os started H enc _ => lifted os started H enc)
end Go.Proofs.Ytoijdkmkfhefjaa.laws_FnExactStoreFilm
