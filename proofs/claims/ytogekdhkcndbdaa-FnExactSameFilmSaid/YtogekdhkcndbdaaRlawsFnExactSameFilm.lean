/- The row FnExactSameFilm: it returns true whatever its arguments, and leaves them. No condition. -/
import Derived.Test.YtogekdhkcndbdaaRows
import Derived.Test.YtogekdhkcndbdaaExactSameFilmL91
import Derived.ProofKit
namespace Go.Proofs.Ytogekdhkcndbdaa.laws_FnExactSameFilm
open Go.Abs Go.ChangeShapes Go.WideShapes Go.ChangeAt Go.RowKit
set_option maxRecDepth 100000
theorem own : ownKnob Try.prog.godebug = none := by kernel_rfl
theorem laidOut : laidOutB Try.prog = true := by kernel_rfl
theorem mixed : Try.prog.follows .mixedOrders = true := by kernel_rfl
noncomputable def con_laws_szFloat32S : Contract := gcC cnil laws_szFloat32S true
theorem sim_laws_szFloat32S : SimOk Try.prog 33 con_laws_szFloat32S := simOk_gc mixed (ctab_nil _) true Try.func33 Try.call33 (by kernel_rfl)
theorem law_laws_szFloat32S : laws_szFloat32S_ok  con_laws_szFloat32S := laws_szFloat32S_law 
noncomputable def con_laws_szSheet : Contract := gcC (cadd 33 con_laws_szFloat32S cnil) (laws_szSheet 33) true
theorem sim_laws_szSheet : SimOk Try.prog 13 con_laws_szSheet := simOk_gc mixed (ctab_add sim_laws_szFloat32S (ctab_nil _)) true Try.func13 Try.call13 (by kernel_rfl)
theorem law_laws_szSheet : laws_szSheet_ok  con_laws_szSheet := laws_szSheet_law ⟨rfl, rfl, law_laws_szFloat32S⟩
noncomputable def con_laws_szField : Contract := gcC (cadd 33 con_laws_szFloat32S cnil) (laws_szField 33) true
theorem sim_laws_szField : SimOk Try.prog 66 con_laws_szField := simOk_gc mixed (ctab_add sim_laws_szFloat32S (ctab_nil _)) true Try.func66 Try.call66 (by kernel_rfl)
theorem law_laws_szField : laws_szField_ok  con_laws_szField := laws_szField_law ⟨rfl, rfl, law_laws_szFloat32S⟩
noncomputable def con_laws_szFieldS : Contract := gcC (cadd 66 con_laws_szField cnil) (laws_szFieldS 66) true
theorem sim_laws_szFieldS : SimOk Try.prog 40 con_laws_szFieldS := simOk_gc mixed (ctab_add sim_laws_szField (ctab_nil _)) true Try.func40 Try.call40 (by kernel_rfl)
theorem law_laws_szFieldS : laws_szFieldS_ok  con_laws_szFieldS := laws_szFieldS_law ⟨rfl, rfl, law_laws_szField⟩
noncomputable def con_laws_szFilm : Contract := gcC (cadd 13 con_laws_szSheet (cadd 40 con_laws_szFieldS cnil)) (laws_szFilm 13 40) true
theorem sim_laws_szFilm : SimOk Try.prog 18 con_laws_szFilm := simOk_gc mixed (ctab_add sim_laws_szSheet (ctab_add sim_laws_szFieldS (ctab_nil _))) true Try.func18 Try.call18 (by kernel_rfl)
theorem law_laws_szFilm : laws_szFilm_ok  con_laws_szFilm := laws_szFilm_law ⟨rfl, rfl, law_laws_szSheet⟩ ⟨rfl, rfl, law_laws_szFieldS⟩
noncomputable def con_laws_toFloat32S : Contract := gcC cnil laws_toFloat32S true
theorem sim_laws_toFloat32S : SimOk Try.prog 36 con_laws_toFloat32S := simOk_gc mixed (ctab_nil _) true Try.func36 Try.call36 (by kernel_rfl)
theorem law_laws_toFloat32S : laws_toFloat32S_ok  con_laws_toFloat32S := laws_toFloat32S_law 
noncomputable def con_laws_toSheet : Contract := gcC (cadd 36 con_laws_toFloat32S cnil) (laws_toSheet 36) true
theorem sim_laws_toSheet : SimOk Try.prog 15 con_laws_toSheet := simOk_gc mixed (ctab_add sim_laws_toFloat32S (ctab_nil _)) true Try.func15 Try.call15 (by kernel_rfl)
theorem law_laws_toSheet : laws_toSheet_ok  con_laws_toSheet := laws_toSheet_law ⟨rfl, rfl, law_laws_toFloat32S⟩
noncomputable def con_laws_toField : Contract := gcC (cadd 36 con_laws_toFloat32S cnil) (laws_toField 36) true
theorem sim_laws_toField : SimOk Try.prog 68 con_laws_toField := simOk_gc mixed (ctab_add sim_laws_toFloat32S (ctab_nil _)) true Try.func68 Try.call68 (by kernel_rfl)
theorem law_laws_toField : laws_toField_ok  con_laws_toField := laws_toField_law ⟨rfl, rfl, law_laws_toFloat32S⟩
noncomputable def con_laws_toFieldS : Contract := bodyC (cadd 68 con_laws_toField cnil) (laws_toFieldS 68) true
theorem sim_laws_toFieldS : SimOk Try.prog 42 con_laws_toFieldS := simOk_body mixed (ctab_add sim_laws_toField (ctab_nil _)) true Try.func42 Try.call42 (by kernel_rfl)
theorem law_laws_toFieldS : laws_toFieldS_ok  con_laws_toFieldS := laws_toFieldS_law ⟨rfl, rfl, law_laws_toField⟩
noncomputable def con_laws_toFilm : Contract := bodyC (cadd 15 con_laws_toSheet (cadd 42 con_laws_toFieldS cnil)) (laws_toFilm 15 42) true
theorem sim_laws_toFilm : SimOk Try.prog 20 con_laws_toFilm := simOk_body mixed (ctab_add sim_laws_toSheet (ctab_add sim_laws_toFieldS (ctab_nil _))) true Try.func20 Try.call20 (by kernel_rfl)
theorem law_laws_toFilm : laws_toFilm_ok  con_laws_toFilm := laws_toFilm_law ⟨rfl, rfl, law_laws_toSheet⟩ ⟨rfl, rfl, law_laws_toFieldS⟩
noncomputable def con_spec_l00In : Contract := gcC cnil spec_l00In true
theorem sim_spec_l00In : SimOk Try.prog 78 con_spec_l00In := simOk_gc mixed (ctab_nil _) true Try.func78 Try.call78 (by kernel_rfl)
theorem law_spec_l00In : spec_l00In_ok  con_spec_l00In := spec_l00In_law 
noncomputable def con_spec_l02Sides : Contract := gcC (cadd 78 con_spec_l00In cnil) (spec_l02Sides 78) true
theorem sim_spec_l02Sides : SimOk Try.prog 60 con_spec_l02Sides := simOk_gc mixed (ctab_add sim_spec_l00In (ctab_nil _)) true Try.func60 Try.call60 (by kernel_rfl)
theorem law_spec_l02Sides : spec_l02Sides_ok  con_spec_l02Sides := spec_l02Sides_law ⟨rfl, rfl, law_spec_l00In⟩
noncomputable def con_spec_l02Is : Contract := gcC (cadd 60 con_spec_l02Sides cnil) (spec_l02Is 60) true
theorem sim_spec_l02Is : SimOk Try.prog 34 con_spec_l02Is := simOk_gc mixed (ctab_add sim_spec_l02Sides (ctab_nil _)) true Try.func34 Try.call34 (by kernel_rfl)
theorem law_spec_l02Is : spec_l02Is_ok  con_spec_l02Is := spec_l02Is_law ⟨rfl, rfl, law_spec_l02Sides⟩
noncomputable def con_spec_l02Border : Contract := gcC cnil spec_l02Border true
theorem sim_spec_l02Border : SimOk Try.prog 80 con_spec_l02Border := simOk_gc mixed (ctab_nil _) true Try.func80 Try.call80 (by kernel_rfl)
theorem law_spec_l02Border : spec_l02Border_ok  con_spec_l02Border := spec_l02Border_law 
noncomputable def con_spec_l02Fits : Contract := gcC (cadd 80 con_spec_l02Border cnil) (spec_l02Fits 80) true
theorem sim_spec_l02Fits : SimOk Try.prog 67 con_spec_l02Fits := simOk_gc mixed (ctab_add sim_spec_l02Border (ctab_nil _)) true Try.func67 Try.call67 (by kernel_rfl)
theorem law_spec_l02Fits : spec_l02Fits_ok  con_spec_l02Fits := spec_l02Fits_law ⟨rfl, rfl, law_spec_l02Border⟩
theorem law_spec_l02FitsE : spec_l02FitsE_ok con_spec_l02Fits := spec_l02FitsE_law ⟨rfl, rfl, law_spec_l02Border⟩
noncomputable def con_spec_l10Is : Contract := gcC (cadd 34 con_spec_l02Is (cadd 67 con_spec_l02Fits cnil)) (spec_l10Is 34 67) true
theorem sim_spec_l10Is : SimOk Try.prog 41 con_spec_l10Is := simOk_gc mixed (ctab_add sim_spec_l02Is (ctab_add sim_spec_l02Fits (ctab_nil _))) true Try.func41 Try.call41 (by kernel_rfl)
theorem law_spec_l10Is : spec_l10Is_ok  con_spec_l10Is := spec_l10Is_law ⟨rfl, rfl, law_spec_l02Is⟩ ⟨rfl, rfl, law_spec_l02FitsE⟩
noncomputable def con_math_Float32bits : Contract := pureC gBits32
theorem sim_math_Float32bits : SimOk Try.prog 58 con_math_Float32bits := sim_bits32 (run_callFunc_extern Try.func58 (by kernel_rfl) (by kernel_rfl) (by kernel_rfl) (by kernel_rfl))
theorem law_math_Float32bits : math_Float32bits_ok con_math_Float32bits := math_Float32bits_law
noncomputable def con_spec_l01Bits : Contract := gcC (cadd 58 con_math_Float32bits cnil) (spec_l01Bits 58) true
theorem sim_spec_l01Bits : SimOk Try.prog 62 con_spec_l01Bits := simOk_gc mixed (ctab_add sim_math_Float32bits (ctab_nil _)) true Try.func62 Try.call62 (by kernel_rfl)
theorem law_spec_l01Bits : spec_l01BitsN_ok  con_spec_l01Bits := spec_l01BitsN_law ⟨rfl, rfl, law_math_Float32bits⟩
noncomputable def con_spec_l01Same : Contract := gcC (cadd 62 con_spec_l01Bits cnil) (spec_l01Same 62) true
theorem sim_spec_l01Same : SimOk Try.prog 81 con_spec_l01Same := simOk_gc mixed (ctab_add sim_spec_l01Bits (ctab_nil _)) true Try.func81 Try.call81 (by kernel_rfl)
theorem law_spec_l01Same : spec_l01SameN_ok  con_spec_l01Same := spec_l01SameN_law ⟨rfl, rfl, law_spec_l01Bits⟩
noncomputable def con_spec_l01SameAll : Contract := gcC (cadd 81 con_spec_l01Same cnil) (spec_l01SameAll 81) true
theorem sim_spec_l01SameAll : SimOk Try.prog 72 con_spec_l01SameAll := simOk_gc mixed (ctab_add sim_spec_l01Same (ctab_nil _)) true Try.func72 Try.call72 (by kernel_rfl)
theorem law_spec_l01SameAll : spec_l01SameAllN_ok  con_spec_l01SameAll := spec_l01SameAllN_law ⟨rfl, rfl, law_spec_l01Same⟩
noncomputable def con_spec_SameSheet : Contract := gcC (cadd 72 con_spec_l01SameAll cnil) (spec_SameSheet 72) true
theorem sim_spec_SameSheet : SimOk Try.prog 47 con_spec_SameSheet := simOk_gc mixed (ctab_add sim_spec_l01SameAll (ctab_nil _)) true Try.func47 Try.call47 (by kernel_rfl)
theorem law_spec_SameSheet : spec_SameSheetN_ok  con_spec_SameSheet := spec_SameSheetN_law ⟨rfl, rfl, law_spec_l01SameAll⟩
noncomputable def con_spec_l02Same : Contract := gcC (cadd 72 con_spec_l01SameAll cnil) (spec_l02Same 72) true
theorem sim_spec_l02Same : SimOk Try.prog 48 con_spec_l02Same := simOk_gc mixed (ctab_add sim_spec_l01SameAll (ctab_nil _)) true Try.func48 Try.call48 (by kernel_rfl)
theorem law_spec_l02Same : spec_l02Same_ok  con_spec_l02Same := spec_l02Same_law ⟨rfl, rfl, law_spec_l01SameAll⟩
noncomputable def con_spec_SameFilm : Contract := gcC (cadd 41 con_spec_l10Is (cadd 47 con_spec_SameSheet (cadd 48 con_spec_l02Same cnil))) (spec_SameFilm 41 47 48) true
theorem sim_spec_SameFilm : SimOk Try.prog 23 con_spec_SameFilm := simOk_gc mixed (ctab_add sim_spec_l10Is (ctab_add sim_spec_SameSheet (ctab_add sim_spec_l02Same (ctab_nil _)))) true Try.func23 Try.call23 (by kernel_rfl)
theorem law_spec_SameFilm : spec_SameFilm_ok  con_spec_SameFilm := spec_SameFilm_law ⟨rfl, rfl, law_spec_l10Is⟩ ⟨rfl, rfl, law_spec_SameSheet⟩ ⟨rfl, rfl, law_spec_l02Same⟩
noncomputable def con_impl_within : Contract := gcC cnil impl_within true
theorem sim_impl_within : SimOk Try.prog 56 con_impl_within := simOk_gc mixed (ctab_nil _) true Try.func56 Try.call56 (by kernel_rfl)
theorem law_impl_within : impl_within_ok  con_impl_within := impl_within_law 
noncomputable def con_impl_areBetween : Contract := gcC cnil impl_areBetween true
theorem sim_impl_areBetween : SimOk Try.prog 63 con_impl_areBetween := simOk_gc mixed (ctab_nil _) true Try.func63 Try.call63 (by kernel_rfl)
theorem law_impl_areBetween : impl_areBetween_ok  con_impl_areBetween := impl_areBetween_law 
noncomputable def con_impl_ValidSheet : Contract := gcC (cadd 56 con_impl_within (cadd 63 con_impl_areBetween cnil)) (impl_ValidSheet 56 63) true
theorem sim_impl_ValidSheet : SimOk Try.prog 37 con_impl_ValidSheet := simOk_gc mixed (ctab_add sim_impl_within (ctab_add sim_impl_areBetween (ctab_nil _))) true Try.func37 Try.call37 (by kernel_rfl)
theorem law_impl_ValidSheet : impl_ValidSheet_ok  con_impl_ValidSheet := impl_ValidSheet_law ⟨rfl, rfl, law_impl_within⟩ ⟨rfl, rfl, law_impl_areBetween⟩
noncomputable def con_impl_Sheet_isBorder : Contract := gcC cnil impl_Sheet_isBorder true
theorem sim_impl_Sheet_isBorder : SimOk Try.prog 70 con_impl_Sheet_isBorder := simOk_gc mixed (ctab_nil _) true Try.func70 Try.call70 (by kernel_rfl)
theorem law_impl_Sheet_isBorder : impl_Sheet_isBorder_ok  con_impl_Sheet_isBorder := impl_Sheet_isBorder_law 
noncomputable def con_impl_IsField : Contract := gcC (cadd 37 con_impl_ValidSheet (cadd 70 con_impl_Sheet_isBorder cnil)) (impl_IsField 37 70) true
theorem sim_impl_IsField : SimOk Try.prog 45 con_impl_IsField := simOk_gc mixed (ctab_add sim_impl_ValidSheet (ctab_add sim_impl_Sheet_isBorder (ctab_nil _))) true Try.func45 Try.call45 (by kernel_rfl)
theorem law_impl_IsField : impl_IsField_ok  con_impl_IsField := impl_IsField_law ⟨rfl, rfl, law_impl_ValidSheet⟩ ⟨rfl, rfl, law_impl_Sheet_isBorder⟩
noncomputable def con_impl_ValidFilmC1 : Contract := gcC (cadd 45 con_impl_IsField cnil) (impl_ValidFilmC1 45) true
theorem sim_impl_ValidFilmC1 : SimOk Try.prog 44 con_impl_ValidFilmC1 := simOk_gc mixed (ctab_add sim_impl_IsField (ctab_nil _)) true Try.func44 Try.call44 (by kernel_rfl)
theorem law_impl_ValidFilmC1 : impl_ValidFilmC1_ok  con_impl_ValidFilmC1 := impl_ValidFilmC1_law ⟨rfl, rfl, law_impl_IsField⟩
noncomputable def con_slices_IndexFunc_Field__impl_ValidFilm : Contract := gcC (cadd 44 con_impl_ValidFilmC1 cnil) slices_IndexFunc_Field true
theorem sim_slices_IndexFunc_Field__impl_ValidFilm : SimOk Try.prog 69 con_slices_IndexFunc_Field__impl_ValidFilm := simOk_gc mixed (ctab_add sim_impl_ValidFilmC1 (ctab_nil _)) true Try.func69 Try.call69 (by kernel_rfl)
theorem law_slices_IndexFunc_Field__impl_ValidFilm : slices_IndexFunc_Field_ok 44 con_impl_ValidFilmC1 con_slices_IndexFunc_Field__impl_ValidFilm := slices_IndexFunc_Field_law rfl
noncomputable def con_slices_ContainsFunc_Field__impl_ValidFilm : Contract := gcC (cadd 69 con_slices_IndexFunc_Field__impl_ValidFilm cnil) (slices_ContainsFunc_Field 69) true
theorem sim_slices_ContainsFunc_Field__impl_ValidFilm : SimOk Try.prog 43 con_slices_ContainsFunc_Field__impl_ValidFilm := simOk_gc mixed (ctab_add sim_slices_IndexFunc_Field__impl_ValidFilm (ctab_nil _)) true Try.func43 Try.call43 (by kernel_rfl)
theorem law_slices_ContainsFunc_Field__impl_ValidFilm : slices_ContainsFunc_Field_ok 44 con_impl_ValidFilmC1 con_slices_ContainsFunc_Field__impl_ValidFilm := slices_ContainsFunc_Field_law ⟨rfl, rfl, law_slices_IndexFunc_Field__impl_ValidFilm⟩
noncomputable def con_impl_ValidFilm : Contract := gcC (cadd 37 con_impl_ValidSheet (cadd 44 con_impl_ValidFilmC1 (cadd 43 con_slices_ContainsFunc_Field__impl_ValidFilm cnil))) (impl_ValidFilm 37 44 43) true
theorem sim_impl_ValidFilm : SimOk Try.prog 21 con_impl_ValidFilm := simOk_gc mixed (ctab_add sim_impl_ValidSheet (ctab_add sim_impl_ValidFilmC1 (ctab_add sim_slices_ContainsFunc_Field__impl_ValidFilm (ctab_nil _)))) true Try.func21 Try.call21 (by kernel_rfl)
theorem law_impl_ValidFilm : impl_ValidFilm_ok  con_impl_ValidFilm := impl_ValidFilm_law ⟨rfl, rfl, law_impl_ValidSheet⟩ law_impl_ValidFilmC1 ⟨rfl, rfl, law_slices_ContainsFunc_Field__impl_ValidFilm⟩
noncomputable def con_math_Float64bits : Contract := pureC gBits64
theorem sim_math_Float64bits : SimOk Try.prog 77 con_math_Float64bits := sim_bits64 (run_callFunc_extern Try.func77 (by kernel_rfl) (by kernel_rfl) (by kernel_rfl) (by kernel_rfl))
theorem law_math_Float64bits : math_Float64bits_ok con_math_Float64bits := math_Float64bits_law
noncomputable def con_math_Signbit : Contract := gcC (cadd 77 con_math_Float64bits cnil) (math_Signbit 77) true
theorem sim_math_Signbit : SimOk Try.prog 59 con_math_Signbit := simOk_gc mixed (ctab_add sim_math_Float64bits (ctab_nil _)) true Try.func59 Try.call59 (by kernel_rfl)
theorem law_math_Signbit : math_Signbit_ok  con_math_Signbit := math_Signbit_law ⟨rfl, rfl, law_math_Float64bits⟩
noncomputable def con_impl_SameNumber : Contract := gcC (cadd 59 con_math_Signbit cnil) (impl_SameNumber 59) true
theorem sim_impl_SameNumber : SimOk Try.prog 32 con_impl_SameNumber := simOk_gc mixed (ctab_add sim_math_Signbit (ctab_nil _)) true Try.func32 Try.call32 (by kernel_rfl)
theorem law_impl_SameNumber : impl_SameNumberN_ok  con_impl_SameNumber := impl_SameNumberN_law ⟨rfl, rfl, law_math_Signbit⟩
noncomputable def con_impl_sameNumbers : Contract := gcC (cadd 32 con_impl_SameNumber cnil) (impl_sameNumbers 32) true
theorem sim_impl_sameNumbers : SimOk Try.prog 73 con_impl_sameNumbers := simOk_gc mixed (ctab_add sim_impl_SameNumber (ctab_nil _)) true Try.func73 Try.call73 (by kernel_rfl)
theorem law_impl_sameNumbers : impl_sameNumbersN_ok  con_impl_sameNumbers := impl_sameNumbersN_law ⟨rfl, rfl, law_impl_SameNumber⟩
noncomputable def con_impl_SameSheet : Contract := gcC (cadd 73 con_impl_sameNumbers cnil) (impl_SameSheet 73) true
theorem sim_impl_SameSheet : SimOk Try.prog 49 con_impl_SameSheet := simOk_gc mixed (ctab_add sim_impl_sameNumbers (ctab_nil _)) true Try.func49 Try.call49 (by kernel_rfl)
theorem law_impl_SameSheet : impl_SameSheetN_ok  con_impl_SameSheet := impl_SameSheetN_law ⟨rfl, rfl, law_impl_sameNumbers⟩
noncomputable def con_impl_SameField : Contract := gcC (cadd 73 con_impl_sameNumbers cnil) (impl_SameField 73) true
theorem sim_impl_SameField : SimOk Try.prog 51 con_impl_SameField := simOk_gc mixed (ctab_add sim_impl_sameNumbers (ctab_nil _)) true Try.func51 Try.call51 (by kernel_rfl)
theorem law_impl_SameField : impl_SameField_ok  con_impl_SameField := impl_SameField_law ⟨rfl, rfl, law_impl_sameNumbers⟩
noncomputable def con_slices_EqualFunc_Field__impl_SameFilm : Contract := gcC (cadd 51 con_impl_SameField cnil) slices_EqualFunc_Field true
theorem sim_slices_EqualFunc_Field__impl_SameFilm : SimOk Try.prog 50 con_slices_EqualFunc_Field__impl_SameFilm := simOk_gc mixed (ctab_add sim_impl_SameField (ctab_nil _)) true Try.func50 Try.call50 (by kernel_rfl)
theorem law_slices_EqualFunc_Field__impl_SameFilm : slices_EqualFunc_Field_ok 51 con_impl_SameField con_slices_EqualFunc_Field__impl_SameFilm := slices_EqualFunc_Field_law rfl law_impl_SameField
noncomputable def con_impl_SameFilm : Contract := gcC (cadd 21 con_impl_ValidFilm (cadd 49 con_impl_SameSheet (cadd 50 con_slices_EqualFunc_Field__impl_SameFilm (cadd 51 con_impl_SameField cnil)))) (impl_SameFilm 21 49 50 51) true
theorem sim_impl_SameFilm : SimOk Try.prog 24 con_impl_SameFilm := simOk_gc mixed (ctab_add sim_impl_ValidFilm (ctab_add sim_impl_SameSheet (ctab_add sim_slices_EqualFunc_Field__impl_SameFilm (ctab_add sim_impl_SameField (ctab_nil _))))) true Try.func24 Try.call24 (by kernel_rfl)
theorem law_impl_SameFilm : impl_SameFilm_ok  con_impl_SameFilm := impl_SameFilm_law ⟨rfl, rfl, law_impl_ValidFilm⟩ ⟨rfl, rfl, law_impl_SameSheet⟩ ⟨rfl, rfl, law_slices_EqualFunc_Field__impl_SameFilm⟩ ⟨rfl, rfl, law_impl_SameField⟩
noncomputable def con_laws_sameFloat : Contract := gcC cnil laws_sameFloat true
theorem sim_laws_sameFloat : SimOk Try.prog 65 con_laws_sameFloat := simOk_gc mixed (ctab_nil _) true Try.func65 Try.call65 (by kernel_rfl)
theorem law_laws_sameFloat : laws_sameFloat_ok  con_laws_sameFloat := laws_sameFloat_law 
noncomputable def con_laws_eqFloat32S : Contract := gcC (cadd 65 con_laws_sameFloat cnil) (laws_eqFloat32S 65) true
theorem sim_laws_eqFloat32S : SimOk Try.prog 39 con_laws_eqFloat32S := simOk_gc mixed (ctab_add sim_laws_sameFloat (ctab_nil _)) true Try.func39 Try.call39 (by kernel_rfl)
theorem law_laws_eqFloat32S : laws_eqFloat32S_ok  con_laws_eqFloat32S := laws_eqFloat32S_law ⟨rfl, rfl, law_laws_sameFloat⟩
noncomputable def con_laws_eqSheet : Contract := gcC (cadd 39 con_laws_eqFloat32S cnil) (laws_eqSheet 39) true
theorem sim_laws_eqSheet : SimOk Try.prog 17 con_laws_eqSheet := simOk_gc mixed (ctab_add sim_laws_eqFloat32S (ctab_nil _)) true Try.func17 Try.call17 (by kernel_rfl)
theorem law_laws_eqSheet : laws_eqSheet_ok  con_laws_eqSheet := laws_eqSheet_law ⟨rfl, rfl, law_laws_eqFloat32S⟩
noncomputable def con_laws_eqField : Contract := gcC (cadd 39 con_laws_eqFloat32S cnil) (laws_eqField 39) true
theorem sim_laws_eqField : SimOk Try.prog 71 con_laws_eqField := simOk_gc mixed (ctab_add sim_laws_eqFloat32S (ctab_nil _)) true Try.func71 Try.call71 (by kernel_rfl)
theorem law_laws_eqField : laws_eqField_ok  con_laws_eqField := laws_eqField_law ⟨rfl, rfl, law_laws_eqFloat32S⟩
noncomputable def con_laws_eqFieldS : Contract := gcC (cadd 71 con_laws_eqField cnil) (laws_eqFieldS 71) true
theorem sim_laws_eqFieldS : SimOk Try.prog 46 con_laws_eqFieldS := simOk_gc mixed (ctab_add sim_laws_eqField (ctab_nil _)) true Try.func46 Try.call46 (by kernel_rfl)
theorem law_laws_eqFieldS : laws_eqFieldS_ok  con_laws_eqFieldS := laws_eqFieldS_law ⟨rfl, rfl, law_laws_eqField⟩
noncomputable def con_laws_eqFilm : Contract := gcC (cadd 17 con_laws_eqSheet (cadd 46 con_laws_eqFieldS cnil)) (laws_eqFilm 17 46) true
theorem sim_laws_eqFilm : SimOk Try.prog 22 con_laws_eqFilm := simOk_gc mixed (ctab_add sim_laws_eqSheet (ctab_add sim_laws_eqFieldS (ctab_nil _))) true Try.func22 Try.call22 (by kernel_rfl)
theorem law_laws_eqFilm : laws_eqFilm_ok  con_laws_eqFilm := laws_eqFilm_law ⟨rfl, rfl, law_laws_eqSheet⟩ ⟨rfl, rfl, law_laws_eqFieldS⟩
noncomputable def con_laws_FnExactSameFilm : Contract := gcC (cadd 18 con_laws_szFilm (cadd 20 con_laws_toFilm (cadd 23 con_spec_SameFilm (cadd 24 con_impl_SameFilm (cadd 22 con_laws_eqFilm cnil))))) (laws_FnExactSameFilm 18 20 23 24 22) true
theorem sim_laws_FnExactSameFilm : SimOk Try.prog 6 con_laws_FnExactSameFilm := simOk_gc mixed (ctab_add sim_laws_szFilm (ctab_add sim_laws_toFilm (ctab_add sim_spec_SameFilm (ctab_add sim_impl_SameFilm (ctab_add sim_laws_eqFilm (ctab_nil _)))))) true Try.func6 Try.call6 (by kernel_rfl)
theorem law_laws_FnExactSameFilm : laws_FnExactSameFilm_ok  con_laws_FnExactSameFilm := laws_FnExactSameFilm_law ⟨rfl, rfl, law_laws_szFilm⟩ ⟨rfl, rfl, law_laws_toFilm⟩ ⟨rfl, rfl, law_spec_SameFilm⟩ ⟨rfl, rfl, law_impl_SameFilm⟩ ⟨rfl, rfl, law_laws_eqFilm⟩
theorem lifted (os : Os) (started : os.Started) (H : Type) (enc : TypeId × Value → H) :
    ReturnsInHanded {} Try.checked os 6 .any (Rows.fnExactSameFilmSpec.pre6 enc Try.prog Try.f6 Rows.fnExactSameFilmRow.domain false) (Rows.fnExactSameFilmSpec.post enc Try.prog Try.f6 false true false false) := by
  refine returnsInHanded_of_change (C := Try.checked) own started (by kernel_rfl) Try.func6
    (ChangeSpec.witness6 (enc := enc) (C := Try.checked) false ⟨#[], #[.agg #[.int .i64 0, .int .i64 0, .bool false, .slice none 0 0, .slice none 0 0, .slice none 0 0], .agg #[.int .i64 0, .int .i64 0, .bool false, .slice none 0 0, .slice none 0 0, .slice none 0 0]], []⟩ 8 (by kernel_rfl) (by kernel_rfl) (by kernel_rfl) (by kernel_rfl)) ?_
  intro W base args ds gs before hval hW _ _
  exact row_contract (P := Try.prog) (fn := Try.f6) (d := 8) (sh := [filmK, filmK]) (n := 2) sim_laws_FnExactSameFilm Try.call6 (by kernel_rfl) law_laws_FnExactSameFilm laidOut (by kernel_rfl) rfl rfl (by kernel_rfl) (by kernel_rfl)
    (fun ds h => by match ds, h with | [_, _], _ => rfl) hval hW
theorem holds : Rows.FnExactSameFilmSaid :=
  OpenClaim.holds_of_wide 6 Try.f6 rfl rfl rfl rfl rfl rfl rfl ⟨rfl, rfl, rfl, rfl, rfl⟩ rfl rfl rfl rfl rfl (by kernel_rfl) Try.func6 (by kernel_rfl)
    (of_decide_eq_true (by kernel_rfl)) (by unfold Func.isWrapper; first | (rw [if_pos (by decide +kernel)]; kernel_rfl) | (rw [if_neg (by decide +kernel)]; exact ⟨rfl, rfl⟩))
    (fun os started H enc _ => lifted os started H enc)
end Go.Proofs.Ytogekdhkcndbdaa.laws_FnExactSameFilm
