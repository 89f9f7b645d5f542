/- The row FnExactValidFilm: it returns true whatever its arguments, and leaves them. No condition. -/
import Derived.Test.YtogekdhkcndbdaaRows
import Derived.Test.YtogekdhkcndbdaaExactValidFilmL87
import Derived.ProofKit
namespace Go.Proofs.Ytogekdhkcndbdaa.laws_FnExactValidFilm
open Go.Abs Go.ChangeShapes Go.WideShapes Go.ChangeAt Go.RowKit
set_option maxRecDepth 100000
theorem own : ownKnob Try.prog.godebug = none := by kernel_rfl
theorem laidOut : laidOutB Try.prog = true := by kernel_rfl
theorem mixed : Try.prog.follows .mixedOrders = true := by kernel_rfl
noncomputable def con_laws_szFloat32S : Contract := gcC cnil laws_szFloat32S true
theorem sim_laws_szFloat32S : SimOk Try.prog 33 con_laws_szFloat32S := simOk_gc mixed (ctab_nil _) true Try.func33 Try.call33 (by kernel_rfl)
theorem law_laws_szFloat32S : laws_szFloat32S_ok  con_laws_szFloat32S := laws_szFloat32S_law 
noncomputable def con_laws_szSheet : Contract := gcC (cadd 33 con_laws_szFloat32S cnil) (laws_szSheet 33) true
theorem sim_laws_szSheet : SimOk Try.prog 13 con_laws_szSheet := simOk_gc mixed (ctab_add sim_laws_szFloat32S (ctab_nil _)) true Try.func13 Try.call13 (by kernel_rfl)
theorem law_laws_szSheet : laws_szSheet_ok  con_laws_szSheet := laws_szSheet_law ⟨rfl, rfl, law_laws_szFloat32S⟩
noncomputable def con_laws_szField : Contract := gcC (cadd 33 con_laws_szFloat32S cnil) (laws_szField 33) true
theorem sim_laws_szField : SimOk Try.prog 66 con_laws_szField := simOk_gc mixed (ctab_add sim_laws_szFloat32S (ctab_nil _)) true Try.func66 Try.call66 (by kernel_rfl)
theorem law_laws_szField : laws_szField_ok  con_laws_szField := laws_szField_law ⟨rfl, rfl, law_laws_szFloat32S⟩
noncomputable def con_laws_szFieldS : Contract := gcC (cadd 66 con_laws_szField cnil) (laws_szFieldS 66) true
theorem sim_laws_szFieldS : SimOk Try.prog 40 con_laws_szFieldS := simOk_gc mixed (ctab_add sim_laws_szField (ctab_nil _)) true Try.func40 Try.call40 (by kernel_rfl)
theorem law_laws_szFieldS : laws_szFieldS_ok  con_laws_szFieldS := laws_szFieldS_law ⟨rfl, rfl, law_laws_szField⟩
noncomputable def con_laws_szFilm : Contract := gcC (cadd 13 con_laws_szSheet (cadd 40 con_laws_szFieldS cnil)) (laws_szFilm 13 40) true
theorem sim_laws_szFilm : SimOk Try.prog 18 con_laws_szFilm := simOk_gc mixed (ctab_add sim_laws_szSheet (ctab_add sim_laws_szFieldS (ctab_nil _))) true Try.func18 Try.call18 (by kernel_rfl)
theorem law_laws_szFilm : laws_szFilm_ok  con_laws_szFilm := laws_szFilm_law ⟨rfl, rfl, law_laws_szSheet⟩ ⟨rfl, rfl, law_laws_szFieldS⟩
noncomputable def con_laws_toFloat32S : Contract := gcC cnil laws_toFloat32S true
theorem sim_laws_toFloat32S : SimOk Try.prog 36 con_laws_toFloat32S := simOk_gc mixed (ctab_nil _) true Try.func36 Try.call36 (by kernel_rfl)
theorem law_laws_toFloat32S : laws_toFloat32S_ok  con_laws_toFloat32S := laws_toFloat32S_law 
noncomputable def con_laws_toSheet : Contract := gcC (cadd 36 con_laws_toFloat32S cnil) (laws_toSheet 36) true
theorem sim_laws_toSheet : SimOk Try.prog 15 con_laws_toSheet := simOk_gc mixed (ctab_add sim_laws_toFloat32S (ctab_nil _)) true Try.func15 Try.call15 (by kernel_rfl)
theorem law_laws_toSheet : laws_toSheet_ok  con_laws_toSheet := laws_toSheet_law ⟨rfl, rfl, law_laws_toFloat32S⟩
noncomputable def con_laws_toField : Contract := gcC (cadd 36 con_laws_toFloat32S cnil) (laws_toField 36) true
theorem sim_laws_toField : SimOk Try.prog 68 con_laws_toField := simOk_gc mixed (ctab_add sim_laws_toFloat32S (ctab_nil _)) true Try.func68 Try.call68 (by kernel_rfl)
theorem law_laws_toField : laws_toField_ok  con_laws_toField := laws_toField_law ⟨rfl, rfl, law_laws_toFloat32S⟩
noncomputable def con_laws_toFieldS : Contract := bodyC (cadd 68 con_laws_toField cnil) (laws_toFieldS 68) true
theorem sim_laws_toFieldS : SimOk Try.prog 42 con_laws_toFieldS := simOk_body mixed (ctab_add sim_laws_toField (ctab_nil _)) true Try.func42 Try.call42 (by kernel_rfl)
theorem law_laws_toFieldS : laws_toFieldS_ok  con_laws_toFieldS := laws_toFieldS_law ⟨rfl, rfl, law_laws_toField⟩
noncomputable def con_laws_toFilm : Contract := bodyC (cadd 15 con_laws_toSheet (cadd 42 con_laws_toFieldS cnil)) (laws_toFilm 15 42) true
theorem sim_laws_toFilm : SimOk Try.prog 20 con_laws_toFilm := simOk_body mixed (ctab_add sim_laws_toSheet (ctab_add sim_laws_toFieldS (ctab_nil _))) true Try.func20 Try.call20 (by kernel_rfl)
theorem law_laws_toFilm : laws_toFilm_ok  con_laws_toFilm := laws_toFilm_law ⟨rfl, rfl, law_laws_toSheet⟩ ⟨rfl, rfl, law_laws_toFieldS⟩
noncomputable def con_spec_l00In : Contract := gcC cnil spec_l00In true
theorem sim_spec_l00In : SimOk Try.prog 78 con_spec_l00In := simOk_gc mixed (ctab_nil _) true Try.func78 Try.call78 (by kernel_rfl)
theorem law_spec_l00In : spec_l00In_ok  con_spec_l00In := spec_l00In_law 
noncomputable def con_spec_l02Sides : Contract := gcC (cadd 78 con_spec_l00In cnil) (spec_l02Sides 78) true
theorem sim_spec_l02Sides : SimOk Try.prog 60 con_spec_l02Sides := simOk_gc mixed (ctab_add sim_spec_l00In (ctab_nil _)) true Try.func60 Try.call60 (by kernel_rfl)
theorem law_spec_l02Sides : spec_l02Sides_ok  con_spec_l02Sides := spec_l02Sides_law ⟨rfl, rfl, law_spec_l00In⟩
noncomputable def con_spec_l02Is : Contract := gcC (cadd 60 con_spec_l02Sides cnil) (spec_l02Is 60) true
theorem sim_spec_l02Is : SimOk Try.prog 34 con_spec_l02Is := simOk_gc mixed (ctab_add sim_spec_l02Sides (ctab_nil _)) true Try.func34 Try.call34 (by kernel_rfl)
theorem law_spec_l02Is : spec_l02Is_ok  con_spec_l02Is := spec_l02Is_law ⟨rfl, rfl, law_spec_l02Sides⟩
noncomputable def con_spec_l02Border : Contract := gcC cnil spec_l02Border true
theorem sim_spec_l02Border : SimOk Try.prog 80 con_spec_l02Border := simOk_gc mixed (ctab_nil _) true Try.func80 Try.call80 (by kernel_rfl)
theorem law_spec_l02Border : spec_l02Border_ok  con_spec_l02Border := spec_l02Border_law 
noncomputable def con_spec_l02Fits : Contract := gcC (cadd 80 con_spec_l02Border cnil) (spec_l02Fits 80) true
theorem sim_spec_l02Fits : SimOk Try.prog 67 con_spec_l02Fits := simOk_gc mixed (ctab_add sim_spec_l02Border (ctab_nil _)) true Try.func67 Try.call67 (by kernel_rfl)
theorem law_spec_l02Fits : spec_l02Fits_ok  con_spec_l02Fits := spec_l02Fits_law ⟨rfl, rfl, law_spec_l02Border⟩
theorem law_spec_l02FitsE : spec_l02FitsE_ok con_spec_l02Fits := spec_l02FitsE_law ⟨rfl, rfl, law_spec_l02Border⟩
noncomputable def con_spec_l10Is : Contract := gcC (cadd 34 con_spec_l02Is (cadd 67 con_spec_l02Fits cnil)) (spec_l10Is 34 67) true
theorem sim_spec_l10Is : SimOk Try.prog 41 con_spec_l10Is := simOk_gc mixed (ctab_add sim_spec_l02Is (ctab_add sim_spec_l02Fits (ctab_nil _))) true Try.func41 Try.call41 (by kernel_rfl)
theorem law_spec_l10Is : spec_l10Is_ok  con_spec_l10Is := spec_l10Is_law ⟨rfl, rfl, law_spec_l02Is⟩ ⟨rfl, rfl, law_spec_l02FitsE⟩
noncomputable def con_spec_ValidFilm : Contract := gcC (cadd 41 con_spec_l10Is cnil) (spec_ValidFilm 41) true
theorem sim_spec_ValidFilm : SimOk Try.prog 19 con_spec_ValidFilm := simOk_gc mixed (ctab_add sim_spec_l10Is (ctab_nil _)) true Try.func19 Try.call19 (by kernel_rfl)
theorem law_spec_ValidFilm : spec_ValidFilm_ok  con_spec_ValidFilm := spec_ValidFilm_law ⟨rfl, rfl, law_spec_l10Is⟩
noncomputable def con_impl_within : Contract := gcC cnil impl_within true
theorem sim_impl_within : SimOk Try.prog 56 con_impl_within := simOk_gc mixed (ctab_nil _) true Try.func56 Try.call56 (by kernel_rfl)
theorem law_impl_within : impl_within_ok  con_impl_within := impl_within_law 
noncomputable def con_impl_areBetween : Contract := gcC cnil impl_areBetween true
theorem sim_impl_areBetween : SimOk Try.prog 63 con_impl_areBetween := simOk_gc mixed (ctab_nil _) true Try.func63 Try.call63 (by kernel_rfl)
theorem law_impl_areBetween : impl_areBetween_ok  con_impl_areBetween := impl_areBetween_law 
noncomputable def con_impl_ValidSheet : Contract := gcC (cadd 56 con_impl_within (cadd 63 con_impl_areBetween cnil)) (impl_ValidSheet 56 63) true
theorem sim_impl_ValidSheet : SimOk Try.prog 37 con_impl_ValidSheet := simOk_gc mixed (ctab_add sim_impl_within (ctab_add sim_impl_areBetween (ctab_nil _))) true Try.func37 Try.call37 (by kernel_rfl)
theorem law_impl_ValidSheet : impl_ValidSheet_ok  con_impl_ValidSheet := impl_ValidSheet_law ⟨rfl, rfl, law_impl_within⟩ ⟨rfl, rfl, law_impl_areBetween⟩
noncomputable def con_impl_Sheet_isBorder : Contract := gcC cnil impl_Sheet_isBorder true
theorem sim_impl_Sheet_isBorder : SimOk Try.prog 70 con_impl_Sheet_isBorder := simOk_gc mixed (ctab_nil _) true Try.func70 Try.call70 (by kernel_rfl)
theorem law_impl_Sheet_isBorder : impl_Sheet_isBorder_ok  con_impl_Sheet_isBorder := impl_Sheet_isBorder_law 
noncomputable def con_impl_IsField : Contract := gcC (cadd 37 con_impl_ValidSheet (cadd 70 con_impl_Sheet_isBorder cnil)) (impl_IsField 37 70) true
theorem sim_impl_IsField : SimOk Try.prog 45 con_impl_IsField := simOk_gc mixed (ctab_add sim_impl_ValidSheet (ctab_add sim_impl_Sheet_isBorder (ctab_nil _))) true Try.func45 Try.call45 (by kernel_rfl)
theorem law_impl_IsField : impl_IsField_ok  con_impl_IsField := impl_IsField_law ⟨rfl, rfl, law_impl_ValidSheet⟩ ⟨rfl, rfl, law_impl_Sheet_isBorder⟩
noncomputable def con_impl_ValidFilmC1 : Contract := gcC (cadd 45 con_impl_IsField cnil) (impl_ValidFilmC1 45) true
theorem sim_impl_ValidFilmC1 : SimOk Try.prog 44 con_impl_ValidFilmC1 := simOk_gc mixed (ctab_add sim_impl_IsField (ctab_nil _)) true Try.func44 Try.call44 (by kernel_rfl)
theorem law_impl_ValidFilmC1 : impl_ValidFilmC1_ok  con_impl_ValidFilmC1 := impl_ValidFilmC1_law ⟨rfl, rfl, law_impl_IsField⟩
noncomputable def con_slices_IndexFunc_Field__impl_ValidFilm : Contract := gcC (cadd 44 con_impl_ValidFilmC1 cnil) slices_IndexFunc_Field true
theorem sim_slices_IndexFunc_Field__impl_ValidFilm : SimOk Try.prog 69 con_slices_IndexFunc_Field__impl_ValidFilm := simOk_gc mixed (ctab_add sim_impl_ValidFilmC1 (ctab_nil _)) true Try.func69 Try.call69 (by kernel_rfl)
theorem law_slices_IndexFunc_Field__impl_ValidFilm : slices_IndexFunc_Field_ok 44 con_impl_ValidFilmC1 con_slices_IndexFunc_Field__impl_ValidFilm := slices_IndexFunc_Field_law rfl
noncomputable def con_slices_ContainsFunc_Field__impl_ValidFilm : Contract := gcC (cadd 69 con_slices_IndexFunc_Field__impl_ValidFilm cnil) (slices_ContainsFunc_Field 69) true
theorem sim_slices_ContainsFunc_Field__impl_ValidFilm : SimOk Try.prog 43 con_slices_ContainsFunc_Field__impl_ValidFilm := simOk_gc mixed (ctab_add sim_slices_IndexFunc_Field__impl_ValidFilm (ctab_nil _)) true Try.func43 Try.call43 (by kernel_rfl)
theorem law_slices_ContainsFunc_Field__impl_ValidFilm : slices_ContainsFunc_Field_ok 44 con_impl_ValidFilmC1 con_slices_ContainsFunc_Field__impl_ValidFilm := slices_ContainsFunc_Field_law ⟨rfl, rfl, law_slices_IndexFunc_Field__impl_ValidFilm⟩
noncomputable def con_impl_ValidFilm : Contract := gcC (cadd 37 con_impl_ValidSheet (cadd 44 con_impl_ValidFilmC1 (cadd 43 con_slices_ContainsFunc_Field__impl_ValidFilm cnil))) (impl_ValidFilm 37 44 43) true
theorem sim_impl_ValidFilm : SimOk Try.prog 21 con_impl_ValidFilm := simOk_gc mixed (ctab_add sim_impl_ValidSheet (ctab_add sim_impl_ValidFilmC1 (ctab_add sim_slices_ContainsFunc_Field__impl_ValidFilm (ctab_nil _)))) true Try.func21 Try.call21 (by kernel_rfl)
theorem law_impl_ValidFilm : impl_ValidFilm_ok  con_impl_ValidFilm := impl_ValidFilm_law ⟨rfl, rfl, law_impl_ValidSheet⟩ law_impl_ValidFilmC1 ⟨rfl, rfl, law_slices_ContainsFunc_Field__impl_ValidFilm⟩
noncomputable def con_laws_sameFloat : Contract := gcC cnil laws_sameFloat true
theorem sim_laws_sameFloat : SimOk Try.prog 65 con_laws_sameFloat := simOk_gc mixed (ctab_nil _) true Try.func65 Try.call65 (by kernel_rfl)
theorem law_laws_sameFloat : laws_sameFloat_ok  con_laws_sameFloat := laws_sameFloat_law 
noncomputable def con_laws_eqFloat32S : Contract := gcC (cadd 65 con_laws_sameFloat cnil) (laws_eqFloat32S 65) true
theorem sim_laws_eqFloat32S : SimOk Try.prog 39 con_laws_eqFloat32S := simOk_gc mixed (ctab_add sim_laws_sameFloat (ctab_nil _)) true Try.func39 Try.call39 (by kernel_rfl)
theorem law_laws_eqFloat32S : laws_eqFloat32S_ok  con_laws_eqFloat32S := laws_eqFloat32S_law ⟨rfl, rfl, law_laws_sameFloat⟩
noncomputable def con_laws_eqSheet : Contract := gcC (cadd 39 con_laws_eqFloat32S cnil) (laws_eqSheet 39) true
theorem sim_laws_eqSheet : SimOk Try.prog 17 con_laws_eqSheet := simOk_gc mixed (ctab_add sim_laws_eqFloat32S (ctab_nil _)) true Try.func17 Try.call17 (by kernel_rfl)
theorem law_laws_eqSheet : laws_eqSheet_ok  con_laws_eqSheet := laws_eqSheet_law ⟨rfl, rfl, law_laws_eqFloat32S⟩
noncomputable def con_laws_eqField : Contract := gcC (cadd 39 con_laws_eqFloat32S cnil) (laws_eqField 39) true
theorem sim_laws_eqField : SimOk Try.prog 71 con_laws_eqField := simOk_gc mixed (ctab_add sim_laws_eqFloat32S (ctab_nil _)) true Try.func71 Try.call71 (by kernel_rfl)
theorem law_laws_eqField : laws_eqField_ok  con_laws_eqField := laws_eqField_law ⟨rfl, rfl, law_laws_eqFloat32S⟩
noncomputable def con_laws_eqFieldS : Contract := gcC (cadd 71 con_laws_eqField cnil) (laws_eqFieldS 71) true
theorem sim_laws_eqFieldS : SimOk Try.prog 46 con_laws_eqFieldS := simOk_gc mixed (ctab_add sim_laws_eqField (ctab_nil _)) true Try.func46 Try.call46 (by kernel_rfl)
theorem law_laws_eqFieldS : laws_eqFieldS_ok  con_laws_eqFieldS := laws_eqFieldS_law ⟨rfl, rfl, law_laws_eqField⟩
noncomputable def con_laws_eqFilm : Contract := gcC (cadd 17 con_laws_eqSheet (cadd 46 con_laws_eqFieldS cnil)) (laws_eqFilm 17 46) true
theorem sim_laws_eqFilm : SimOk Try.prog 22 con_laws_eqFilm := simOk_gc mixed (ctab_add sim_laws_eqSheet (ctab_add sim_laws_eqFieldS (ctab_nil _))) true Try.func22 Try.call22 (by kernel_rfl)
theorem law_laws_eqFilm : laws_eqFilm_ok  con_laws_eqFilm := laws_eqFilm_law ⟨rfl, rfl, law_laws_eqSheet⟩ ⟨rfl, rfl, law_laws_eqFieldS⟩
noncomputable def con_laws_FnExactValidFilm : Contract := gcC (cadd 18 con_laws_szFilm (cadd 20 con_laws_toFilm (cadd 19 con_spec_ValidFilm (cadd 21 con_impl_ValidFilm (cadd 22 con_laws_eqFilm cnil))))) (laws_FnExactValidFilm 18 20 19 21 22) true
theorem sim_laws_FnExactValidFilm : SimOk Try.prog 5 con_laws_FnExactValidFilm := simOk_gc mixed (ctab_add sim_laws_szFilm (ctab_add sim_laws_toFilm (ctab_add sim_spec_ValidFilm (ctab_add sim_impl_ValidFilm (ctab_add sim_laws_eqFilm (ctab_nil _)))))) true Try.func5 Try.call5 (by kernel_rfl)
theorem law_laws_FnExactValidFilm : laws_FnExactValidFilm_ok  con_laws_FnExactValidFilm := laws_FnExactValidFilm_law ⟨rfl, rfl, law_laws_szFilm⟩ ⟨rfl, rfl, law_laws_toFilm⟩ ⟨rfl, rfl, law_spec_ValidFilm⟩ ⟨rfl, rfl, law_impl_ValidFilm⟩ ⟨rfl, rfl, law_laws_eqFilm⟩
theorem lifted (os : Os) (started : os.Started) (H : Type) (enc : TypeId × Value → H) :
    ReturnsInHanded {} Try.checked os 5 .any (Rows.fnExactValidFilmSpec.pre6 enc Try.prog Try.f5 Rows.fnExactValidFilmRow.domain false) (Rows.fnExactValidFilmSpec.post enc Try.prog Try.f5 false true false false) := by
  refine returnsInHanded_of_change (C := Try.checked) own started (by kernel_rfl) Try.func5
    (ChangeSpec.witness6 (enc := enc) (C := Try.checked) false ⟨#[], #[.agg #[.int .i64 0, .int .i64 0, .bool false, .slice none 0 0, .slice none 0 0, .slice none 0 0]], []⟩ 8 (by kernel_rfl) (by kernel_rfl) (by kernel_rfl) (by kernel_rfl)) ?_
  intro W base args ds gs before hval hW _ _
  exact row_contract (P := Try.prog) (fn := Try.f5) (d := 8) (sh := [filmK]) (n := 1) sim_laws_FnExactValidFilm Try.call5 (by kernel_rfl) law_laws_FnExactValidFilm laidOut (by kernel_rfl) rfl rfl (by kernel_rfl) (by kernel_rfl)
    (fun ds h => by match ds, h with | [_], _ => rfl) hval hW
theorem holds : Rows.FnExactValidFilmSaid :=
  OpenClaim.holds_of_wide 5 Try.f5 rfl rfl rfl rfl rfl rfl rfl ⟨rfl, rfl, rfl, rfl, rfl⟩ rfl rfl rfl rfl rfl (by kernel_rfl) Try.func5 (by kernel_rfl)
    (of_decide_eq_true (by kernel_rfl)) (by unfold Func.isWrapper; first | (rw [if_pos (by decide +kernel)]; kernel_rfl) | (rw [if_neg (by decide +kernel)]; exact ⟨rfl, rfl⟩))
    (fun os started H enc _ => lifted os started H enc)
end Go.Proofs.Ytogekdhkcndbdaa.laws_FnExactValidFilm
