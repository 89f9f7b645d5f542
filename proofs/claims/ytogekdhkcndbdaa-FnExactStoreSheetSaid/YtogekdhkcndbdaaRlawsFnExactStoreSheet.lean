/- The row FnExactStoreSheet: it returns true whatever its arguments, and leaves them. No condition. -/
import Derived.Test.YtogekdhkcndbdaaRows
import Derived.Test.YtogekdhkcndbdaaExactStoreSheetL85
import Derived.ProofKit
namespace Go.Proofs.Ytogekdhkcndbdaa.laws_FnExactStoreSheet
open Go.Abs Go.ChangeShapes Go.WideShapes Go.ChangeAt Go.RowKit
set_option maxRecDepth 100000
theorem own : ownKnob Try.prog.godebug = none := by kernel_rfl
theorem laidOut : laidOutB Try.prog = true := by kernel_rfl
theorem mixed : Try.prog.follows .mixedOrders = true := by kernel_rfl
noncomputable def con_laws_szFloat32S : Contract := gcC cnil laws_szFloat32S true
theorem sim_laws_szFloat32S : SimOk Try.prog 33 con_laws_szFloat32S := simOk_gc mixed (ctab_nil _) true Try.func33 Try.call33 (by kernel_rfl)
theorem law_laws_szFloat32S : laws_szFloat32S_ok  con_laws_szFloat32S := laws_szFloat32S_law 
noncomputable def con_laws_szSheet : Contract := gcC (cadd 33 con_laws_szFloat32S cnil) (laws_szSheet 33) true
theorem sim_laws_szSheet : SimOk Try.prog 13 con_laws_szSheet := simOk_gc mixed (ctab_add sim_laws_szFloat32S (ctab_nil _)) true Try.func13 Try.call13 (by kernel_rfl)
theorem law_laws_szSheet : laws_szSheet_ok  con_laws_szSheet := laws_szSheet_law ⟨rfl, rfl, law_laws_szFloat32S⟩
noncomputable def con_laws_toFloat32S : Contract := gcC cnil laws_toFloat32S true
theorem sim_laws_toFloat32S : SimOk Try.prog 36 con_laws_toFloat32S := simOk_gc mixed (ctab_nil _) true Try.func36 Try.call36 (by kernel_rfl)
theorem law_laws_toFloat32S : laws_toFloat32S_ok  con_laws_toFloat32S := laws_toFloat32S_law 
noncomputable def con_laws_toSheet : Contract := gcC (cadd 36 con_laws_toFloat32S cnil) (laws_toSheet 36) true
theorem sim_laws_toSheet : SimOk Try.prog 15 con_laws_toSheet := simOk_gc mixed (ctab_add sim_laws_toFloat32S (ctab_nil _)) true Try.func15 Try.call15 (by kernel_rfl)
theorem law_laws_toSheet : laws_toSheet_ok  con_laws_toSheet := laws_toSheet_law ⟨rfl, rfl, law_laws_toFloat32S⟩
noncomputable def con_spec_l00In : Contract := gcC cnil spec_l00In true
theorem sim_spec_l00In : SimOk Try.prog 78 con_spec_l00In := simOk_gc mixed (ctab_nil _) true Try.func78 Try.call78 (by kernel_rfl)
theorem law_spec_l00In : spec_l00In_ok  con_spec_l00In := spec_l00In_law 
noncomputable def con_spec_l02Sides : Contract := gcC (cadd 78 con_spec_l00In cnil) (spec_l02Sides 78) true
theorem sim_spec_l02Sides : SimOk Try.prog 60 con_spec_l02Sides := simOk_gc mixed (ctab_add sim_spec_l00In (ctab_nil _)) true Try.func60 Try.call60 (by kernel_rfl)
theorem law_spec_l02Sides : spec_l02Sides_ok  con_spec_l02Sides := spec_l02Sides_law ⟨rfl, rfl, law_spec_l00In⟩
noncomputable def con_spec_l02Is : Contract := gcC (cadd 60 con_spec_l02Sides cnil) (spec_l02Is 60) true
theorem sim_spec_l02Is : SimOk Try.prog 34 con_spec_l02Is := simOk_gc mixed (ctab_add sim_spec_l02Sides (ctab_nil _)) true Try.func34 Try.call34 (by kernel_rfl)
theorem law_spec_l02Is : spec_l02Is_ok  con_spec_l02Is := spec_l02Is_law ⟨rfl, rfl, law_spec_l02Sides⟩
noncomputable def con_spec_l10Word : Contract := gcC cnil spec_l10Word true
theorem sim_spec_l10Word : SimOk Try.prog 61 con_spec_l10Word := simOk_gc mixed (ctab_nil _) true Try.func61 Try.call61 (by kernel_rfl)
theorem law_spec_l10Word : spec_l10Word_ok  con_spec_l10Word := spec_l10Word_law 
noncomputable def con_math_Float32bits : Contract := pureC gBits32
theorem sim_math_Float32bits : SimOk Try.prog 58 con_math_Float32bits := sim_bits32 (run_callFunc_extern Try.func58 (by kernel_rfl) (by kernel_rfl) (by kernel_rfl) (by kernel_rfl))
theorem law_math_Float32bits : math_Float32bits_ok con_math_Float32bits := math_Float32bits_law
noncomputable def con_spec_l01Bits : Contract := gcC (cadd 58 con_math_Float32bits cnil) (spec_l01Bits 58) true
theorem sim_spec_l01Bits : SimOk Try.prog 62 con_spec_l01Bits := simOk_gc mixed (ctab_add sim_math_Float32bits (ctab_nil _)) true Try.func62 Try.call62 (by kernel_rfl)
theorem law_spec_l01Bits : spec_l01BitsN_ok  con_spec_l01Bits := spec_l01BitsN_law ⟨rfl, rfl, law_math_Float32bits⟩
noncomputable def con_spec_l10Head : Contract := gcC (cadd 61 con_spec_l10Word (cadd 62 con_spec_l01Bits cnil)) (spec_l10Head 61 62) true
theorem sim_spec_l10Head : SimOk Try.prog 35 con_spec_l10Head := simOk_gc mixed (ctab_add sim_spec_l10Word (ctab_add sim_spec_l01Bits (ctab_nil _))) true Try.func35 Try.call35 (by kernel_rfl)
theorem law_spec_l10Head : spec_l10Head_ok  con_spec_l10Head := spec_l10Head_law ⟨rfl, rfl, law_spec_l10Word⟩ ⟨rfl, rfl, law_spec_l01Bits⟩
noncomputable def con_spec_StoreSheet : Contract := gcC (cadd 34 con_spec_l02Is (cadd 35 con_spec_l10Head cnil)) (spec_StoreSheet 34 35) true
theorem sim_spec_StoreSheet : SimOk Try.prog 14 con_spec_StoreSheet := simOk_gc mixed (ctab_add sim_spec_l02Is (ctab_add sim_spec_l10Head (ctab_nil _))) true Try.func14 Try.call14 (by kernel_rfl)
theorem law_spec_StoreSheet : spec_StoreSheet_ok  con_spec_StoreSheet := spec_StoreSheet_law ⟨rfl, rfl, law_spec_l02Is⟩ ⟨rfl, rfl, law_spec_l10Head⟩
noncomputable def con_impl_within : Contract := gcC cnil impl_within true
theorem sim_impl_within : SimOk Try.prog 56 con_impl_within := simOk_gc mixed (ctab_nil _) true Try.func56 Try.call56 (by kernel_rfl)
theorem law_impl_within : impl_within_ok  con_impl_within := impl_within_law 
noncomputable def con_impl_areBetween : Contract := gcC cnil impl_areBetween true
theorem sim_impl_areBetween : SimOk Try.prog 63 con_impl_areBetween := simOk_gc mixed (ctab_nil _) true Try.func63 Try.call63 (by kernel_rfl)
theorem law_impl_areBetween : impl_areBetween_ok  con_impl_areBetween := impl_areBetween_law 
noncomputable def con_impl_ValidSheet : Contract := gcC (cadd 56 con_impl_within (cadd 63 con_impl_areBetween cnil)) (impl_ValidSheet 56 63) true
theorem sim_impl_ValidSheet : SimOk Try.prog 37 con_impl_ValidSheet := simOk_gc mixed (ctab_add sim_impl_within (ctab_add sim_impl_areBetween (ctab_nil _))) true Try.func37 Try.call37 (by kernel_rfl)
theorem law_impl_ValidSheet : impl_ValidSheet_ok  con_impl_ValidSheet := impl_ValidSheet_law ⟨rfl, rfl, law_impl_within⟩ ⟨rfl, rfl, law_impl_areBetween⟩
noncomputable def con_slices_Grow_float32 : Contract := gcC cnil slices_Grow_float32 true
theorem sim_slices_Grow_float32 : SimOk Try.prog 79 con_slices_Grow_float32 := simOk_gc mixed (ctab_nil _) true Try.func79 Try.call79 (by kernel_rfl)
theorem law_slices_Grow_float32 : slices_Grow_float32_ok  con_slices_Grow_float32 := slices_Grow_float32_law 
noncomputable def con_slices_Concat_float32 : Contract := gcC (cadd 79 con_slices_Grow_float32 cnil) (slices_Concat_float32 79) true
theorem sim_slices_Concat_float32 : SimOk Try.prog 64 con_slices_Concat_float32 := simOk_gc mixed (ctab_add sim_slices_Grow_float32 (ctab_nil _)) true Try.func64 Try.call64 (by kernel_rfl)
theorem law_slices_Concat_float32 : slices_Concat_float32_ok  con_slices_Concat_float32 := slices_Concat_float32_law ⟨rfl, rfl, law_slices_Grow_float32⟩
noncomputable def con_impl_BitsOf : Contract := gcC (cadd 58 con_math_Float32bits cnil) (impl_BitsOf 58) true
theorem sim_impl_BitsOf : SimOk Try.prog 30 con_impl_BitsOf := simOk_gc mixed (ctab_add sim_math_Float32bits (ctab_nil _)) true Try.func30 Try.call30 (by kernel_rfl)
theorem law_impl_BitsOf : impl_BitsOf_ok  con_impl_BitsOf := impl_BitsOf_law ⟨rfl, rfl, law_math_Float32bits⟩
noncomputable def con_impl_lowBytes : Contract := gcC cnil impl_lowBytes true
theorem sim_impl_lowBytes : SimOk Try.prog 55 con_impl_lowBytes := simOk_gc mixed (ctab_nil _) true Try.func55 Try.call55 (by kernel_rfl)
theorem law_impl_lowBytes : impl_lowBytes_ok  con_impl_lowBytes := impl_lowBytes_law 
noncomputable def con_impl_sheetBytes : Contract := gcC (cadd 64 con_slices_Concat_float32 (cadd 30 con_impl_BitsOf (cadd 55 con_impl_lowBytes cnil))) (impl_sheetBytes 64 30 55) true
theorem sim_impl_sheetBytes : SimOk Try.prog 38 con_impl_sheetBytes := simOk_gc mixed (ctab_add sim_slices_Concat_float32 (ctab_add sim_impl_BitsOf (ctab_add sim_impl_lowBytes (ctab_nil _)))) true Try.func38 Try.call38 (by kernel_rfl)
theorem law_impl_sheetBytes : impl_sheetBytes_ok  con_impl_sheetBytes := impl_sheetBytes_law ⟨rfl, rfl, law_slices_Concat_float32⟩ ⟨rfl, rfl, law_impl_BitsOf⟩ ⟨rfl, rfl, law_impl_lowBytes⟩
noncomputable def con_impl_StoreSheet : Contract := gcC (cadd 37 con_impl_ValidSheet (cadd 38 con_impl_sheetBytes cnil)) (impl_StoreSheet 37 38) true
theorem sim_impl_StoreSheet : SimOk Try.prog 16 con_impl_StoreSheet := simOk_gc mixed (ctab_add sim_impl_ValidSheet (ctab_add sim_impl_sheetBytes (ctab_nil _))) true Try.func16 Try.call16 (by kernel_rfl)
theorem law_impl_StoreSheet : impl_StoreSheet_ok  con_impl_StoreSheet := impl_StoreSheet_law ⟨rfl, rfl, law_impl_ValidSheet⟩ ⟨rfl, rfl, law_impl_sheetBytes⟩
noncomputable def con_laws_sameFloat : Contract := gcC cnil laws_sameFloat true
theorem sim_laws_sameFloat : SimOk Try.prog 65 con_laws_sameFloat := simOk_gc mixed (ctab_nil _) true Try.func65 Try.call65 (by kernel_rfl)
theorem law_laws_sameFloat : laws_sameFloat_ok  con_laws_sameFloat := laws_sameFloat_law 
noncomputable def con_laws_eqFloat32S : Contract := gcC (cadd 65 con_laws_sameFloat cnil) (laws_eqFloat32S 65) true
theorem sim_laws_eqFloat32S : SimOk Try.prog 39 con_laws_eqFloat32S := simOk_gc mixed (ctab_add sim_laws_sameFloat (ctab_nil _)) true Try.func39 Try.call39 (by kernel_rfl)
theorem law_laws_eqFloat32S : laws_eqFloat32S_ok  con_laws_eqFloat32S := laws_eqFloat32S_law ⟨rfl, rfl, law_laws_sameFloat⟩
noncomputable def con_laws_eqSheet : Contract := gcC (cadd 39 con_laws_eqFloat32S cnil) (laws_eqSheet 39) true
theorem sim_laws_eqSheet : SimOk Try.prog 17 con_laws_eqSheet := simOk_gc mixed (ctab_add sim_laws_eqFloat32S (ctab_nil _)) true Try.func17 Try.call17 (by kernel_rfl)
theorem law_laws_eqSheet : laws_eqSheet_ok  con_laws_eqSheet := laws_eqSheet_law ⟨rfl, rfl, law_laws_eqFloat32S⟩
noncomputable def con_laws_FnExactStoreSheet : Contract := gcC (cadd 13 con_laws_szSheet (cadd 15 con_laws_toSheet (cadd 14 con_spec_StoreSheet (cadd 16 con_impl_StoreSheet (cadd 17 con_laws_eqSheet cnil))))) (laws_FnExactStoreSheet 13 15 14 16 17) true
theorem sim_laws_FnExactStoreSheet : SimOk Try.prog 4 con_laws_FnExactStoreSheet := simOk_gc mixed (ctab_add sim_laws_szSheet (ctab_add sim_laws_toSheet (ctab_add sim_spec_StoreSheet (ctab_add sim_impl_StoreSheet (ctab_add sim_laws_eqSheet (ctab_nil _)))))) true Try.func4 Try.call4 (by kernel_rfl)
theorem law_laws_FnExactStoreSheet : laws_FnExactStoreSheet_ok  con_laws_FnExactStoreSheet := laws_FnExactStoreSheet_law ⟨rfl, rfl, law_laws_szSheet⟩ ⟨rfl, rfl, law_laws_toSheet⟩ ⟨rfl, rfl, law_spec_StoreSheet⟩ ⟨rfl, rfl, law_impl_StoreSheet⟩ ⟨rfl, rfl, law_laws_eqSheet⟩
theorem lifted (os : Os) (started : os.Started) (H : Type) (enc : TypeId × Value → H) :
    ReturnsInHanded {} Try.checked os 4 .any (Rows.fnExactStoreSheetSpec.pre6 enc Try.prog Try.f4 Rows.fnExactStoreSheetRow.domain false) (Rows.fnExactStoreSheetSpec.post enc Try.prog Try.f4 false true false false) := by
  refine returnsInHanded_of_change (C := Try.checked) own started (by kernel_rfl) Try.func4
    (ChangeSpec.witness6 (enc := enc) (C := Try.checked) false ⟨#[], #[.agg #[.int .i64 0, .int .i64 0, .bool false, .slice none 0 0, .slice none 0 0]], []⟩ 8 (by kernel_rfl) (by kernel_rfl) (by kernel_rfl) (by kernel_rfl)) ?_
  intro W base args ds gs before hval hW _ _
  exact row_contract (P := Try.prog) (fn := Try.f4) (d := 8) (sh := [sheetK]) (n := 1) sim_laws_FnExactStoreSheet Try.call4 (by kernel_rfl) law_laws_FnExactStoreSheet laidOut (by kernel_rfl) rfl rfl (by kernel_rfl) (by kernel_rfl)
    (fun ds h => by match ds, h with | [_], _ => rfl) hval hW
theorem holds : Rows.FnExactStoreSheetSaid :=
  OpenClaim.holds_of_wide 4 Try.f4 rfl rfl rfl rfl rfl rfl rfl ⟨rfl, rfl, rfl, rfl, rfl⟩ rfl rfl rfl rfl rfl (by kernel_rfl) Try.func4 (by kernel_rfl)
    (of_decide_eq_true (by kernel_rfl)) (by unfold Func.isWrapper; first | (rw [if_pos (by decide +kernel)]; kernel_rfl) | (rw [if_neg (by decide +kernel)]; exact ⟨rfl, rfl⟩))
    (fun os started H enc _ => lifted os started H enc)
end Go.Proofs.Ytogekdhkcndbdaa.laws_FnExactStoreSheet
