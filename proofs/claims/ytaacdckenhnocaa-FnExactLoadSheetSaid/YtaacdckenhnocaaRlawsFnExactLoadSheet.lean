/- The row FnExactLoadSheet: it returns true whatever its arguments, and leaves them. No condition. -/
import Derived.Test.YtaacdckenhnocaaRows
import Derived.Test.YtaacdckenhnocaaExactLoadSheetL100
import Derived.ProofKit
namespace Go.Proofs.Ytaacdckenhnocaa.laws_FnExactLoadSheet
open Go.Abs Go.ChangeShapes Go.WideShapes Go.ChangeAt Go.RowKit
set_option maxRecDepth 100000
theorem own : ownKnob Try.prog.godebug = none := by kernel_rfl
theorem laidOut : laidOutB Try.prog = true := by kernel_rfl
theorem mixed : Try.prog.follows .mixedOrders = true := by kernel_rfl
noncomputable def con_spec_l00In : Contract := gcC cnil spec_l00In true
theorem sim_spec_l00In : SimOk Try.prog 86 con_spec_l00In := simOk_gc mixed (ctab_nil _) true Try.func86 Try.call86 (by kernel_rfl)
theorem law_spec_l00In : spec_l00In_ok  con_spec_l00In := spec_l00In_law 
noncomputable def con_spec_l02Sides : Contract := gcC (cadd 86 con_spec_l00In cnil) (spec_l02Sides 86) true
theorem sim_spec_l02Sides : SimOk Try.prog 55 con_spec_l02Sides := simOk_gc mixed (ctab_add sim_spec_l00In (ctab_nil _)) true Try.func55 Try.call55 (by kernel_rfl)
theorem law_spec_l02Sides : spec_l02Sides_ok  con_spec_l02Sides := spec_l02Sides_law ⟨rfl, rfl, law_spec_l00In⟩
noncomputable def con_spec_l10Number : Contract := gcC cnil spec_l10Number true
theorem sim_spec_l10Number : SimOk Try.prog 57 con_spec_l10Number := simOk_gc mixed (ctab_nil _) true Try.func57 Try.call57 (by kernel_rfl)
theorem law_spec_l10Number : spec_l10Number_ok  con_spec_l10Number := spec_l10Number_law 
noncomputable def con_math_Float32frombits : Contract := pureC gFrom32
theorem sim_math_Float32frombits : SimOk Try.prog 87 con_math_Float32frombits := sim_from32 (run_callFunc_extern Try.func87 (by kernel_rfl) (by kernel_rfl) (by kernel_rfl) (by kernel_rfl))
theorem law_math_Float32frombits : math_Float32frombits_ok con_math_Float32frombits := math_Float32frombits_law
noncomputable def con_spec_l01From : Contract := gcC (cadd 87 con_math_Float32frombits cnil) (spec_l01From 87) true
theorem sim_spec_l01From : SimOk Try.prog 56 con_spec_l01From := simOk_gc mixed (ctab_add sim_math_Float32frombits (ctab_nil _)) true Try.func56 Try.call56 (by kernel_rfl)
theorem law_spec_l01From : spec_l01From_ok  con_spec_l01From := spec_l01From_law ⟨rfl, rfl, law_math_Float32frombits⟩
noncomputable def con_spec_l02Is : Contract := gcC (cadd 55 con_spec_l02Sides cnil) (spec_l02Is 55) true
theorem sim_spec_l02Is : SimOk Try.prog 58 con_spec_l02Is := simOk_gc mixed (ctab_add sim_spec_l02Sides (ctab_nil _)) true Try.func58 Try.call58 (by kernel_rfl)
theorem law_spec_l02Is : spec_l02Is_ok  con_spec_l02Is := spec_l02Is_law ⟨rfl, rfl, law_spec_l02Sides⟩
noncomputable def con_spec_l10Word : Contract := gcC cnil spec_l10Word true
theorem sim_spec_l10Word : SimOk Try.prog 88 con_spec_l10Word := simOk_gc mixed (ctab_nil _) true Try.func88 Try.call88 (by kernel_rfl)
theorem law_spec_l10Word : spec_l10Word_ok  con_spec_l10Word := spec_l10Word_law 
noncomputable def con_math_Float32bits : Contract := pureC gBits32
theorem sim_math_Float32bits : SimOk Try.prog 102 con_math_Float32bits := sim_bits32 (run_callFunc_extern Try.func102 (by kernel_rfl) (by kernel_rfl) (by kernel_rfl) (by kernel_rfl))
theorem law_math_Float32bits : math_Float32bits_ok con_math_Float32bits := math_Float32bits_law
noncomputable def con_spec_l01Bits : Contract := gcC (cadd 102 con_math_Float32bits cnil) (spec_l01Bits 102) true
theorem sim_spec_l01Bits : SimOk Try.prog 89 con_spec_l01Bits := simOk_gc mixed (ctab_add sim_math_Float32bits (ctab_nil _)) true Try.func89 Try.call89 (by kernel_rfl)
theorem law_spec_l01Bits : spec_l01BitsN_ok  con_spec_l01Bits := spec_l01BitsN_law ⟨rfl, rfl, law_math_Float32bits⟩
noncomputable def con_spec_l10Head : Contract := gcC (cadd 88 con_spec_l10Word (cadd 89 con_spec_l01Bits cnil)) (spec_l10Head 88 89) true
theorem sim_spec_l10Head : SimOk Try.prog 59 con_spec_l10Head := simOk_gc mixed (ctab_add sim_spec_l10Word (ctab_add sim_spec_l01Bits (ctab_nil _))) true Try.func59 Try.call59 (by kernel_rfl)
theorem law_spec_l10Head : spec_l10Head_ok  con_spec_l10Head := spec_l10Head_law ⟨rfl, rfl, law_spec_l10Word⟩ ⟨rfl, rfl, law_spec_l01Bits⟩
noncomputable def con_spec_l10Begin : Contract := gcC (cadd 55 con_spec_l02Sides (cadd 57 con_spec_l10Number (cadd 56 con_spec_l01From (cadd 58 con_spec_l02Is (cadd 59 con_spec_l10Head cnil))))) (spec_l10Begin 55 57 56 58 59) true
theorem sim_spec_l10Begin : SimOk Try.prog 28 con_spec_l10Begin := simOk_gc mixed (ctab_add sim_spec_l02Sides (ctab_add sim_spec_l10Number (ctab_add sim_spec_l01From (ctab_add sim_spec_l02Is (ctab_add sim_spec_l10Head (ctab_nil _)))))) true Try.func28 Try.call28 (by kernel_rfl)
theorem law_spec_l10Begin : spec_l10Begin_ok  con_spec_l10Begin := spec_l10Begin_law ⟨rfl, rfl, law_spec_l02Sides⟩ ⟨rfl, rfl, law_spec_l10Number⟩ ⟨rfl, rfl, law_spec_l01From⟩ ⟨rfl, rfl, law_spec_l02Is⟩ ⟨rfl, rfl, law_spec_l10Head⟩
noncomputable def con_spec_LoadSheet : Contract := gcC (cadd 28 con_spec_l10Begin cnil) (spec_LoadSheet 28) true
theorem sim_spec_LoadSheet : SimOk Try.prog 7 con_spec_LoadSheet := simOk_gc mixed (ctab_add sim_spec_l10Begin (ctab_nil _)) true Try.func7 Try.call7 (by kernel_rfl)
theorem law_spec_LoadSheet : spec_LoadSheet_ok  con_spec_LoadSheet := spec_LoadSheet_law ⟨rfl, rfl, law_spec_l10Begin⟩
noncomputable def con_stringslite_HasPrefix : Contract := gcC cnil stringslite_HasPrefix true
theorem sim_stringslite_HasPrefix : SimOk Try.prog 90 con_stringslite_HasPrefix := simOk_gc mixed (ctab_nil _) true Try.func90 Try.call90 (by kernel_rfl)
theorem law_stringslite_HasPrefix : stringslite_HasPrefix_ok  con_stringslite_HasPrefix := stringslite_HasPrefix_law 
noncomputable def con_strings_HasPrefix : Contract := gcC (cadd 90 con_stringslite_HasPrefix cnil) (strings_HasPrefix 90) true
theorem sim_strings_HasPrefix : SimOk Try.prog 60 con_strings_HasPrefix := simOk_gc mixed (ctab_add sim_stringslite_HasPrefix (ctab_nil _)) true Try.func60 Try.call60 (by kernel_rfl)
theorem law_strings_HasPrefix : strings_HasPrefix_ok  con_strings_HasPrefix := strings_HasPrefix_law ⟨rfl, rfl, law_stringslite_HasPrefix⟩
noncomputable def con_impl_lowNumber : Contract := gcC cnil impl_lowNumber true
theorem sim_impl_lowNumber : SimOk Try.prog 62 con_impl_lowNumber := simOk_gc mixed (ctab_nil _) true Try.func62 Try.call62 (by kernel_rfl)
theorem law_impl_lowNumber : impl_lowNumber_ok  con_impl_lowNumber := impl_lowNumber_law 
noncomputable def con_impl_within : Contract := gcC cnil impl_within true
theorem sim_impl_within : SimOk Try.prog 48 con_impl_within := simOk_gc mixed (ctab_nil _) true Try.func48 Try.call48 (by kernel_rfl)
theorem law_impl_within : impl_within_ok  con_impl_within := impl_within_law 
noncomputable def con_impl_FromBits : Contract := gcC (cadd 48 con_impl_within (cadd 87 con_math_Float32frombits cnil)) (impl_FromBits 48 87) true
theorem sim_impl_FromBits : SimOk Try.prog 61 con_impl_FromBits := simOk_gc mixed (ctab_add sim_impl_within (ctab_add sim_math_Float32frombits (ctab_nil _))) true Try.func61 Try.call61 (by kernel_rfl)
theorem law_impl_FromBits : impl_FromBits_ok  con_impl_FromBits := impl_FromBits_law ⟨rfl, rfl, law_impl_within⟩ ⟨rfl, rfl, law_math_Float32frombits⟩
noncomputable def con_impl_areBetween : Contract := gcC cnil impl_areBetween true
theorem sim_impl_areBetween : SimOk Try.prog 75 con_impl_areBetween := simOk_gc mixed (ctab_nil _) true Try.func75 Try.call75 (by kernel_rfl)
theorem law_impl_areBetween : impl_areBetween_ok  con_impl_areBetween := impl_areBetween_law 
noncomputable def con_impl_ValidSheet : Contract := gcC (cadd 48 con_impl_within (cadd 75 con_impl_areBetween cnil)) (impl_ValidSheet 48 75) true
theorem sim_impl_ValidSheet : SimOk Try.prog 39 con_impl_ValidSheet := simOk_gc mixed (ctab_add sim_impl_within (ctab_add sim_impl_areBetween (ctab_nil _))) true Try.func39 Try.call39 (by kernel_rfl)
theorem law_impl_ValidSheet : impl_ValidSheet_ok  con_impl_ValidSheet := impl_ValidSheet_law ⟨rfl, rfl, law_impl_within⟩ ⟨rfl, rfl, law_impl_areBetween⟩
noncomputable def con_slices_Grow_float32 : Contract := gcC cnil slices_Grow_float32 true
theorem sim_slices_Grow_float32 : SimOk Try.prog 101 con_slices_Grow_float32 := simOk_gc mixed (ctab_nil _) true Try.func101 Try.call101 (by kernel_rfl)
theorem law_slices_Grow_float32 : slices_Grow_float32_ok  con_slices_Grow_float32 := slices_Grow_float32_law 
noncomputable def con_slices_Concat_float32 : Contract := gcC (cadd 101 con_slices_Grow_float32 cnil) (slices_Concat_float32 101) true
theorem sim_slices_Concat_float32 : SimOk Try.prog 70 con_slices_Concat_float32 := simOk_gc mixed (ctab_add sim_slices_Grow_float32 (ctab_nil _)) true Try.func70 Try.call70 (by kernel_rfl)
theorem law_slices_Concat_float32 : slices_Concat_float32_ok  con_slices_Concat_float32 := slices_Concat_float32_law ⟨rfl, rfl, law_slices_Grow_float32⟩
noncomputable def con_impl_BitsOf : Contract := gcC (cadd 102 con_math_Float32bits cnil) (impl_BitsOf 102) true
theorem sim_impl_BitsOf : SimOk Try.prog 72 con_impl_BitsOf := simOk_gc mixed (ctab_add sim_math_Float32bits (ctab_nil _)) true Try.func72 Try.call72 (by kernel_rfl)
theorem law_impl_BitsOf : impl_BitsOf_ok  con_impl_BitsOf := impl_BitsOf_law ⟨rfl, rfl, law_math_Float32bits⟩
noncomputable def con_impl_lowBytes : Contract := gcC cnil impl_lowBytes true
theorem sim_impl_lowBytes : SimOk Try.prog 71 con_impl_lowBytes := simOk_gc mixed (ctab_nil _) true Try.func71 Try.call71 (by kernel_rfl)
theorem law_impl_lowBytes : impl_lowBytes_ok  con_impl_lowBytes := impl_lowBytes_law 
noncomputable def con_impl_sheetBytes : Contract := gcC (cadd 70 con_slices_Concat_float32 (cadd 72 con_impl_BitsOf (cadd 71 con_impl_lowBytes cnil))) (impl_sheetBytes 70 72 71) true
theorem sim_impl_sheetBytes : SimOk Try.prog 35 con_impl_sheetBytes := simOk_gc mixed (ctab_add sim_slices_Concat_float32 (ctab_add sim_impl_BitsOf (ctab_add sim_impl_lowBytes (ctab_nil _)))) true Try.func35 Try.call35 (by kernel_rfl)
theorem law_impl_sheetBytes : impl_sheetBytes_ok  con_impl_sheetBytes := impl_sheetBytes_law ⟨rfl, rfl, law_slices_Concat_float32⟩ ⟨rfl, rfl, law_impl_BitsOf⟩ ⟨rfl, rfl, law_impl_lowBytes⟩
noncomputable def con_impl_sheetAhead : Contract := gcC (cadd 60 con_strings_HasPrefix (cadd 62 con_impl_lowNumber (cadd 61 con_impl_FromBits (cadd 39 con_impl_ValidSheet (cadd 35 con_impl_sheetBytes cnil))))) (impl_sheetAhead 60 62 61 39 35) true
theorem sim_impl_sheetAhead : SimOk Try.prog 29 con_impl_sheetAhead := simOk_gc mixed (ctab_add sim_strings_HasPrefix (ctab_add sim_impl_lowNumber (ctab_add sim_impl_FromBits (ctab_add sim_impl_ValidSheet (ctab_add sim_impl_sheetBytes (ctab_nil _)))))) true Try.func29 Try.call29 (by kernel_rfl)
theorem law_impl_sheetAhead : impl_sheetAhead_ok  con_impl_sheetAhead := impl_sheetAhead_law ⟨rfl, rfl, law_strings_HasPrefix⟩ ⟨rfl, rfl, law_impl_lowNumber⟩ ⟨rfl, rfl, law_impl_FromBits⟩ ⟨rfl, rfl, law_impl_ValidSheet⟩ ⟨rfl, rfl, law_impl_sheetBytes⟩
noncomputable def con_impl_LoadSheet : Contract := gcC (cadd 29 con_impl_sheetAhead cnil) (impl_LoadSheet 29) true
theorem sim_impl_LoadSheet : SimOk Try.prog 8 con_impl_LoadSheet := simOk_gc mixed (ctab_add sim_impl_sheetAhead (ctab_nil _)) true Try.func8 Try.call8 (by kernel_rfl)
theorem law_impl_LoadSheet : impl_LoadSheet_ok  con_impl_LoadSheet := impl_LoadSheet_law ⟨rfl, rfl, law_impl_sheetAhead⟩
noncomputable def con_laws_sameFloat : Contract := gcC cnil laws_sameFloat true
theorem sim_laws_sameFloat : SimOk Try.prog 63 con_laws_sameFloat := simOk_gc mixed (ctab_nil _) true Try.func63 Try.call63 (by kernel_rfl)
theorem law_laws_sameFloat : laws_sameFloat_ok  con_laws_sameFloat := laws_sameFloat_law 
noncomputable def con_laws_eqFloat32S : Contract := gcC (cadd 63 con_laws_sameFloat cnil) (laws_eqFloat32S 63) true
theorem sim_laws_eqFloat32S : SimOk Try.prog 30 con_laws_eqFloat32S := simOk_gc mixed (ctab_add sim_laws_sameFloat (ctab_nil _)) true Try.func30 Try.call30 (by kernel_rfl)
theorem law_laws_eqFloat32S : laws_eqFloat32S_ok  con_laws_eqFloat32S := laws_eqFloat32S_law ⟨rfl, rfl, law_laws_sameFloat⟩
noncomputable def con_laws_eqSheet : Contract := gcC (cadd 30 con_laws_eqFloat32S cnil) (laws_eqSheet 30) true
theorem sim_laws_eqSheet : SimOk Try.prog 9 con_laws_eqSheet := simOk_gc mixed (ctab_add sim_laws_eqFloat32S (ctab_nil _)) true Try.func9 Try.call9 (by kernel_rfl)
theorem law_laws_eqSheet : laws_eqSheet_ok  con_laws_eqSheet := laws_eqSheet_law ⟨rfl, rfl, law_laws_eqFloat32S⟩
noncomputable def con_laws_markFloat32S : Contract := gcC cnil laws_markFloat32S false
theorem sim_laws_markFloat32S : SimOk Try.prog 31 con_laws_markFloat32S := simOk_gc mixed (ctab_nil _) false Try.func31 Try.call31 (by kernel_rfl)
theorem law_laws_markFloat32S : laws_markFloat32S_ok  con_laws_markFloat32S := laws_markFloat32S_law 
noncomputable def con_laws_markSheet : Contract := gcC (cadd 31 con_laws_markFloat32S cnil) (laws_markSheet 31) false
theorem sim_laws_markSheet : SimOk Try.prog 10 con_laws_markSheet := simOk_gc mixed (ctab_add sim_laws_markFloat32S (ctab_nil _)) false Try.func10 Try.call10 (by kernel_rfl)
theorem law_laws_markSheet : laws_markSheet_ok  con_laws_markSheet := laws_markSheet_law ⟨rfl, law_laws_markFloat32S⟩
noncomputable def con_laws_heldFloat32S : Contract := gcC cnil laws_heldFloat32S true
theorem sim_laws_heldFloat32S : SimOk Try.prog 32 con_laws_heldFloat32S := simOk_gc mixed (ctab_nil _) true Try.func32 Try.call32 (by kernel_rfl)
theorem law_laws_heldFloat32S : laws_heldFloat32S_ok  con_laws_heldFloat32S := laws_heldFloat32S_law 
noncomputable def con_laws_heldSheet : Contract := gcC (cadd 32 con_laws_heldFloat32S cnil) (laws_heldSheet 32) true
theorem sim_laws_heldSheet : SimOk Try.prog 11 con_laws_heldSheet := simOk_gc mixed (ctab_add sim_laws_heldFloat32S (ctab_nil _)) true Try.func11 Try.call11 (by kernel_rfl)
theorem law_laws_heldSheet : laws_heldSheet_ok  con_laws_heldSheet := laws_heldSheet_law ⟨rfl, rfl, law_laws_heldFloat32S⟩
noncomputable def con_laws_FnExactLoadSheet : Contract := gcC (cadd 7 con_spec_LoadSheet (cadd 8 con_impl_LoadSheet (cadd 9 con_laws_eqSheet (cadd 10 con_laws_markSheet (cadd 11 con_laws_heldSheet cnil))))) (laws_FnExactLoadSheet 7 8 9 10 11) true
theorem sim_laws_FnExactLoadSheet : SimOk Try.prog 3 con_laws_FnExactLoadSheet := simOk_gc mixed (ctab_add sim_spec_LoadSheet (ctab_add sim_impl_LoadSheet (ctab_add sim_laws_eqSheet (ctab_add sim_laws_markSheet (ctab_add sim_laws_heldSheet (ctab_nil _)))))) true Try.func3 Try.call3 (by kernel_rfl)
theorem law_laws_FnExactLoadSheet : laws_FnExactLoadSheet_ok  con_laws_FnExactLoadSheet := laws_FnExactLoadSheet_law ⟨rfl, rfl, law_spec_LoadSheet⟩ ⟨rfl, rfl, law_impl_LoadSheet⟩ ⟨rfl, rfl, law_laws_eqSheet⟩ ⟨rfl, law_laws_markSheet⟩ ⟨rfl, rfl, law_laws_heldSheet⟩
theorem lifted (os : Os) (started : os.Started) (H : Type) (enc : TypeId × Value → H) :
    ReturnsInHanded {} Try.checked os 3 .any (Rows.fnExactLoadSheetSpec.pre6 enc Try.prog Try.f3 Rows.fnExactLoadSheetRow.domain false) (Rows.fnExactLoadSheetSpec.post enc Try.prog Try.f3 false true false false) := by
  refine returnsInHanded_of_change (C := Try.checked) own started (by kernel_rfl) Try.func3
    (ChangeSpec.witness6 (enc := enc) (C := Try.checked) false ⟨#[], #[.string ⟨#[]⟩], []⟩ 8 (by kernel_rfl) (by kernel_rfl) (by kernel_rfl) (by kernel_rfl)) ?_
  intro W base args ds gs before hval hW _ _
  exact row_contract (P := Try.prog) (fn := Try.f3) (d := 8) (sh := [strK]) (n := 1) sim_laws_FnExactLoadSheet Try.call3 (by kernel_rfl) law_laws_FnExactLoadSheet laidOut (by kernel_rfl) rfl rfl (by kernel_rfl) (by kernel_rfl)
    (fun ds h => by match ds, h with | [_], _ => rfl) hval hW
theorem holds : Rows.FnExactLoadSheetSaid :=
  OpenClaim.holds_of_wide 3 Try.f3 rfl rfl rfl rfl rfl rfl rfl ⟨rfl, rfl, rfl, rfl, rfl⟩ rfl rfl rfl rfl rfl (by kernel_rfl) Try.func3 (by kernel_rfl)
    (of_decide_eq_true (by kernel_rfl)) (by unfold Func.isWrapper; first | (rw [if_pos (by decide +kernel)]; kernel_rfl) | (rw [if_neg (by decide +kernel)]; exact ⟨rfl, rfl⟩))
    (fun os started H enc _ => lifted os started H enc)
end Go.Proofs.Ytaacdckenhnocaa.laws_FnExactLoadSheet
