/- The row FnExactApplyChange: it returns true whatever its arguments, and leaves them. No condition. -/
import Derived.Test.YtnibmlgdnhiglaaRows
import Derived.Test.YtnibmlgdnhiglaaExactApplyChangeL43
import Derived.ProofKit
namespace Go.Proofs.Ytnibmlgdnhiglaa.laws_FnExactApplyChange
open Go.Abs Go.ChangeShapes Go.WideShapes Go.ChangeAt Go.RowKit
set_option maxRecDepth 100000
theorem own : ownKnob Try.prog.godebug = none := by kernel_rfl
theorem laidOut : laidOutB Try.prog = true := by kernel_rfl
theorem mixed : Try.prog.follows .mixedOrders = true := by kernel_rfl
noncomputable def con_laws_toFloat32S : Contract := gcC cnil laws_toFloat32S true
theorem sim_laws_toFloat32S : SimOk Try.prog 18 con_laws_toFloat32S := simOk_gc mixed (ctab_nil _) true Try.func18 Try.call18 (by kernel_rfl)
theorem law_laws_toFloat32S : laws_toFloat32S_ok  con_laws_toFloat32S := laws_toFloat32S_law 
noncomputable def con_spec_l10Numbers : Contract := gcC cnil spec_l10Numbers true
theorem sim_spec_l10Numbers : SimOk Try.prog 57 con_spec_l10Numbers := simOk_gc mixed (ctab_nil _) true Try.func57 Try.call57 (by kernel_rfl)
theorem law_spec_l10Numbers : spec_l10Numbers_ok  con_spec_l10Numbers := spec_l10Numbers_law 
noncomputable def con_math_Float32bits : Contract := pureC gBits32
theorem sim_math_Float32bits : SimOk Try.prog 104 con_math_Float32bits := sim_bits32 (run_callFunc_extern Try.func104 (by kernel_rfl) (by kernel_rfl) (by kernel_rfl) (by kernel_rfl))
theorem law_math_Float32bits : math_Float32bits_ok con_math_Float32bits := math_Float32bits_law
noncomputable def con_spec_l01Bits : Contract := gcC (cadd 104 con_math_Float32bits cnil) (spec_l01Bits 104) true
theorem sim_spec_l01Bits : SimOk Try.prog 95 con_spec_l01Bits := simOk_gc mixed (ctab_add sim_math_Float32bits (ctab_nil _)) true Try.func95 Try.call95 (by kernel_rfl)
theorem law_spec_l01Bits : spec_l01BitsN_ok  con_spec_l01Bits := spec_l01BitsN_law ⟨rfl, rfl, law_math_Float32bits⟩
noncomputable def con_spec_l10Number : Contract := gcC cnil spec_l10Number true
theorem sim_spec_l10Number : SimOk Try.prog 108 con_spec_l10Number := simOk_gc mixed (ctab_nil _) true Try.func108 Try.call108 (by kernel_rfl)
theorem law_spec_l10Number : spec_l10Number_ok  con_spec_l10Number := spec_l10Number_law 
noncomputable def con_math_Float32frombits : Contract := pureC gFrom32
theorem sim_math_Float32frombits : SimOk Try.prog 103 con_math_Float32frombits := sim_from32 (run_callFunc_extern Try.func103 (by kernel_rfl) (by kernel_rfl) (by kernel_rfl) (by kernel_rfl))
theorem law_math_Float32frombits : math_Float32frombits_ok con_math_Float32frombits := math_Float32frombits_law
noncomputable def con_spec_l01From : Contract := gcC (cadd 103 con_math_Float32frombits cnil) (spec_l01From 103) true
theorem sim_spec_l01From : SimOk Try.prog 107 con_spec_l01From := simOk_gc mixed (ctab_add sim_math_Float32frombits (ctab_nil _)) true Try.func107 Try.call107 (by kernel_rfl)
theorem law_spec_l01From : spec_l01From_ok  con_spec_l01From := spec_l01From_law ⟨rfl, rfl, law_math_Float32frombits⟩
noncomputable def con_spec_l10Word : Contract := gcC cnil spec_l10Word true
theorem sim_spec_l10Word : SimOk Try.prog 96 con_spec_l10Word := simOk_gc mixed (ctab_nil _) true Try.func96 Try.call96 (by kernel_rfl)
theorem law_spec_l10Word : spec_l10Word_ok  con_spec_l10Word := spec_l10Word_law 
noncomputable def con_spec_l10Change : Contract := gcC (cadd 95 con_spec_l01Bits (cadd 96 con_spec_l10Word cnil)) (spec_l10Change 95 96) true
theorem sim_spec_l10Change : SimOk Try.prog 58 con_spec_l10Change := simOk_gc mixed (ctab_add sim_spec_l01Bits (ctab_add sim_spec_l10Word (ctab_nil _))) true Try.func58 Try.call58 (by kernel_rfl)
theorem law_spec_l10Change : spec_l10Change_ok  con_spec_l10Change := spec_l10Change_law ⟨rfl, rfl, law_spec_l01Bits⟩ ⟨rfl, rfl, law_spec_l10Word⟩
noncomputable def con_spec_l10Apply : Contract := gcC (cadd 95 con_spec_l01Bits (cadd 108 con_spec_l10Number (cadd 107 con_spec_l01From (cadd 58 con_spec_l10Change cnil)))) (spec_l10Apply 95 108 107 58) true
theorem sim_spec_l10Apply : SimOk Try.prog 75 con_spec_l10Apply := simOk_gc mixed (ctab_add sim_spec_l01Bits (ctab_add sim_spec_l10Number (ctab_add sim_spec_l01From (ctab_add sim_spec_l10Change (ctab_nil _))))) true Try.func75 Try.call75 (by kernel_rfl)
theorem law_spec_l10Apply : spec_l10Apply_ok  con_spec_l10Apply := spec_l10Apply_law ⟨rfl, rfl, law_spec_l01Bits⟩ ⟨rfl, rfl, law_spec_l10Number⟩ ⟨rfl, rfl, law_spec_l01From⟩ ⟨rfl, rfl, law_spec_l10Change⟩
noncomputable def con_spec_ApplyChange : Contract := gcC (cadd 57 con_spec_l10Numbers (cadd 75 con_spec_l10Apply cnil)) (spec_ApplyChange 57 75) true
theorem sim_spec_ApplyChange : SimOk Try.prog 36 con_spec_ApplyChange := simOk_gc mixed (ctab_add sim_spec_l10Numbers (ctab_add sim_spec_l10Apply (ctab_nil _))) true Try.func36 Try.call36 (by kernel_rfl)
theorem law_spec_ApplyChange : spec_ApplyChange_ok  con_spec_ApplyChange := spec_ApplyChange_law ⟨rfl, rfl, law_spec_l10Numbers⟩ ⟨rfl, rfl, law_spec_l10Apply⟩
noncomputable def con_impl_isChangeable : Contract := gcC cnil impl_isChangeable true
theorem sim_impl_isChangeable : SimOk Try.prog 59 con_impl_isChangeable := simOk_gc mixed (ctab_nil _) true Try.func59 Try.call59 (by kernel_rfl)
theorem law_impl_isChangeable : impl_isChangeable_ok  con_impl_isChangeable := impl_isChangeable_law 
noncomputable def con_impl_BitsOf : Contract := gcC (cadd 104 con_math_Float32bits cnil) (impl_BitsOf 104) true
theorem sim_impl_BitsOf : SimOk Try.prog 70 con_impl_BitsOf := simOk_gc mixed (ctab_add sim_math_Float32bits (ctab_nil _)) true Try.func70 Try.call70 (by kernel_rfl)
theorem law_impl_BitsOf : impl_BitsOf_ok  con_impl_BitsOf := impl_BitsOf_law ⟨rfl, rfl, law_math_Float32bits⟩
noncomputable def con_impl_lowNumber : Contract := gcC cnil impl_lowNumber true
theorem sim_impl_lowNumber : SimOk Try.prog 71 con_impl_lowNumber := simOk_gc mixed (ctab_nil _) true Try.func71 Try.call71 (by kernel_rfl)
theorem law_impl_lowNumber : impl_lowNumber_ok  con_impl_lowNumber := impl_lowNumber_law 
noncomputable def con_impl_within : Contract := gcC cnil impl_within true
theorem sim_impl_within : SimOk Try.prog 93 con_impl_within := simOk_gc mixed (ctab_nil _) true Try.func93 Try.call93 (by kernel_rfl)
theorem law_impl_within : impl_within_ok  con_impl_within := impl_within_law 
noncomputable def con_impl_FromBits : Contract := gcC (cadd 93 con_impl_within (cadd 103 con_math_Float32frombits cnil)) (impl_FromBits 93 103) true
theorem sim_impl_FromBits : SimOk Try.prog 69 con_impl_FromBits := simOk_gc mixed (ctab_add sim_impl_within (ctab_add sim_math_Float32frombits (ctab_nil _))) true Try.func69 Try.call69 (by kernel_rfl)
theorem law_impl_FromBits : impl_FromBits_ok  con_impl_FromBits := impl_FromBits_law ⟨rfl, rfl, law_impl_within⟩ ⟨rfl, rfl, law_math_Float32frombits⟩
noncomputable def con_impl_lowBytes : Contract := gcC cnil impl_lowBytes true
theorem sim_impl_lowBytes : SimOk Try.prog 97 con_impl_lowBytes := simOk_gc mixed (ctab_nil _) true Try.func97 Try.call97 (by kernel_rfl)
theorem law_impl_lowBytes : impl_lowBytes_ok  con_impl_lowBytes := impl_lowBytes_law 
noncomputable def con_impl_changeBytes : Contract := gcC (cadd 70 con_impl_BitsOf (cadd 97 con_impl_lowBytes cnil)) (impl_changeBytes 70 97) true
theorem sim_impl_changeBytes : SimOk Try.prog 60 con_impl_changeBytes := simOk_gc mixed (ctab_add sim_impl_BitsOf (ctab_add sim_impl_lowBytes (ctab_nil _))) true Try.func60 Try.call60 (by kernel_rfl)
theorem law_impl_changeBytes : impl_changeBytes_ok  con_impl_changeBytes := impl_changeBytes_law ⟨rfl, rfl, law_impl_BitsOf⟩ ⟨rfl, rfl, law_impl_lowBytes⟩
noncomputable def con_impl_ApplyChange : Contract := gcC (cadd 59 con_impl_isChangeable (cadd 70 con_impl_BitsOf (cadd 71 con_impl_lowNumber (cadd 69 con_impl_FromBits (cadd 60 con_impl_changeBytes cnil))))) (impl_ApplyChange 59 70 71 69 60) true
theorem sim_impl_ApplyChange : SimOk Try.prog 32 con_impl_ApplyChange := simOk_gc mixed (ctab_add sim_impl_isChangeable (ctab_add sim_impl_BitsOf (ctab_add sim_impl_lowNumber (ctab_add sim_impl_FromBits (ctab_add sim_impl_changeBytes (ctab_nil _)))))) true Try.func32 Try.call32 (by kernel_rfl)
theorem law_impl_ApplyChange : impl_ApplyChange_ok  con_impl_ApplyChange := impl_ApplyChange_law ⟨rfl, rfl, law_impl_isChangeable⟩ ⟨rfl, rfl, law_impl_BitsOf⟩ ⟨rfl, rfl, law_impl_lowNumber⟩ ⟨rfl, rfl, law_impl_FromBits⟩ ⟨rfl, rfl, law_impl_changeBytes⟩
noncomputable def con_laws_sameFloat : Contract := gcC cnil laws_sameFloat true
theorem sim_laws_sameFloat : SimOk Try.prog 25 con_laws_sameFloat := simOk_gc mixed (ctab_nil _) true Try.func25 Try.call25 (by kernel_rfl)
theorem law_laws_sameFloat : laws_sameFloat_ok  con_laws_sameFloat := laws_sameFloat_law 
noncomputable def con_laws_eqFloat32S : Contract := gcC (cadd 25 con_laws_sameFloat cnil) (laws_eqFloat32S 25) true
theorem sim_laws_eqFloat32S : SimOk Try.prog 20 con_laws_eqFloat32S := simOk_gc mixed (ctab_add sim_laws_sameFloat (ctab_nil _)) true Try.func20 Try.call20 (by kernel_rfl)
theorem law_laws_eqFloat32S : laws_eqFloat32S_ok  con_laws_eqFloat32S := laws_eqFloat32S_law ⟨rfl, rfl, law_laws_sameFloat⟩
noncomputable def con_laws_markFloat32S : Contract := gcC cnil laws_markFloat32S false
theorem sim_laws_markFloat32S : SimOk Try.prog 37 con_laws_markFloat32S := simOk_gc mixed (ctab_nil _) false Try.func37 Try.call37 (by kernel_rfl)
theorem law_laws_markFloat32S : laws_markFloat32S_ok  con_laws_markFloat32S := laws_markFloat32S_law 
noncomputable def con_laws_heldFloat32S : Contract := gcC cnil laws_heldFloat32S true
theorem sim_laws_heldFloat32S : SimOk Try.prog 38 con_laws_heldFloat32S := simOk_gc mixed (ctab_nil _) true Try.func38 Try.call38 (by kernel_rfl)
theorem law_laws_heldFloat32S : laws_heldFloat32S_ok  con_laws_heldFloat32S := laws_heldFloat32S_law 
noncomputable def con_laws_FnExactApplyChange : Contract := gcC (cadd 18 con_laws_toFloat32S (cadd 36 con_spec_ApplyChange (cadd 32 con_impl_ApplyChange (cadd 20 con_laws_eqFloat32S (cadd 37 con_laws_markFloat32S (cadd 38 con_laws_heldFloat32S cnil)))))) (laws_FnExactApplyChange 18 36 32 20 37 38) true
theorem sim_laws_FnExactApplyChange : SimOk Try.prog 9 con_laws_FnExactApplyChange := simOk_gc mixed (ctab_add sim_laws_toFloat32S (ctab_add sim_spec_ApplyChange (ctab_add sim_impl_ApplyChange (ctab_add sim_laws_eqFloat32S (ctab_add sim_laws_markFloat32S (ctab_add sim_laws_heldFloat32S (ctab_nil _))))))) true Try.func9 Try.call9 (by kernel_rfl)
theorem law_laws_FnExactApplyChange : laws_FnExactApplyChange_ok  con_laws_FnExactApplyChange := laws_FnExactApplyChange_law ⟨rfl, rfl, law_laws_toFloat32S⟩ ⟨rfl, rfl, law_spec_ApplyChange⟩ ⟨rfl, rfl, law_impl_ApplyChange⟩ ⟨rfl, rfl, law_laws_eqFloat32S⟩ ⟨rfl, law_laws_markFloat32S⟩ ⟨rfl, rfl, law_laws_heldFloat32S⟩
theorem lifted (os : Os) (started : os.Started) (H : Type) (enc : TypeId × Value → H) :
    ReturnsInHanded {} Try.checked os 9 .any (Rows.fnExactApplyChangeSpec.pre6 enc Try.prog Try.f9 Rows.fnExactApplyChangeRow.domain false) (Rows.fnExactApplyChangeSpec.post enc Try.prog Try.f9 false true false false) := by
  refine returnsInHanded_of_change (C := Try.checked) own started (by kernel_rfl) Try.func9
    (ChangeSpec.witness6 (enc := enc) (C := Try.checked) false ⟨#[], #[.slice none 0 0, .string ⟨#[]⟩], []⟩ 8 (by kernel_rfl) (by kernel_rfl) (by kernel_rfl) (by kernel_rfl)) ?_
  intro W base args ds gs before hval hW _ _
  exact row_contract (P := Try.prog) (fn := Try.f9) (d := 8) (sh := [floatsK, strK]) (n := 2) sim_laws_FnExactApplyChange Try.call9 (by kernel_rfl) law_laws_FnExactApplyChange laidOut (by kernel_rfl) rfl rfl (by kernel_rfl) (by kernel_rfl)
    (fun ds h => by match ds, h with | [_, _], _ => rfl) hval hW
theorem holds : Rows.FnExactApplyChangeSaid :=
  OpenClaim.holds_of_wide 9 Try.f9 rfl rfl rfl rfl rfl rfl rfl ⟨rfl, rfl, rfl, rfl, rfl⟩ rfl rfl rfl rfl rfl (by kernel_rfl) Try.func9 (by kernel_rfl)
    (of_decide_eq_true (by kernel_rfl)) (by unfold Func.isWrapper; first | (rw [if_pos (by decide +kernel)]; kernel_rfl) | (rw [if_neg (by decide +kernel)]; exact ⟨rfl, rfl⟩))
    (fun os started H enc _ => lifted os started H enc)
end Go.Proofs.Ytnibmlgdnhiglaa.laws_FnExactApplyChange
