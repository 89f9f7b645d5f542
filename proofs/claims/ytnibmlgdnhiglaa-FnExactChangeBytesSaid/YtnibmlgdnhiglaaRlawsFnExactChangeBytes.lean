/- The row FnExactChangeBytes: it returns true whatever its arguments, and leaves them. No condition. -/
import Derived.Test.YtnibmlgdnhiglaaRows
import Derived.Test.YtnibmlgdnhiglaaExactChangeBytesL39
import Derived.ProofKit
namespace Go.Proofs.Ytnibmlgdnhiglaa.laws_FnExactChangeBytes
open Go.Abs Go.ChangeShapes Go.WideShapes Go.ChangeAt Go.RowKit
set_option maxRecDepth 100000
theorem own : ownKnob Try.prog.godebug = none := by kernel_rfl
theorem laidOut : laidOutB Try.prog = true := by kernel_rfl
theorem mixed : Try.prog.follows .mixedOrders = true := by kernel_rfl
noncomputable def con_laws_toFloat32S : Contract := gcC cnil laws_toFloat32S true
theorem sim_laws_toFloat32S : SimOk Try.prog 18 con_laws_toFloat32S := simOk_gc mixed (ctab_nil _) true Try.func18 Try.call18 (by kernel_rfl)
theorem law_laws_toFloat32S : laws_toFloat32S_ok  con_laws_toFloat32S := laws_toFloat32S_law 
noncomputable def con_spec_l10Numbers : Contract := gcC cnil spec_l10Numbers true
theorem sim_spec_l10Numbers : SimOk Try.prog 57 con_spec_l10Numbers := simOk_gc mixed (ctab_nil _) true Try.func57 Try.call57 (by kernel_rfl)
theorem law_spec_l10Numbers : spec_l10Numbers_ok  con_spec_l10Numbers := spec_l10Numbers_law 
noncomputable def con_math_Float32bits : Contract := pureC gBits32
theorem sim_math_Float32bits : SimOk Try.prog 104 con_math_Float32bits := sim_bits32 (run_callFunc_extern Try.func104 (by kernel_rfl) (by kernel_rfl) (by kernel_rfl) (by kernel_rfl))
theorem law_math_Float32bits : math_Float32bits_ok con_math_Float32bits := math_Float32bits_law
noncomputable def con_spec_l01Bits : Contract := gcC (cadd 104 con_math_Float32bits cnil) (spec_l01Bits 104) true
theorem sim_spec_l01Bits : SimOk Try.prog 95 con_spec_l01Bits := simOk_gc mixed (ctab_add sim_math_Float32bits (ctab_nil _)) true Try.func95 Try.call95 (by kernel_rfl)
theorem law_spec_l01Bits : spec_l01BitsN_ok  con_spec_l01Bits := spec_l01BitsN_law ⟨rfl, rfl, law_math_Float32bits⟩
noncomputable def con_spec_l10Word : Contract := gcC cnil spec_l10Word true
theorem sim_spec_l10Word : SimOk Try.prog 96 con_spec_l10Word := simOk_gc mixed (ctab_nil _) true Try.func96 Try.call96 (by kernel_rfl)
theorem law_spec_l10Word : spec_l10Word_ok  con_spec_l10Word := spec_l10Word_law 
noncomputable def con_spec_l10Change : Contract := gcC (cadd 95 con_spec_l01Bits (cadd 96 con_spec_l10Word cnil)) (spec_l10Change 95 96) true
theorem sim_spec_l10Change : SimOk Try.prog 58 con_spec_l10Change := simOk_gc mixed (ctab_add sim_spec_l01Bits (ctab_add sim_spec_l10Word (ctab_nil _))) true Try.func58 Try.call58 (by kernel_rfl)
theorem law_spec_l10Change : spec_l10Change_ok  con_spec_l10Change := spec_l10Change_law ⟨rfl, rfl, law_spec_l01Bits⟩ ⟨rfl, rfl, law_spec_l10Word⟩
noncomputable def con_spec_ChangeBytes : Contract := gcC (cadd 57 con_spec_l10Numbers (cadd 58 con_spec_l10Change cnil)) (spec_ChangeBytes 57 58) true
theorem sim_spec_ChangeBytes : SimOk Try.prog 17 con_spec_ChangeBytes := simOk_gc mixed (ctab_add sim_spec_l10Numbers (ctab_add sim_spec_l10Change (ctab_nil _))) true Try.func17 Try.call17 (by kernel_rfl)
theorem law_spec_ChangeBytes : spec_ChangeBytes_ok  con_spec_ChangeBytes := spec_ChangeBytes_law ⟨rfl, rfl, law_spec_l10Numbers⟩ ⟨rfl, rfl, law_spec_l10Change⟩
noncomputable def con_impl_isChangeable : Contract := gcC cnil impl_isChangeable true
theorem sim_impl_isChangeable : SimOk Try.prog 59 con_impl_isChangeable := simOk_gc mixed (ctab_nil _) true Try.func59 Try.call59 (by kernel_rfl)
theorem law_impl_isChangeable : impl_isChangeable_ok  con_impl_isChangeable := impl_isChangeable_law 
noncomputable def con_impl_BitsOf : Contract := gcC (cadd 104 con_math_Float32bits cnil) (impl_BitsOf 104) true
theorem sim_impl_BitsOf : SimOk Try.prog 70 con_impl_BitsOf := simOk_gc mixed (ctab_add sim_math_Float32bits (ctab_nil _)) true Try.func70 Try.call70 (by kernel_rfl)
theorem law_impl_BitsOf : impl_BitsOf_ok  con_impl_BitsOf := impl_BitsOf_law ⟨rfl, rfl, law_math_Float32bits⟩
noncomputable def con_impl_lowBytes : Contract := gcC cnil impl_lowBytes true
theorem sim_impl_lowBytes : SimOk Try.prog 97 con_impl_lowBytes := simOk_gc mixed (ctab_nil _) true Try.func97 Try.call97 (by kernel_rfl)
theorem law_impl_lowBytes : impl_lowBytes_ok  con_impl_lowBytes := impl_lowBytes_law 
noncomputable def con_impl_changeBytes : Contract := gcC (cadd 70 con_impl_BitsOf (cadd 97 con_impl_lowBytes cnil)) (impl_changeBytes 70 97) true
theorem sim_impl_changeBytes : SimOk Try.prog 60 con_impl_changeBytes := simOk_gc mixed (ctab_add sim_impl_BitsOf (ctab_add sim_impl_lowBytes (ctab_nil _))) true Try.func60 Try.call60 (by kernel_rfl)
theorem law_impl_changeBytes : impl_changeBytes_ok  con_impl_changeBytes := impl_changeBytes_law ⟨rfl, rfl, law_impl_BitsOf⟩ ⟨rfl, rfl, law_impl_lowBytes⟩
noncomputable def con_impl_ChangeBytes : Contract := gcC (cadd 59 con_impl_isChangeable (cadd 60 con_impl_changeBytes cnil)) (impl_ChangeBytes 59 60) true
theorem sim_impl_ChangeBytes : SimOk Try.prog 19 con_impl_ChangeBytes := simOk_gc mixed (ctab_add sim_impl_isChangeable (ctab_add sim_impl_changeBytes (ctab_nil _))) true Try.func19 Try.call19 (by kernel_rfl)
theorem law_impl_ChangeBytes : impl_ChangeBytes_ok  con_impl_ChangeBytes := impl_ChangeBytes_law ⟨rfl, rfl, law_impl_isChangeable⟩ ⟨rfl, rfl, law_impl_changeBytes⟩
noncomputable def con_laws_sameFloat : Contract := gcC cnil laws_sameFloat true
theorem sim_laws_sameFloat : SimOk Try.prog 25 con_laws_sameFloat := simOk_gc mixed (ctab_nil _) true Try.func25 Try.call25 (by kernel_rfl)
theorem law_laws_sameFloat : laws_sameFloat_ok  con_laws_sameFloat := laws_sameFloat_law 
noncomputable def con_laws_eqFloat32S : Contract := gcC (cadd 25 con_laws_sameFloat cnil) (laws_eqFloat32S 25) true
theorem sim_laws_eqFloat32S : SimOk Try.prog 20 con_laws_eqFloat32S := simOk_gc mixed (ctab_add sim_laws_sameFloat (ctab_nil _)) true Try.func20 Try.call20 (by kernel_rfl)
theorem law_laws_eqFloat32S : laws_eqFloat32S_ok  con_laws_eqFloat32S := laws_eqFloat32S_law ⟨rfl, rfl, law_laws_sameFloat⟩
noncomputable def con_laws_FnExactChangeBytes : Contract := gcC (cadd 18 con_laws_toFloat32S (cadd 17 con_spec_ChangeBytes (cadd 19 con_impl_ChangeBytes (cadd 20 con_laws_eqFloat32S cnil)))) (laws_FnExactChangeBytes 18 17 19 20) true
theorem sim_laws_FnExactChangeBytes : SimOk Try.prog 4 con_laws_FnExactChangeBytes := simOk_gc mixed (ctab_add sim_laws_toFloat32S (ctab_add sim_spec_ChangeBytes (ctab_add sim_impl_ChangeBytes (ctab_add sim_laws_eqFloat32S (ctab_nil _))))) true Try.func4 Try.call4 (by kernel_rfl)
theorem law_laws_FnExactChangeBytes : laws_FnExactChangeBytes_ok  con_laws_FnExactChangeBytes := laws_FnExactChangeBytes_law ⟨rfl, rfl, law_laws_toFloat32S⟩ ⟨rfl, rfl, law_spec_ChangeBytes⟩ ⟨rfl, rfl, law_impl_ChangeBytes⟩ ⟨rfl, rfl, law_laws_eqFloat32S⟩
theorem lifted (os : Os) (started : os.Started) (H : Type) (enc : TypeId × Value → H) :
    ReturnsInHanded {} Try.checked os 4 .any (Rows.fnExactChangeBytesSpec.pre6 enc Try.prog Try.f4 Rows.fnExactChangeBytesRow.domain false) (Rows.fnExactChangeBytesSpec.post enc Try.prog Try.f4 false true false false) := by
  refine returnsInHanded_of_change (C := Try.checked) own started (by kernel_rfl) Try.func4
    (ChangeSpec.witness6 (enc := enc) (C := Try.checked) false ⟨#[], #[.slice none 0 0, .slice none 0 0], []⟩ 8 (by kernel_rfl) (by kernel_rfl) (by kernel_rfl) (by kernel_rfl)) ?_
  intro W base args ds gs before hval hW _ _
  exact row_contract (P := Try.prog) (fn := Try.f4) (d := 8) (sh := [floatsK, floatsK]) (n := 2) sim_laws_FnExactChangeBytes Try.call4 (by kernel_rfl) law_laws_FnExactChangeBytes laidOut (by kernel_rfl) rfl rfl (by kernel_rfl) (by kernel_rfl)
    (fun ds h => by match ds, h with | [_, _], _ => rfl) hval hW
theorem holds : Rows.FnExactChangeBytesSaid :=
  OpenClaim.holds_of_wide 4 Try.f4 rfl rfl rfl rfl rfl rfl rfl ⟨rfl, rfl, rfl, rfl, rfl⟩ rfl rfl rfl rfl rfl (by kernel_rfl) Try.func4 (by kernel_rfl)
    (of_decide_eq_true (by kernel_rfl)) (by unfold Func.isWrapper; first | (rw [if_pos (by decide +kernel)]; kernel_rfl) | (rw [if_neg (by decide +kernel)]; exact ⟨rfl, rfl⟩))
    (fun os started H enc _ => lifted os started H enc)
end Go.Proofs.Ytnibmlgdnhiglaa.laws_FnExactChangeBytes
