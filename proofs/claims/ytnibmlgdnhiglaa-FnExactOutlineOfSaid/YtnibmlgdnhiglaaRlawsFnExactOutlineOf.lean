/- The row FnExactOutlineOf: it returns true whatever its arguments, and leaves them. No condition. -/
import Derived.Test.YtnibmlgdnhiglaaRows
import Derived.Test.YtnibmlgdnhiglaaExactOutlineOfL33
import Derived.ProofKit
namespace Go.Proofs.Ytnibmlgdnhiglaa.laws_FnExactOutlineOf
open Go.Abs Go.ChangeShapes Go.WideShapes Go.ChangeAt Go.RowKit
set_option maxRecDepth 100000
theorem own : ownKnob Try.prog.godebug = none := by kernel_rfl
theorem laidOut : laidOutB Try.prog = true := by kernel_rfl
theorem mixed : Try.prog.follows .mixedOrders = true := by kernel_rfl
noncomputable def con_laws_szFloat32S : Contract := gcC cnil laws_szFloat32S true
theorem sim_laws_szFloat32S : SimOk Try.prog 61 con_laws_szFloat32S := simOk_gc mixed (ctab_nil _) true Try.func61 Try.call61 (by kernel_rfl)
theorem law_laws_szFloat32S : laws_szFloat32S_ok  con_laws_szFloat32S := laws_szFloat32S_law 
noncomputable def con_laws_szSheet : Contract := gcC (cadd 61 con_laws_szFloat32S cnil) (laws_szSheet 61) true
theorem sim_laws_szSheet : SimOk Try.prog 21 con_laws_szSheet := simOk_gc mixed (ctab_add sim_laws_szFloat32S (ctab_nil _)) true Try.func21 Try.call21 (by kernel_rfl)
theorem law_laws_szSheet : laws_szSheet_ok  con_laws_szSheet := laws_szSheet_law ⟨rfl, rfl, law_laws_szFloat32S⟩
noncomputable def con_laws_toFloat32S : Contract := gcC cnil laws_toFloat32S true
theorem sim_laws_toFloat32S : SimOk Try.prog 18 con_laws_toFloat32S := simOk_gc mixed (ctab_nil _) true Try.func18 Try.call18 (by kernel_rfl)
theorem law_laws_toFloat32S : laws_toFloat32S_ok  con_laws_toFloat32S := laws_toFloat32S_law 
noncomputable def con_laws_toSheet : Contract := gcC (cadd 18 con_laws_toFloat32S cnil) (laws_toSheet 18) true
theorem sim_laws_toSheet : SimOk Try.prog 23 con_laws_toSheet := simOk_gc mixed (ctab_add sim_laws_toFloat32S (ctab_nil _)) true Try.func23 Try.call23 (by kernel_rfl)
theorem law_laws_toSheet : laws_toSheet_ok  con_laws_toSheet := laws_toSheet_law ⟨rfl, rfl, law_laws_toFloat32S⟩
noncomputable def con_spec_l00In : Contract := gcC cnil spec_l00In true
theorem sim_spec_l00In : SimOk Try.prog 63 con_spec_l00In := simOk_gc mixed (ctab_nil _) true Try.func63 Try.call63 (by kernel_rfl)
theorem law_spec_l00In : spec_l00In_ok  con_spec_l00In := spec_l00In_law 
noncomputable def con_spec_l02Sides : Contract := gcC (cadd 63 con_spec_l00In cnil) (spec_l02Sides 63) true
theorem sim_spec_l02Sides : SimOk Try.prog 98 con_spec_l02Sides := simOk_gc mixed (ctab_add sim_spec_l00In (ctab_nil _)) true Try.func98 Try.call98 (by kernel_rfl)
theorem law_spec_l02Sides : spec_l02Sides_ok  con_spec_l02Sides := spec_l02Sides_law ⟨rfl, rfl, law_spec_l00In⟩
noncomputable def con_spec_l02Is : Contract := gcC (cadd 98 con_spec_l02Sides cnil) (spec_l02Is 98) true
theorem sim_spec_l02Is : SimOk Try.prog 62 con_spec_l02Is := simOk_gc mixed (ctab_add sim_spec_l02Sides (ctab_nil _)) true Try.func62 Try.call62 (by kernel_rfl)
theorem law_spec_l02Is : spec_l02Is_ok  con_spec_l02Is := spec_l02Is_law ⟨rfl, rfl, law_spec_l02Sides⟩
noncomputable def con_spec_l00Max : Contract := gcC cnil spec_l00Max true
theorem sim_spec_l00Max : SimOk Try.prog 117 con_spec_l00Max := simOk_gc mixed (ctab_nil _) true Try.func117 Try.call117 (by kernel_rfl)
theorem law_spec_l00Max : spec_l00Max_ok  con_spec_l00Max := spec_l00Max_law 
noncomputable def con_spec_l00Min : Contract := gcC cnil spec_l00Min true
theorem sim_spec_l00Min : SimOk Try.prog 118 con_spec_l00Min := simOk_gc mixed (ctab_nil _) true Try.func118 Try.call118 (by kernel_rfl)
theorem law_spec_l00Min : spec_l00Min_ok  con_spec_l00Min := spec_l00Min_law 
noncomputable def con_spec_l03Way : Contract := gcC (cadd 117 con_spec_l00Max (cadd 118 con_spec_l00Min cnil)) (spec_l03Way 117 118) true
theorem sim_spec_l03Way : SimOk Try.prog 110 con_spec_l03Way := simOk_gc mixed (ctab_add sim_spec_l00Max (ctab_add sim_spec_l00Min (ctab_nil _))) true Try.func110 Try.call110 (by kernel_rfl)
theorem law_spec_l03Way : spec_l03Way_ok  con_spec_l03Way := spec_l03Way_law ⟨rfl, rfl, law_spec_l00Max⟩ ⟨rfl, rfl, law_spec_l00Min⟩
noncomputable def con_spec_l09Ways : Contract := gcC (cadd 110 con_spec_l03Way cnil) (spec_l09Ways 110) true
theorem sim_spec_l09Ways : SimOk Try.prog 86 con_spec_l09Ways := simOk_gc mixed (ctab_add sim_spec_l03Way (ctab_nil _)) true Try.func86 Try.call86 (by kernel_rfl)
theorem law_spec_l09Ways : spec_l09Ways_ok  con_spec_l09Ways := spec_l09Ways_law ⟨rfl, rfl, law_spec_l03Way⟩
noncomputable def con_spec_OutlineOf : Contract := gcC (cadd 62 con_spec_l02Is (cadd 86 con_spec_l09Ways cnil)) (spec_OutlineOf 62 86) true
theorem sim_spec_OutlineOf : SimOk Try.prog 48 con_spec_OutlineOf := simOk_gc mixed (ctab_add sim_spec_l02Is (ctab_add sim_spec_l09Ways (ctab_nil _))) true Try.func48 Try.call48 (by kernel_rfl)
theorem law_spec_OutlineOf : spec_OutlineOf_ok  con_spec_OutlineOf := spec_OutlineOf_law ⟨rfl, rfl, law_spec_l02Is⟩ ⟨rfl, rfl, law_spec_l09Ways⟩
noncomputable def con_impl_within : Contract := gcC cnil impl_within true
theorem sim_impl_within : SimOk Try.prog 93 con_impl_within := simOk_gc mixed (ctab_nil _) true Try.func93 Try.call93 (by kernel_rfl)
theorem law_impl_within : impl_within_ok  con_impl_within := impl_within_law 
noncomputable def con_impl_areBetween : Contract := gcC cnil impl_areBetween true
theorem sim_impl_areBetween : SimOk Try.prog 99 con_impl_areBetween := simOk_gc mixed (ctab_nil _) true Try.func99 Try.call99 (by kernel_rfl)
theorem law_impl_areBetween : impl_areBetween_ok  con_impl_areBetween := impl_areBetween_law 
noncomputable def con_impl_ValidSheet : Contract := gcC (cadd 93 con_impl_within (cadd 99 con_impl_areBetween cnil)) (impl_ValidSheet 93 99) true
theorem sim_impl_ValidSheet : SimOk Try.prog 66 con_impl_ValidSheet := simOk_gc mixed (ctab_add sim_impl_within (ctab_add sim_impl_areBetween (ctab_nil _))) true Try.func66 Try.call66 (by kernel_rfl)
theorem law_impl_ValidSheet : impl_ValidSheet_ok  con_impl_ValidSheet := impl_ValidSheet_law ⟨rfl, rfl, law_impl_within⟩ ⟨rfl, rfl, law_impl_areBetween⟩
noncomputable def con_impl_Sheet_isCell : Contract := gcC (cadd 93 con_impl_within cnil) (impl_Sheet_isCell 93) true
theorem sim_impl_Sheet_isCell : SimOk Try.prog 88 con_impl_Sheet_isCell := simOk_gc mixed (ctab_add sim_impl_within (ctab_nil _)) true Try.func88 Try.call88 (by kernel_rfl)
theorem law_impl_Sheet_isCell : impl_Sheet_isCell_ok  con_impl_Sheet_isCell := impl_Sheet_isCell_law ⟨rfl, rfl, law_impl_within⟩
noncomputable def con_impl_Sheet_at : Contract := gcC cnil impl_Sheet_at true
theorem sim_impl_Sheet_at : SimOk Try.prog 65 con_impl_Sheet_at := simOk_gc mixed (ctab_nil _) true Try.func65 Try.call65 (by kernel_rfl)
theorem law_impl_Sheet_at : impl_Sheet_at_ok  con_impl_Sheet_at := impl_Sheet_at_law 
noncomputable def con_impl_OutlineOfC1 : Contract := gcC (cadd 88 con_impl_Sheet_isCell (cadd 65 con_impl_Sheet_at cnil)) (impl_OutlineOfC1 88 65) true
theorem sim_impl_OutlineOfC1 : SimOk Try.prog 87 con_impl_OutlineOfC1 := simOk_gc mixed (ctab_add sim_impl_Sheet_isCell (ctab_add sim_impl_Sheet_at (ctab_nil _))) true Try.func87 Try.call87 (by kernel_rfl)
theorem law_impl_OutlineOfC1 : impl_OutlineOfC1_ok  con_impl_OutlineOfC1 := impl_OutlineOfC1_law ⟨rfl, rfl, law_impl_Sheet_isCell⟩ ⟨rfl, rfl, law_impl_Sheet_at⟩
noncomputable def con_impl_cellsBy__impl_OutlineOf : Contract := gcC (cadd 65 con_impl_Sheet_at (cadd 87 con_impl_OutlineOfC1 cnil)) (impl_cellsBy 65) true
theorem sim_impl_cellsBy__impl_OutlineOf : SimOk Try.prog 84 con_impl_cellsBy__impl_OutlineOf := simOk_gc mixed (ctab_add sim_impl_Sheet_at (ctab_add sim_impl_OutlineOfC1 (ctab_nil _))) true Try.func84 Try.call84 (by kernel_rfl)
theorem law_impl_cellsBy__impl_OutlineOf : impl_cellsBy_ok 87 con_impl_OutlineOfC1 con_impl_cellsBy__impl_OutlineOf := impl_cellsBy_law ⟨rfl, rfl, law_impl_Sheet_at⟩ rfl
noncomputable def con_impl_OutlineOf : Contract := gcC (cadd 66 con_impl_ValidSheet (cadd 87 con_impl_OutlineOfC1 (cadd 84 con_impl_cellsBy__impl_OutlineOf cnil))) (impl_OutlineOf 66 87 84) true
theorem sim_impl_OutlineOf : SimOk Try.prog 49 con_impl_OutlineOf := simOk_gc mixed (ctab_add sim_impl_ValidSheet (ctab_add sim_impl_OutlineOfC1 (ctab_add sim_impl_cellsBy__impl_OutlineOf (ctab_nil _)))) true Try.func49 Try.call49 (by kernel_rfl)
theorem law_impl_OutlineOf : impl_OutlineOf_ok  con_impl_OutlineOf := impl_OutlineOf_law ⟨rfl, rfl, law_impl_ValidSheet⟩ law_impl_OutlineOfC1 ⟨rfl, rfl, law_impl_cellsBy__impl_OutlineOf⟩
noncomputable def con_laws_eqInt64S : Contract := gcC cnil laws_eqInt64S true
theorem sim_laws_eqInt64S : SimOk Try.prog 45 con_laws_eqInt64S := simOk_gc mixed (ctab_nil _) true Try.func45 Try.call45 (by kernel_rfl)
theorem law_laws_eqInt64S : laws_eqInt64S_ok  con_laws_eqInt64S := laws_eqInt64S_law 
noncomputable def con_laws_sameFloat : Contract := gcC cnil laws_sameFloat true
theorem sim_laws_sameFloat : SimOk Try.prog 25 con_laws_sameFloat := simOk_gc mixed (ctab_nil _) true Try.func25 Try.call25 (by kernel_rfl)
theorem law_laws_sameFloat : laws_sameFloat_ok  con_laws_sameFloat := laws_sameFloat_law 
noncomputable def con_laws_eqFloat32S : Contract := gcC (cadd 25 con_laws_sameFloat cnil) (laws_eqFloat32S 25) true
theorem sim_laws_eqFloat32S : SimOk Try.prog 20 con_laws_eqFloat32S := simOk_gc mixed (ctab_add sim_laws_sameFloat (ctab_nil _)) true Try.func20 Try.call20 (by kernel_rfl)
theorem law_laws_eqFloat32S : laws_eqFloat32S_ok  con_laws_eqFloat32S := laws_eqFloat32S_law ⟨rfl, rfl, law_laws_sameFloat⟩
noncomputable def con_laws_eqSheet : Contract := gcC (cadd 20 con_laws_eqFloat32S cnil) (laws_eqSheet 20) true
theorem sim_laws_eqSheet : SimOk Try.prog 26 con_laws_eqSheet := simOk_gc mixed (ctab_add sim_laws_eqFloat32S (ctab_nil _)) true Try.func26 Try.call26 (by kernel_rfl)
theorem law_laws_eqSheet : laws_eqSheet_ok  con_laws_eqSheet := laws_eqSheet_law ⟨rfl, rfl, law_laws_eqFloat32S⟩
noncomputable def con_laws_markFloat32S : Contract := gcC cnil laws_markFloat32S false
theorem sim_laws_markFloat32S : SimOk Try.prog 37 con_laws_markFloat32S := simOk_gc mixed (ctab_nil _) false Try.func37 Try.call37 (by kernel_rfl)
theorem law_laws_markFloat32S : laws_markFloat32S_ok  con_laws_markFloat32S := laws_markFloat32S_law 
noncomputable def con_laws_markSheet : Contract := gcC (cadd 37 con_laws_markFloat32S cnil) (laws_markSheet 37) false
theorem sim_laws_markSheet : SimOk Try.prog 41 con_laws_markSheet := simOk_gc mixed (ctab_add sim_laws_markFloat32S (ctab_nil _)) false Try.func41 Try.call41 (by kernel_rfl)
theorem law_laws_markSheet : laws_markSheet_ok  con_laws_markSheet := laws_markSheet_law ⟨rfl, law_laws_markFloat32S⟩
noncomputable def con_laws_markInt64S : Contract := gcC cnil laws_markInt64S false
theorem sim_laws_markInt64S : SimOk Try.prog 46 con_laws_markInt64S := simOk_gc mixed (ctab_nil _) false Try.func46 Try.call46 (by kernel_rfl)
theorem law_laws_markInt64S : laws_markInt64S_ok  con_laws_markInt64S := laws_markInt64S_law 
noncomputable def con_laws_heldInt64S : Contract := gcC cnil laws_heldInt64S true
theorem sim_laws_heldInt64S : SimOk Try.prog 47 con_laws_heldInt64S := simOk_gc mixed (ctab_nil _) true Try.func47 Try.call47 (by kernel_rfl)
theorem law_laws_heldInt64S : laws_heldInt64S_ok  con_laws_heldInt64S := laws_heldInt64S_law 
noncomputable def con_laws_FnExactOutlineOf : Contract := gcC (cadd 21 con_laws_szSheet (cadd 23 con_laws_toSheet (cadd 48 con_spec_OutlineOf (cadd 49 con_impl_OutlineOf (cadd 45 con_laws_eqInt64S (cadd 26 con_laws_eqSheet (cadd 41 con_laws_markSheet (cadd 46 con_laws_markInt64S (cadd 47 con_laws_heldInt64S cnil))))))))) (laws_FnExactOutlineOf 21 23 48 49 45 26 41 46 47) true
theorem sim_laws_FnExactOutlineOf : SimOk Try.prog 12 con_laws_FnExactOutlineOf := simOk_gc mixed (ctab_add sim_laws_szSheet (ctab_add sim_laws_toSheet (ctab_add sim_spec_OutlineOf (ctab_add sim_impl_OutlineOf (ctab_add sim_laws_eqInt64S (ctab_add sim_laws_eqSheet (ctab_add sim_laws_markSheet (ctab_add sim_laws_markInt64S (ctab_add sim_laws_heldInt64S (ctab_nil _)))))))))) true Try.func12 Try.call12 (by kernel_rfl)
theorem law_laws_FnExactOutlineOf : laws_FnExactOutlineOf_ok  con_laws_FnExactOutlineOf := laws_FnExactOutlineOf_law ⟨rfl, rfl, law_laws_szSheet⟩ ⟨rfl, rfl, law_laws_toSheet⟩ ⟨rfl, rfl, law_spec_OutlineOf⟩ ⟨rfl, rfl, law_impl_OutlineOf⟩ ⟨rfl, rfl, law_laws_eqInt64S⟩ ⟨rfl, rfl, law_laws_eqSheet⟩ ⟨rfl, law_laws_markSheet⟩ ⟨rfl, law_laws_markInt64S⟩ ⟨rfl, rfl, law_laws_heldInt64S⟩
theorem lifted (os : Os) (started : os.Started) (H : Type) (enc : TypeId × Value → H) :
    ReturnsInHanded {} Try.checked os 12 .any (Rows.fnExactOutlineOfSpec.pre6 enc Try.prog Try.f12 Rows.fnExactOutlineOfRow.domain false) (Rows.fnExactOutlineOfSpec.post enc Try.prog Try.f12 false true false false) := by
  refine returnsInHanded_of_change (C := Try.checked) own started (by kernel_rfl) Try.func12
    (ChangeSpec.witness6 (enc := enc) (C := Try.checked) false ⟨#[], #[.agg #[.int .i64 0, .int .i64 0, .bool false, .slice none 0 0, .slice none 0 0]], []⟩ 8 (by kernel_rfl) (by kernel_rfl) (by kernel_rfl) (by kernel_rfl)) ?_
  intro W base args ds gs before hval hW _ _
  exact row_contract (P := Try.prog) (fn := Try.f12) (d := 8) (sh := [sheetK]) (n := 1) sim_laws_FnExactOutlineOf Try.call12 (by kernel_rfl) law_laws_FnExactOutlineOf laidOut (by kernel_rfl) rfl rfl (by kernel_rfl) (by kernel_rfl)
    (fun ds h => by match ds, h with | [_], _ => rfl) hval hW
theorem holds : Rows.FnExactOutlineOfSaid :=
  OpenClaim.holds_of_wide 12 Try.f12 rfl rfl rfl rfl rfl rfl rfl ⟨rfl, rfl, rfl, rfl, rfl⟩ rfl rfl rfl rfl rfl (by kernel_rfl) Try.func12 (by kernel_rfl)
    (of_decide_eq_true (by kernel_rfl)) (by unfold Func.isWrapper; first | (rw [if_pos (by decide +kernel)]; kernel_rfl) | (rw [if_neg (by decide +kernel)]; exact ⟨rfl, rfl⟩))
    (fun os started H enc _ => lifted os started H enc)
end Go.Proofs.Ytnibmlgdnhiglaa.laws_FnExactOutlineOf
