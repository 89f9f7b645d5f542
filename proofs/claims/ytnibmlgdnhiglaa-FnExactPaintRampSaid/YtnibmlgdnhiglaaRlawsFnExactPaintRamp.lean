/- The row FnExactPaintRamp: it returns true whatever its arguments, and leaves them. No condition. -/
import Derived.Test.YtnibmlgdnhiglaaRows
import Derived.Test.YtnibmlgdnhiglaaWvL09
import Derived.ProofKit
namespace Go.Proofs.Ytnibmlgdnhiglaa.laws_FnExactPaintRamp
open Go.Abs Go.ChangeShapes Go.WideShapes Go.ChangeAt Go.RowKit
set_option maxRecDepth 100000
theorem own : ownKnob Try.prog.godebug = none := by kernel_rfl
theorem laidOut : laidOutB Try.prog = true := by kernel_rfl
theorem mixed : Try.prog.follows .mixedOrders = true := by kernel_rfl
noncomputable def con_laws_szFloat32S : Contract := gcC cnil laws_szFloat32S true
theorem sim_laws_szFloat32S : SimOk Try.prog 61 con_laws_szFloat32S := simOk_gc mixed (ctab_nil _) true Try.func61 Try.call61 (by kernel_rfl)
theorem law_laws_szFloat32S : laws_szFloat32S_ok con_laws_szFloat32S := laws_szFloat32S_law 
noncomputable def con_laws_szSheet : Contract := gcC (cadd 61 con_laws_szFloat32S cnil) (laws_szSheet 61) true
theorem sim_laws_szSheet : SimOk Try.prog 21 con_laws_szSheet := simOk_gc mixed (ctab_add sim_laws_szFloat32S (ctab_nil _)) true Try.func21 Try.call21 (by kernel_rfl)
theorem law_laws_szSheet : laws_szSheet_ok con_laws_szSheet := laws_szSheet_law ⟨rfl, rfl, law_laws_szFloat32S⟩
noncomputable def con_laws_toFloat32S : Contract := gcC cnil laws_toFloat32S true
theorem sim_laws_toFloat32S : SimOk Try.prog 18 con_laws_toFloat32S := simOk_gc mixed (ctab_nil _) true Try.func18 Try.call18 (by kernel_rfl)
theorem law_laws_toFloat32S : laws_toFloat32S_ok con_laws_toFloat32S := laws_toFloat32S_law 
noncomputable def con_laws_toSheet : Contract := gcC (cadd 18 con_laws_toFloat32S cnil) (laws_toSheet 18) true
theorem sim_laws_toSheet : SimOk Try.prog 23 con_laws_toSheet := simOk_gc mixed (ctab_add sim_laws_toFloat32S (ctab_nil _)) true Try.func23 Try.call23 (by kernel_rfl)
theorem law_laws_toSheet : laws_toSheet_ok con_laws_toSheet := laws_toSheet_law ⟨rfl, rfl, law_laws_toFloat32S⟩
noncomputable def con_spec_l00In : Contract := gcC cnil spec_l00In true
theorem sim_spec_l00In : SimOk Try.prog 63 con_spec_l00In := simOk_gc mixed (ctab_nil _) true Try.func63 Try.call63 (by kernel_rfl)
theorem law_spec_l00In : spec_l00In_ok con_spec_l00In := spec_l00In_law 
noncomputable def con_spec_l02Sides : Contract := gcC (cadd 63 con_spec_l00In cnil) (spec_l02Sides 63) true
theorem sim_spec_l02Sides : SimOk Try.prog 98 con_spec_l02Sides := simOk_gc mixed (ctab_add sim_spec_l00In (ctab_nil _)) true Try.func98 Try.call98 (by kernel_rfl)
theorem law_spec_l02Sides : spec_l02Sides_ok con_spec_l02Sides := spec_l02Sides_law ⟨rfl, rfl, law_spec_l00In⟩
noncomputable def con_spec_l02Is : Contract := gcC (cadd 98 con_spec_l02Sides cnil) (spec_l02Is 98) true
theorem sim_spec_l02Is : SimOk Try.prog 62 con_spec_l02Is := simOk_gc mixed (ctab_add sim_spec_l02Sides (ctab_nil _)) true Try.func62 Try.call62 (by kernel_rfl)
theorem law_spec_l02Is : spec_l02Is_ok con_spec_l02Is := spec_l02Is_law ⟨rfl, rfl, law_spec_l02Sides⟩
noncomputable def con_spec_l05Share : Contract := gcC cnil spec_l05Share true
theorem sim_spec_l05Share : SimOk Try.prog 76 con_spec_l05Share := simOk_gc mixed (ctab_nil _) true Try.func76 Try.call76 (by kernel_rfl)
theorem law_spec_l05Share : spec_l05Share_ok con_spec_l05Share := spec_l05Share_law 
noncomputable def con_spec_l05Own : Contract := gcC cnil spec_l05Own true
theorem sim_spec_l05Own : SimOk Try.prog 77 con_spec_l05Own := simOk_gc mixed (ctab_nil _) true Try.func77 Try.call77 (by kernel_rfl)
theorem law_spec_l05Own : spec_l05Own_ok con_spec_l05Own := spec_l05Own_law 
noncomputable def con_spec_PaintRamp : Contract := gcC (cadd 62 con_spec_l02Is (cadd 76 con_spec_l05Share (cadd 77 con_spec_l05Own cnil))) (spec_PaintRamp 62 76 77) true
theorem sim_spec_PaintRamp : SimOk Try.prog 39 con_spec_PaintRamp := simOk_gc mixed (ctab_add sim_spec_l02Is (ctab_add sim_spec_l05Share (ctab_add sim_spec_l05Own (ctab_nil _)))) true Try.func39 Try.call39 (by kernel_rfl)
theorem law_spec_PaintRamp : spec_PaintRamp_ok con_spec_PaintRamp := spec_PaintRamp_law ⟨rfl, rfl, law_spec_l02Is⟩ ⟨rfl, rfl, law_spec_l05Share⟩ ⟨rfl, rfl, law_spec_l05Own⟩
noncomputable def con_impl_within : Contract := gcC cnil impl_within true
theorem sim_impl_within : SimOk Try.prog 93 con_impl_within := simOk_gc mixed (ctab_nil _) true Try.func93 Try.call93 (by kernel_rfl)
theorem law_impl_within : impl_within_ok con_impl_within := impl_within_law 
noncomputable def con_impl_areBetween : Contract := gcC cnil impl_areBetween true
theorem sim_impl_areBetween : SimOk Try.prog 99 con_impl_areBetween := simOk_gc mixed (ctab_nil _) true Try.func99 Try.call99 (by kernel_rfl)
theorem law_impl_areBetween : impl_areBetween_ok con_impl_areBetween := impl_areBetween_law 
noncomputable def con_impl_ValidSheet : Contract := gcC (cadd 93 con_impl_within (cadd 99 con_impl_areBetween cnil)) (impl_ValidSheet 93 99) true
theorem sim_impl_ValidSheet : SimOk Try.prog 66 con_impl_ValidSheet := simOk_gc mixed (ctab_add sim_impl_within (ctab_add sim_impl_areBetween (ctab_nil _))) true Try.func66 Try.call66 (by kernel_rfl)
theorem law_impl_ValidSheet : impl_ValidSheet_ok con_impl_ValidSheet := impl_ValidSheet_law ⟨rfl, rfl, law_impl_within⟩ ⟨rfl, rfl, law_impl_areBetween⟩
noncomputable def con_impl_isShare : Contract := gcC cnil impl_isShare true
theorem sim_impl_isShare : SimOk Try.prog 56 con_impl_isShare := simOk_gc mixed (ctab_nil _) true Try.func56 Try.call56 (by kernel_rfl)
theorem law_impl_isShare : impl_isShare_ok con_impl_isShare := impl_isShare_law 
noncomputable def con_impl_IsPaint : Contract := gcC (cadd 56 con_impl_isShare cnil) (impl_IsPaint 56) true
theorem sim_impl_IsPaint : SimOk Try.prog 16 con_impl_IsPaint := simOk_gc mixed (ctab_add sim_impl_isShare (ctab_nil _)) true Try.func16 Try.call16 (by kernel_rfl)
theorem law_impl_IsPaint : impl_IsPaint_ok con_impl_IsPaint := impl_IsPaint_law ⟨rfl, rfl, law_impl_isShare⟩
noncomputable def con_impl_copyOf : Contract := gcC cnil impl_copyOf true
theorem sim_impl_copyOf : SimOk Try.prog 109 con_impl_copyOf := simOk_gc mixed (ctab_nil _) true Try.func109 Try.call109 (by kernel_rfl)
theorem law_impl_copyOf : impl_copyOf_ok con_impl_copyOf := impl_copyOf_law 
noncomputable def con_impl_copySheet : Contract := gcC (cadd 109 con_impl_copyOf cnil) (impl_copySheet 109) true
theorem sim_impl_copySheet : SimOk Try.prog 78 con_impl_copySheet := simOk_gc mixed (ctab_add sim_impl_copyOf (ctab_nil _)) true Try.func78 Try.call78 (by kernel_rfl)
theorem law_impl_copySheet : impl_copySheet_ok con_impl_copySheet := impl_copySheet_law ⟨rfl, rfl, law_impl_copyOf⟩
noncomputable def con_impl_quotient : Contract := gcC cnil impl_quotient true
theorem sim_impl_quotient : SimOk Try.prog 81 con_impl_quotient := simOk_gc mixed (ctab_nil _) true Try.func81 Try.call81 (by kernel_rfl)
theorem law_impl_quotient : impl_quotient_ok con_impl_quotient := impl_quotient_law 
noncomputable def con_impl_PaintRampC1 : Contract := gcC (cadd 81 con_impl_quotient cnil) (impl_PaintRampC1 81) false
theorem sim_impl_PaintRampC1 : SimOk Try.prog 80 con_impl_PaintRampC1 := simOk_gc mixed (ctab_add sim_impl_quotient (ctab_nil _)) false Try.func80 Try.call80 (by kernel_rfl)
theorem law_impl_PaintRampC1 : impl_PaintRampC1_ok con_impl_PaintRampC1 := impl_PaintRampC1_law ⟨rfl, rfl, law_impl_quotient⟩
noncomputable def con_impl_Sheet_at : Contract := gcC cnil impl_Sheet_at true
theorem sim_impl_Sheet_at : SimOk Try.prog 65 con_impl_Sheet_at := simOk_gc mixed (ctab_nil _) true Try.func65 Try.call65 (by kernel_rfl)
theorem law_impl_Sheet_at : impl_Sheet_at_ok con_impl_Sheet_at := impl_Sheet_at_law 
noncomputable def con_impl_validSheet : Contract := gcC (cadd 66 con_impl_ValidSheet cnil) (impl_validSheet 66) true
theorem sim_impl_validSheet : SimOk Try.prog 82 con_impl_validSheet := simOk_gc mixed (ctab_add sim_impl_ValidSheet (ctab_nil _)) true Try.func82 Try.call82 (by kernel_rfl)
theorem law_impl_validSheet : impl_validSheet_ok con_impl_validSheet := impl_validSheet_law ⟨rfl, rfl, law_impl_ValidSheet⟩
noncomputable def con_impl_Sheet_each__impl_PaintRamp : Contract := gcC (cadd 65 con_impl_Sheet_at (cadd 80 con_impl_PaintRampC1 cnil)) (impl_Sheet_each 65) false
theorem sim_impl_Sheet_each__impl_PaintRamp : SimOk Try.prog 79 con_impl_Sheet_each__impl_PaintRamp := simOk_gc mixed (ctab_add sim_impl_Sheet_at (ctab_add sim_impl_PaintRampC1 (ctab_nil _))) false Try.func79 Try.call79 (by kernel_rfl)
theorem law_impl_Sheet_each__impl_PaintRamp : impl_Sheet_each_ok 80 con_impl_PaintRampC1 con_impl_Sheet_each__impl_PaintRamp := impl_Sheet_each_law ⟨rfl, rfl, law_impl_Sheet_at⟩ rfl
noncomputable def con_impl_PaintRamp : Contract := gcC (cadd 66 con_impl_ValidSheet (cadd 16 con_impl_IsPaint (cadd 78 con_impl_copySheet (cadd 80 con_impl_PaintRampC1 (cadd 79 con_impl_Sheet_each__impl_PaintRamp (cadd 82 con_impl_validSheet cnil)))))) (impl_PaintRamp 66 16 78 80 79 82) true
theorem sim_impl_PaintRamp : SimOk Try.prog 40 con_impl_PaintRamp := simOk_gc mixed (ctab_add sim_impl_ValidSheet (ctab_add sim_impl_IsPaint (ctab_add sim_impl_copySheet (ctab_add sim_impl_PaintRampC1 (ctab_add sim_impl_Sheet_each__impl_PaintRamp (ctab_add sim_impl_validSheet (ctab_nil _))))))) true Try.func40 Try.call40 (by kernel_rfl)
theorem law_impl_PaintRamp : impl_PaintRamp_ok con_impl_PaintRamp := impl_PaintRamp_law ⟨rfl, rfl, law_impl_ValidSheet⟩ ⟨rfl, rfl, law_impl_IsPaint⟩ ⟨rfl, rfl, law_impl_copySheet⟩ law_impl_PaintRampC1 ⟨rfl, law_impl_Sheet_each__impl_PaintRamp⟩ ⟨rfl, rfl, law_impl_validSheet⟩
noncomputable def con_laws_sameFloat : Contract := gcC cnil laws_sameFloat true
theorem sim_laws_sameFloat : SimOk Try.prog 25 con_laws_sameFloat := simOk_gc mixed (ctab_nil _) true Try.func25 Try.call25 (by kernel_rfl)
theorem law_laws_sameFloat : laws_sameFloat_ok con_laws_sameFloat := laws_sameFloat_law 
noncomputable def con_laws_eqFloat32S : Contract := gcC (cadd 25 con_laws_sameFloat cnil) (laws_eqFloat32S 25) true
theorem sim_laws_eqFloat32S : SimOk Try.prog 20 con_laws_eqFloat32S := simOk_gc mixed (ctab_add sim_laws_sameFloat (ctab_nil _)) true Try.func20 Try.call20 (by kernel_rfl)
theorem law_laws_eqFloat32S : laws_eqFloat32S_ok con_laws_eqFloat32S := laws_eqFloat32S_law ⟨rfl, rfl, law_laws_sameFloat⟩
noncomputable def con_laws_eqSheet : Contract := gcC (cadd 20 con_laws_eqFloat32S cnil) (laws_eqSheet 20) true
theorem sim_laws_eqSheet : SimOk Try.prog 26 con_laws_eqSheet := simOk_gc mixed (ctab_add sim_laws_eqFloat32S (ctab_nil _)) true Try.func26 Try.call26 (by kernel_rfl)
theorem law_laws_eqSheet : laws_eqSheet_ok con_laws_eqSheet := laws_eqSheet_law ⟨rfl, rfl, law_laws_eqFloat32S⟩
noncomputable def con_laws_markFloat32S : Contract := gcC cnil laws_markFloat32S false
theorem sim_laws_markFloat32S : SimOk Try.prog 37 con_laws_markFloat32S := simOk_gc mixed (ctab_nil _) false Try.func37 Try.call37 (by kernel_rfl)
theorem law_laws_markFloat32S : laws_markFloat32S_ok con_laws_markFloat32S := laws_markFloat32S_law 
noncomputable def con_laws_markSheet : Contract := gcC (cadd 37 con_laws_markFloat32S cnil) (laws_markSheet 37) false
theorem sim_laws_markSheet : SimOk Try.prog 41 con_laws_markSheet := simOk_gc mixed (ctab_add sim_laws_markFloat32S (ctab_nil _)) false Try.func41 Try.call41 (by kernel_rfl)
theorem law_laws_markSheet : laws_markSheet_ok con_laws_markSheet := laws_markSheet_law ⟨rfl, law_laws_markFloat32S⟩
noncomputable def con_laws_heldFloat32S : Contract := gcC cnil laws_heldFloat32S true
theorem sim_laws_heldFloat32S : SimOk Try.prog 38 con_laws_heldFloat32S := simOk_gc mixed (ctab_nil _) true Try.func38 Try.call38 (by kernel_rfl)
theorem law_laws_heldFloat32S : laws_heldFloat32S_ok con_laws_heldFloat32S := laws_heldFloat32S_law 
noncomputable def con_laws_heldSheet : Contract := gcC (cadd 38 con_laws_heldFloat32S cnil) (laws_heldSheet 38) true
theorem sim_laws_heldSheet : SimOk Try.prog 42 con_laws_heldSheet := simOk_gc mixed (ctab_add sim_laws_heldFloat32S (ctab_nil _)) true Try.func42 Try.call42 (by kernel_rfl)
theorem law_laws_heldSheet : laws_heldSheet_ok con_laws_heldSheet := laws_heldSheet_law ⟨rfl, rfl, law_laws_heldFloat32S⟩
noncomputable def con_laws_FnExactPaintRamp : Contract := gcC (cadd 21 con_laws_szSheet (cadd 23 con_laws_toSheet (cadd 39 con_spec_PaintRamp (cadd 40 con_impl_PaintRamp (cadd 26 con_laws_eqSheet (cadd 41 con_laws_markSheet (cadd 42 con_laws_heldSheet cnil))))))) (laws_FnExactPaintRamp 21 23 39 40 26 41 42) true
theorem sim_laws_FnExactPaintRamp : SimOk Try.prog 10 con_laws_FnExactPaintRamp := simOk_gc mixed (ctab_add sim_laws_szSheet (ctab_add sim_laws_toSheet (ctab_add sim_spec_PaintRamp (ctab_add sim_impl_PaintRamp (ctab_add sim_laws_eqSheet (ctab_add sim_laws_markSheet (ctab_add sim_laws_heldSheet (ctab_nil _)))))))) true Try.func10 Try.call10 (by kernel_rfl)
theorem law_laws_FnExactPaintRamp : laws_FnExactPaintRamp_ok con_laws_FnExactPaintRamp := laws_FnExactPaintRamp_law ⟨rfl, rfl, law_laws_szSheet⟩ ⟨rfl, rfl, law_laws_toSheet⟩ ⟨rfl, rfl, law_spec_PaintRamp⟩ ⟨rfl, rfl, law_impl_PaintRamp⟩ ⟨rfl, rfl, law_laws_eqSheet⟩ ⟨rfl, law_laws_markSheet⟩ ⟨rfl, rfl, law_laws_heldSheet⟩
theorem lifted (os : Os) (started : os.Started) (H : Type) (enc : TypeId × Value → H) :
    ReturnsInHanded {} Try.checked os 10 .any (Rows.fnExactPaintRampSpec.pre6 enc Try.prog Try.f10 Rows.fnExactPaintRampRow.domain false) (Rows.fnExactPaintRampSpec.post enc Try.prog Try.f10 false true false false) := by
  refine returnsInHanded_of_change (C := Try.checked) own started (by kernel_rfl) Try.func10
    (ChangeSpec.witness6 (enc := enc) (C := Try.checked) false ⟨#[], #[.agg #[.int .i64 0, .int .i64 0, .bool false, .slice none 0 0, .slice none 0 0], .float .f32 0, .float .f32 0], []⟩ 8 (by kernel_rfl) (by kernel_rfl) (by kernel_rfl) (by kernel_rfl)) ?_
  intro W base args ds gs before hval hW _ _
  exact row_contract (P := Try.prog) (fn := Try.f10) (d := 8) (sh := [sheetK, floatK, floatK]) (n := 3) sim_laws_FnExactPaintRamp Try.call10 (by kernel_rfl) law_laws_FnExactPaintRamp laidOut (by kernel_rfl) rfl rfl (by kernel_rfl) (by kernel_rfl)
    (fun ds h => by match ds, h with | [_, _, _], _ => rfl) hval hW
theorem holds : Rows.FnExactPaintRampSaid :=
  OpenClaim.holds_of_wide 10 Try.f10 rfl rfl rfl rfl rfl rfl rfl ⟨rfl, rfl, rfl, rfl, rfl⟩ rfl rfl rfl rfl rfl (by kernel_rfl) Try.func10 (by kernel_rfl)
    (of_decide_eq_true (by kernel_rfl)) (by unfold Func.isWrapper; first | (rw [if_pos (by decide +kernel)]; kernel_rfl) | (rw [if_neg (by decide +kernel)]; exact ⟨rfl, rfl⟩))
    (fun os started H enc _ => lifted os started H enc)
end Go.Proofs.Ytnibmlgdnhiglaa.laws_FnExactPaintRamp
