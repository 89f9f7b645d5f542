/- The row FnExactPaintedCells: it returns true whatever its arguments, and leaves them. No condition. -/
import Derived.Test.YtnibmlgdnhiglaaRows
import Derived.Test.YtnibmlgdnhiglaaExactPaintedCellsL35
import Derived.ProofKit
namespace Go.Proofs.Ytnibmlgdnhiglaa.laws_FnExactPaintedCells
open Go.Abs Go.ChangeShapes Go.WideShapes Go.ChangeAt Go.RowKit
set_option maxRecDepth 100000
theorem own : ownKnob Try.prog.godebug = none := by kernel_rfl
theorem laidOut : laidOutB Try.prog = true := by kernel_rfl
theorem mixed : Try.prog.follows .mixedOrders = true := by kernel_rfl
noncomputable def con_laws_szFloat32S : Contract := gcC cnil laws_szFloat32S true
theorem sim_laws_szFloat32S : SimOk Try.prog 61 con_laws_szFloat32S := simOk_gc mixed (ctab_nil _) true Try.func61 Try.call61 (by kernel_rfl)
theorem law_laws_szFloat32S : laws_szFloat32S_ok  con_laws_szFloat32S := laws_szFloat32S_law 
noncomputable def con_laws_szSheet : Contract := gcC (cadd 61 con_laws_szFloat32S cnil) (laws_szSheet 61) true
theorem sim_laws_szSheet : SimOk Try.prog 21 con_laws_szSheet := simOk_gc mixed (ctab_add sim_laws_szFloat32S (ctab_nil _)) true Try.func21 Try.call21 (by kernel_rfl)
theorem law_laws_szSheet : laws_szSheet_ok  con_laws_szSheet := laws_szSheet_law ⟨rfl, rfl, law_laws_szFloat32S⟩
noncomputable def con_laws_toFloat32S : Contract := gcC cnil laws_toFloat32S true
theorem sim_laws_toFloat32S : SimOk Try.prog 18 con_laws_toFloat32S := simOk_gc mixed (ctab_nil _) true Try.func18 Try.call18 (by kernel_rfl)
theorem law_laws_toFloat32S : laws_toFloat32S_ok  con_laws_toFloat32S := laws_toFloat32S_law 
noncomputable def con_laws_toSheet : Contract := gcC (cadd 18 con_laws_toFloat32S cnil) (laws_toSheet 18) true
theorem sim_laws_toSheet : SimOk Try.prog 23 con_laws_toSheet := simOk_gc mixed (ctab_add sim_laws_toFloat32S (ctab_nil _)) true Try.func23 Try.call23 (by kernel_rfl)
theorem law_laws_toSheet : laws_toSheet_ok  con_laws_toSheet := laws_toSheet_law ⟨rfl, rfl, law_laws_toFloat32S⟩
noncomputable def con_laws_toPaint : Contract := gcC cnil laws_toPaint true
theorem sim_laws_toPaint : SimOk Try.prog 15 con_laws_toPaint := simOk_gc mixed (ctab_nil _) true Try.func15 Try.call15 (by kernel_rfl)
theorem law_laws_toPaint : laws_toPaint_ok  con_laws_toPaint := laws_toPaint_law 
noncomputable def con_spec_l00In : Contract := gcC cnil spec_l00In true
theorem sim_spec_l00In : SimOk Try.prog 63 con_spec_l00In := simOk_gc mixed (ctab_nil _) true Try.func63 Try.call63 (by kernel_rfl)
theorem law_spec_l00In : spec_l00In_ok  con_spec_l00In := spec_l00In_law 
noncomputable def con_spec_l02Sides : Contract := gcC (cadd 63 con_spec_l00In cnil) (spec_l02Sides 63) true
theorem sim_spec_l02Sides : SimOk Try.prog 98 con_spec_l02Sides := simOk_gc mixed (ctab_add sim_spec_l00In (ctab_nil _)) true Try.func98 Try.call98 (by kernel_rfl)
theorem law_spec_l02Sides : spec_l02Sides_ok  con_spec_l02Sides := spec_l02Sides_law ⟨rfl, rfl, law_spec_l00In⟩
noncomputable def con_spec_l02Is : Contract := gcC (cadd 98 con_spec_l02Sides cnil) (spec_l02Is 98) true
theorem sim_spec_l02Is : SimOk Try.prog 62 con_spec_l02Is := simOk_gc mixed (ctab_add sim_spec_l02Sides (ctab_nil _)) true Try.func62 Try.call62 (by kernel_rfl)
theorem law_spec_l02Is : spec_l02Is_ok  con_spec_l02Is := spec_l02Is_law ⟨rfl, rfl, law_spec_l02Sides⟩
noncomputable def con_spec_l05Share : Contract := gcC cnil spec_l05Share true
theorem sim_spec_l05Share : SimOk Try.prog 76 con_spec_l05Share := simOk_gc mixed (ctab_nil _) true Try.func76 Try.call76 (by kernel_rfl)
theorem law_spec_l05Share : spec_l05Share_ok  con_spec_l05Share := spec_l05Share_law 
noncomputable def con_spec_l09Is : Contract := gcC (cadd 76 con_spec_l05Share cnil) (spec_l09Is 76) true
theorem sim_spec_l09Is : SimOk Try.prog 55 con_spec_l09Is := simOk_gc mixed (ctab_add sim_spec_l05Share (ctab_nil _)) true Try.func55 Try.call55 (by kernel_rfl)
theorem law_spec_l09Is : spec_l09Is_ok  con_spec_l09Is := spec_l09Is_law ⟨rfl, rfl, law_spec_l05Share⟩
noncomputable def con_math_Float32bits : Contract := pureC gBits32
theorem sim_math_Float32bits : SimOk Try.prog 104 con_math_Float32bits := sim_bits32 (run_callFunc_extern Try.func104 (by kernel_rfl) (by kernel_rfl) (by kernel_rfl) (by kernel_rfl))
theorem law_math_Float32bits : math_Float32bits_ok con_math_Float32bits := math_Float32bits_law
noncomputable def con_spec_l01Bits : Contract := gcC (cadd 104 con_math_Float32bits cnil) (spec_l01Bits 104) true
theorem sim_spec_l01Bits : SimOk Try.prog 95 con_spec_l01Bits := simOk_gc mixed (ctab_add sim_math_Float32bits (ctab_nil _)) true Try.func95 Try.call95 (by kernel_rfl)
theorem law_spec_l01Bits : spec_l01Bits_ok  con_spec_l01Bits := spec_l01Bits_law ⟨rfl, rfl, law_math_Float32bits⟩
noncomputable def con_spec_l01Same : Contract := gcC (cadd 95 con_spec_l01Bits cnil) (spec_l01Same 95) true
theorem sim_spec_l01Same : SimOk Try.prog 83 con_spec_l01Same := simOk_gc mixed (ctab_add sim_spec_l01Bits (ctab_nil _)) true Try.func83 Try.call83 (by kernel_rfl)
theorem law_spec_l01Same : spec_l01Same_ok  con_spec_l01Same := spec_l01Same_law ⟨rfl, rfl, law_spec_l01Bits⟩
noncomputable def con_spec_PaintedCells : Contract := gcC (cadd 62 con_spec_l02Is (cadd 55 con_spec_l09Is (cadd 83 con_spec_l01Same cnil))) (spec_PaintedCells 62 55 83) true
theorem sim_spec_PaintedCells : SimOk Try.prog 43 con_spec_PaintedCells := simOk_gc mixed (ctab_add sim_spec_l02Is (ctab_add sim_spec_l09Is (ctab_add sim_spec_l01Same (ctab_nil _)))) true Try.func43 Try.call43 (by kernel_rfl)
theorem law_spec_PaintedCells : spec_PaintedCells_ok  con_spec_PaintedCells := spec_PaintedCells_law ⟨rfl, rfl, law_spec_l02Is⟩ ⟨rfl, rfl, law_spec_l09Is⟩ ⟨rfl, rfl, law_spec_l01Same⟩
noncomputable def con_impl_within : Contract := gcC cnil impl_within true
theorem sim_impl_within : SimOk Try.prog 93 con_impl_within := simOk_gc mixed (ctab_nil _) true Try.func93 Try.call93 (by kernel_rfl)
theorem law_impl_within : impl_within_ok  con_impl_within := impl_within_law 
noncomputable def con_impl_areBetween : Contract := gcC cnil impl_areBetween true
theorem sim_impl_areBetween : SimOk Try.prog 99 con_impl_areBetween := simOk_gc mixed (ctab_nil _) true Try.func99 Try.call99 (by kernel_rfl)
theorem law_impl_areBetween : impl_areBetween_ok  con_impl_areBetween := impl_areBetween_law 
noncomputable def con_impl_ValidSheet : Contract := gcC (cadd 93 con_impl_within (cadd 99 con_impl_areBetween cnil)) (impl_ValidSheet 93 99) true
theorem sim_impl_ValidSheet : SimOk Try.prog 66 con_impl_ValidSheet := simOk_gc mixed (ctab_add sim_impl_within (ctab_add sim_impl_areBetween (ctab_nil _))) true Try.func66 Try.call66 (by kernel_rfl)
theorem law_impl_ValidSheet : impl_ValidSheet_ok  con_impl_ValidSheet := impl_ValidSheet_law ⟨rfl, rfl, law_impl_within⟩ ⟨rfl, rfl, law_impl_areBetween⟩
noncomputable def con_impl_isShare : Contract := gcC cnil impl_isShare true
theorem sim_impl_isShare : SimOk Try.prog 56 con_impl_isShare := simOk_gc mixed (ctab_nil _) true Try.func56 Try.call56 (by kernel_rfl)
theorem law_impl_isShare : impl_isShare_ok  con_impl_isShare := impl_isShare_law 
noncomputable def con_impl_IsPaint : Contract := gcC (cadd 56 con_impl_isShare cnil) (impl_IsPaint 56) true
theorem sim_impl_IsPaint : SimOk Try.prog 16 con_impl_IsPaint := simOk_gc mixed (ctab_add sim_impl_isShare (ctab_nil _)) true Try.func16 Try.call16 (by kernel_rfl)
theorem law_impl_IsPaint : impl_IsPaint_ok  con_impl_IsPaint := impl_IsPaint_law ⟨rfl, rfl, law_impl_isShare⟩
noncomputable def con_impl_Sheet_at : Contract := gcC cnil impl_Sheet_at true
theorem sim_impl_Sheet_at : SimOk Try.prog 65 con_impl_Sheet_at := simOk_gc mixed (ctab_nil _) true Try.func65 Try.call65 (by kernel_rfl)
theorem law_impl_Sheet_at : impl_Sheet_at_ok  con_impl_Sheet_at := impl_Sheet_at_law 
noncomputable def con_math_Float64bits : Contract := pureC gBits64
theorem sim_math_Float64bits : SimOk Try.prog 115 con_math_Float64bits := sim_bits64 (run_callFunc_extern Try.func115 (by kernel_rfl) (by kernel_rfl) (by kernel_rfl) (by kernel_rfl))
theorem law_math_Float64bits : math_Float64bits_ok con_math_Float64bits := math_Float64bits_law
noncomputable def con_math_Signbit : Contract := gcC (cadd 115 con_math_Float64bits cnil) (math_Signbit 115) true
theorem sim_math_Signbit : SimOk Try.prog 105 con_math_Signbit := simOk_gc mixed (ctab_add sim_math_Float64bits (ctab_nil _)) true Try.func105 Try.call105 (by kernel_rfl)
theorem law_math_Signbit : math_Signbit_ok  con_math_Signbit := math_Signbit_law ⟨rfl, rfl, law_math_Float64bits⟩
noncomputable def con_impl_SameNumber : Contract := gcC (cadd 105 con_math_Signbit cnil) (impl_SameNumber 105) true
theorem sim_impl_SameNumber : SimOk Try.prog 72 con_impl_SameNumber := simOk_gc mixed (ctab_add sim_math_Signbit (ctab_nil _)) true Try.func72 Try.call72 (by kernel_rfl)
theorem law_impl_SameNumber : impl_SameNumber_ok  con_impl_SameNumber := impl_SameNumber_law ⟨rfl, rfl, law_math_Signbit⟩
noncomputable def con_impl_PaintedCellsC1 : Contract := gcC (cadd 65 con_impl_Sheet_at (cadd 72 con_impl_SameNumber cnil)) (impl_PaintedCellsC1 65 72) true
theorem sim_impl_PaintedCellsC1 : SimOk Try.prog 85 con_impl_PaintedCellsC1 := simOk_gc mixed (ctab_add sim_impl_Sheet_at (ctab_add sim_impl_SameNumber (ctab_nil _))) true Try.func85 Try.call85 (by kernel_rfl)
theorem law_impl_PaintedCellsC1 : impl_PaintedCellsC1_ok  con_impl_PaintedCellsC1 := impl_PaintedCellsC1_law ⟨rfl, rfl, law_impl_Sheet_at⟩ ⟨rfl, rfl, law_impl_SameNumber⟩
noncomputable def con_impl_cellsBy__impl_PaintedCells : Contract := gcC (cadd 65 con_impl_Sheet_at (cadd 85 con_impl_PaintedCellsC1 cnil)) (impl_cellsBy 65) true
theorem sim_impl_cellsBy__impl_PaintedCells : SimOk Try.prog 84 con_impl_cellsBy__impl_PaintedCells := simOk_gc mixed (ctab_add sim_impl_Sheet_at (ctab_add sim_impl_PaintedCellsC1 (ctab_nil _))) true Try.func84 Try.call84 (by kernel_rfl)
theorem law_impl_cellsBy__impl_PaintedCells : impl_cellsBy_ok 85 con_impl_PaintedCellsC1 con_impl_cellsBy__impl_PaintedCells := impl_cellsBy_law ⟨rfl, rfl, law_impl_Sheet_at⟩ rfl
noncomputable def con_impl_PaintedCells : Contract := gcC (cadd 66 con_impl_ValidSheet (cadd 16 con_impl_IsPaint (cadd 85 con_impl_PaintedCellsC1 (cadd 84 con_impl_cellsBy__impl_PaintedCells cnil)))) (impl_PaintedCells 66 16 85 84) true
theorem sim_impl_PaintedCells : SimOk Try.prog 44 con_impl_PaintedCells := simOk_gc mixed (ctab_add sim_impl_ValidSheet (ctab_add sim_impl_IsPaint (ctab_add sim_impl_PaintedCellsC1 (ctab_add sim_impl_cellsBy__impl_PaintedCells (ctab_nil _))))) true Try.func44 Try.call44 (by kernel_rfl)
theorem law_impl_PaintedCells : impl_PaintedCells_ok  con_impl_PaintedCells := impl_PaintedCells_law ⟨rfl, rfl, law_impl_ValidSheet⟩ ⟨rfl, rfl, law_impl_IsPaint⟩ law_impl_PaintedCellsC1 ⟨rfl, rfl, law_impl_cellsBy__impl_PaintedCells⟩
noncomputable def con_laws_eqInt64S : Contract := gcC cnil laws_eqInt64S true
theorem sim_laws_eqInt64S : SimOk Try.prog 45 con_laws_eqInt64S := simOk_gc mixed (ctab_nil _) true Try.func45 Try.call45 (by kernel_rfl)
theorem law_laws_eqInt64S : laws_eqInt64S_ok  con_laws_eqInt64S := laws_eqInt64S_law 
noncomputable def con_laws_sameFloat : Contract := gcC cnil laws_sameFloat true
theorem sim_laws_sameFloat : SimOk Try.prog 25 con_laws_sameFloat := simOk_gc mixed (ctab_nil _) true Try.func25 Try.call25 (by kernel_rfl)
theorem law_laws_sameFloat : laws_sameFloat_ok  con_laws_sameFloat := laws_sameFloat_law 
noncomputable def con_laws_eqFloat32S : Contract := gcC (cadd 25 con_laws_sameFloat cnil) (laws_eqFloat32S 25) true
theorem sim_laws_eqFloat32S : SimOk Try.prog 20 con_laws_eqFloat32S := simOk_gc mixed (ctab_add sim_laws_sameFloat (ctab_nil _)) true Try.func20 Try.call20 (by kernel_rfl)
theorem law_laws_eqFloat32S : laws_eqFloat32S_ok  con_laws_eqFloat32S := laws_eqFloat32S_law ⟨rfl, rfl, law_laws_sameFloat⟩
noncomputable def con_laws_eqSheet : Contract := gcC (cadd 20 con_laws_eqFloat32S cnil) (laws_eqSheet 20) true
theorem sim_laws_eqSheet : SimOk Try.prog 26 con_laws_eqSheet := simOk_gc mixed (ctab_add sim_laws_eqFloat32S (ctab_nil _)) true Try.func26 Try.call26 (by kernel_rfl)
theorem law_laws_eqSheet : laws_eqSheet_ok  con_laws_eqSheet := laws_eqSheet_law ⟨rfl, rfl, law_laws_eqFloat32S⟩
noncomputable def con_laws_markFloat32S : Contract := gcC cnil laws_markFloat32S false
theorem sim_laws_markFloat32S : SimOk Try.prog 37 con_laws_markFloat32S := simOk_gc mixed (ctab_nil _) false Try.func37 Try.call37 (by kernel_rfl)
theorem law_laws_markFloat32S : laws_markFloat32S_ok  con_laws_markFloat32S := laws_markFloat32S_law 
noncomputable def con_laws_markSheet : Contract := gcC (cadd 37 con_laws_markFloat32S cnil) (laws_markSheet 37) false
theorem sim_laws_markSheet : SimOk Try.prog 41 con_laws_markSheet := simOk_gc mixed (ctab_add sim_laws_markFloat32S (ctab_nil _)) false Try.func41 Try.call41 (by kernel_rfl)
theorem law_laws_markSheet : laws_markSheet_ok  con_laws_markSheet := laws_markSheet_law ⟨rfl, law_laws_markFloat32S⟩
noncomputable def con_laws_markInt64S : Contract := gcC cnil laws_markInt64S false
theorem sim_laws_markInt64S : SimOk Try.prog 46 con_laws_markInt64S := simOk_gc mixed (ctab_nil _) false Try.func46 Try.call46 (by kernel_rfl)
theorem law_laws_markInt64S : laws_markInt64S_ok  con_laws_markInt64S := laws_markInt64S_law 
noncomputable def con_laws_heldInt64S : Contract := gcC cnil laws_heldInt64S true
theorem sim_laws_heldInt64S : SimOk Try.prog 47 con_laws_heldInt64S := simOk_gc mixed (ctab_nil _) true Try.func47 Try.call47 (by kernel_rfl)
theorem law_laws_heldInt64S : laws_heldInt64S_ok  con_laws_heldInt64S := laws_heldInt64S_law 
noncomputable def con_laws_FnExactPaintedCells : Contract := gcC (cadd 21 con_laws_szSheet (cadd 23 con_laws_toSheet (cadd 15 con_laws_toPaint (cadd 43 con_spec_PaintedCells (cadd 44 con_impl_PaintedCells (cadd 45 con_laws_eqInt64S (cadd 26 con_laws_eqSheet (cadd 41 con_laws_markSheet (cadd 46 con_laws_markInt64S (cadd 47 con_laws_heldInt64S cnil)))))))))) (laws_FnExactPaintedCells 21 23 15 43 44 45 26 41 46 47) true
theorem sim_laws_FnExactPaintedCells : SimOk Try.prog 11 con_laws_FnExactPaintedCells := simOk_gc mixed (ctab_add sim_laws_szSheet (ctab_add sim_laws_toSheet (ctab_add sim_laws_toPaint (ctab_add sim_spec_PaintedCells (ctab_add sim_impl_PaintedCells (ctab_add sim_laws_eqInt64S (ctab_add sim_laws_eqSheet (ctab_add sim_laws_markSheet (ctab_add sim_laws_markInt64S (ctab_add sim_laws_heldInt64S (ctab_nil _))))))))))) true Try.func11 Try.call11 (by kernel_rfl)
theorem law_laws_FnExactPaintedCells : laws_FnExactPaintedCells_ok  con_laws_FnExactPaintedCells := laws_FnExactPaintedCells_law ⟨rfl, rfl, law_laws_szSheet⟩ ⟨rfl, rfl, law_laws_toSheet⟩ ⟨rfl, rfl, law_laws_toPaint⟩ ⟨rfl, rfl, law_spec_PaintedCells⟩ ⟨rfl, rfl, law_impl_PaintedCells⟩ ⟨rfl, rfl, law_laws_eqInt64S⟩ ⟨rfl, rfl, law_laws_eqSheet⟩ ⟨rfl, law_laws_markSheet⟩ ⟨rfl, law_laws_markInt64S⟩ ⟨rfl, rfl, law_laws_heldInt64S⟩
theorem lifted (os : Os) (started : os.Started) (H : Type) (enc : TypeId × Value → H) :
    ReturnsInHanded {} Try.checked os 11 .any (Rows.fnExactPaintedCellsSpec.pre6 enc Try.prog Try.f11 Rows.fnExactPaintedCellsRow.domain false) (Rows.fnExactPaintedCellsSpec.post enc Try.prog Try.f11 false true false false) := by
  refine returnsInHanded_of_change (C := Try.checked) own started (by kernel_rfl) Try.func11
    (ChangeSpec.witness6 (enc := enc) (C := Try.checked) false ⟨#[], #[.agg #[.int .i64 0, .int .i64 0, .bool false, .slice none 0 0, .slice none 0 0], .agg #[.float .f32 0, .float .f32 0]], []⟩ 8 (by kernel_rfl) (by kernel_rfl) (by kernel_rfl) (by kernel_rfl)) ?_
  intro W base args ds gs before hval hW _ _
  exact row_contract (P := Try.prog) (fn := Try.f11) (d := 8) (sh := [sheetK, paintK]) (n := 2) sim_laws_FnExactPaintedCells Try.call11 (by kernel_rfl) law_laws_FnExactPaintedCells laidOut (by kernel_rfl) rfl rfl (by kernel_rfl) (by kernel_rfl)
    (fun ds h => by match ds, h with | [_, _], _ => rfl) hval hW
theorem holds : Rows.FnExactPaintedCellsSaid :=
  OpenClaim.holds_of_wide 11 Try.f11 rfl rfl rfl rfl rfl rfl rfl ⟨rfl, rfl, rfl, rfl, rfl⟩ rfl rfl rfl rfl rfl (by kernel_rfl) Try.func11 (by kernel_rfl)
    (of_decide_eq_true (by kernel_rfl)) (by unfold Func.isWrapper; first | (rw [if_pos (by decide +kernel)]; kernel_rfl) | (rw [if_neg (by decide +kernel)]; exact ⟨rfl, rfl⟩))
    (fun os started H enc _ => lifted os started H enc)
end Go.Proofs.Ytnibmlgdnhiglaa.laws_FnExactPaintedCells
