/- The row FnExactPaintLens: it returns true whatever its arguments, and leaves them. No condition. -/
import Derived.Test.YtlfjplocffebmaaRows
import Derived.Test.YtlfjplocffebmaaExactPaintLensL25
import Derived.ProofKit
namespace Go.Proofs.Ytlfjplocffebmaa.laws_FnExactPaintLens
open Go.Abs Go.ChangeShapes Go.WideShapes Go.ChangeAt Go.RowKit
set_option maxRecDepth 100000
theorem own : ownKnob Try.prog.godebug = none := by kernel_rfl
theorem laidOut : laidOutB Try.prog = true := by kernel_rfl
theorem mixed : Try.prog.follows .mixedOrders = true := by kernel_rfl
noncomputable def con_laws_szFloat32S : Contract := gcC cnil laws_szFloat32S true
theorem sim_laws_szFloat32S : SimOk Try.prog 56 con_laws_szFloat32S := simOk_gc mixed (ctab_nil _) true Try.func56 Try.call56 (by kernel_rfl)
theorem law_laws_szFloat32S : laws_szFloat32S_ok  con_laws_szFloat32S := laws_szFloat32S_law 
noncomputable def con_laws_szSheet : Contract := gcC (cadd 56 con_laws_szFloat32S cnil) (laws_szSheet 56) true
theorem sim_laws_szSheet : SimOk Try.prog 13 con_laws_szSheet := simOk_gc mixed (ctab_add sim_laws_szFloat32S (ctab_nil _)) true Try.func13 Try.call13 (by kernel_rfl)
theorem law_laws_szSheet : laws_szSheet_ok  con_laws_szSheet := laws_szSheet_law ⟨rfl, rfl, law_laws_szFloat32S⟩
noncomputable def con_laws_toFloat32S : Contract := gcC cnil laws_toFloat32S true
theorem sim_laws_toFloat32S : SimOk Try.prog 61 con_laws_toFloat32S := simOk_gc mixed (ctab_nil _) true Try.func61 Try.call61 (by kernel_rfl)
theorem law_laws_toFloat32S : laws_toFloat32S_ok  con_laws_toFloat32S := laws_toFloat32S_law 
noncomputable def con_laws_toSheet : Contract := gcC (cadd 61 con_laws_toFloat32S cnil) (laws_toSheet 61) true
theorem sim_laws_toSheet : SimOk Try.prog 15 con_laws_toSheet := simOk_gc mixed (ctab_add sim_laws_toFloat32S (ctab_nil _)) true Try.func15 Try.call15 (by kernel_rfl)
theorem law_laws_toSheet : laws_toSheet_ok  con_laws_toSheet := laws_toSheet_law ⟨rfl, rfl, law_laws_toFloat32S⟩
noncomputable def con_laws_toPaint : Contract := gcC cnil laws_toPaint true
theorem sim_laws_toPaint : SimOk Try.prog 16 con_laws_toPaint := simOk_gc mixed (ctab_nil _) true Try.func16 Try.call16 (by kernel_rfl)
theorem law_laws_toPaint : laws_toPaint_ok  con_laws_toPaint := laws_toPaint_law 
noncomputable def con_spec_l00In : Contract := gcC cnil spec_l00In true
theorem sim_spec_l00In : SimOk Try.prog 121 con_spec_l00In := simOk_gc mixed (ctab_nil _) true Try.func121 Try.call121 (by kernel_rfl)
theorem law_spec_l00In : spec_l00In_ok  con_spec_l00In := spec_l00In_law 
noncomputable def con_spec_l02Sides : Contract := gcC (cadd 121 con_spec_l00In cnil) (spec_l02Sides 121) true
theorem sim_spec_l02Sides : SimOk Try.prog 120 con_spec_l02Sides := simOk_gc mixed (ctab_add sim_spec_l00In (ctab_nil _)) true Try.func120 Try.call120 (by kernel_rfl)
theorem law_spec_l02Sides : spec_l02Sides_ok  con_spec_l02Sides := spec_l02Sides_law ⟨rfl, rfl, law_spec_l00In⟩
noncomputable def con_spec_l02Is : Contract := gcC (cadd 120 con_spec_l02Sides cnil) (spec_l02Is 120) true
theorem sim_spec_l02Is : SimOk Try.prog 57 con_spec_l02Is := simOk_gc mixed (ctab_add sim_spec_l02Sides (ctab_nil _)) true Try.func57 Try.call57 (by kernel_rfl)
theorem law_spec_l02Is : spec_l02Is_ok  con_spec_l02Is := spec_l02Is_law ⟨rfl, rfl, law_spec_l02Sides⟩
noncomputable def con_spec_l09Near : Contract := gcC (cadd 121 con_spec_l00In cnil) (spec_l09Near 121) true
theorem sim_spec_l09Near : SimOk Try.prog 68 con_spec_l09Near := simOk_gc mixed (ctab_add sim_spec_l00In (ctab_nil _)) true Try.func68 Try.call68 (by kernel_rfl)
theorem law_spec_l09Near : spec_l09Near_ok  con_spec_l09Near := spec_l09Near_law ⟨rfl, rfl, law_spec_l00In⟩
noncomputable def con_spec_l09Small : Contract := gcC (cadd 121 con_spec_l00In cnil) (spec_l09Small 121) true
theorem sim_spec_l09Small : SimOk Try.prog 58 con_spec_l09Small := simOk_gc mixed (ctab_add sim_spec_l00In (ctab_nil _)) true Try.func58 Try.call58 (by kernel_rfl)
theorem law_spec_l09Small : spec_l09Small_ok  con_spec_l09Small := spec_l09Small_law ⟨rfl, rfl, law_spec_l00In⟩
noncomputable def con_spec_l05Share : Contract := gcC cnil spec_l05Share true
theorem sim_spec_l05Share : SimOk Try.prog 122 con_spec_l05Share := simOk_gc mixed (ctab_nil _) true Try.func122 Try.call122 (by kernel_rfl)
theorem law_spec_l05Share : spec_l05Share_ok  con_spec_l05Share := spec_l05Share_law 
noncomputable def con_spec_l09Is : Contract := gcC (cadd 122 con_spec_l05Share cnil) (spec_l09Is 122) true
theorem sim_spec_l09Is : SimOk Try.prog 59 con_spec_l09Is := simOk_gc mixed (ctab_add sim_spec_l05Share (ctab_nil _)) true Try.func59 Try.call59 (by kernel_rfl)
theorem law_spec_l09Is : spec_l09Is_ok  con_spec_l09Is := spec_l09Is_law ⟨rfl, rfl, law_spec_l05Share⟩
noncomputable def con_spec_l09Square : Contract := gcC cnil spec_l09Square true
theorem sim_spec_l09Square : SimOk Try.prog 69 con_spec_l09Square := simOk_gc mixed (ctab_nil _) true Try.func69 Try.call69 (by kernel_rfl)
theorem law_spec_l09Square : spec_l09Square_ok  con_spec_l09Square := spec_l09Square_law 
noncomputable def con_spec_l05Own : Contract := gcC cnil spec_l05Own true
theorem sim_spec_l05Own : SimOk Try.prog 123 con_spec_l05Own := simOk_gc mixed (ctab_nil _) true Try.func123 Try.call123 (by kernel_rfl)
theorem law_spec_l05Own : spec_l05Own_ok  con_spec_l05Own := spec_l05Own_law 
noncomputable def con_spec_l09Cells : Contract := gcC (cadd 123 con_spec_l05Own cnil) (spec_l09Cells 123) true
theorem sim_spec_l09Cells : SimOk Try.prog 60 con_spec_l09Cells := simOk_gc mixed (ctab_add sim_spec_l05Own (ctab_nil _)) true Try.func60 Try.call60 (by kernel_rfl)
theorem law_spec_l09Cells : spec_l09Cells_ok  con_spec_l09Cells := spec_l09Cells_law ⟨rfl, rfl, law_spec_l05Own⟩
noncomputable def con_spec_PaintLens : Contract := gcC (cadd 57 con_spec_l02Is (cadd 68 con_spec_l09Near (cadd 58 con_spec_l09Small (cadd 59 con_spec_l09Is (cadd 69 con_spec_l09Square (cadd 60 con_spec_l09Cells cnil)))))) (spec_PaintLens 57 68 58 59 69 60) true
theorem sim_spec_PaintLens : SimOk Try.prog 23 con_spec_PaintLens := simOk_gc mixed (ctab_add sim_spec_l02Is (ctab_add sim_spec_l09Near (ctab_add sim_spec_l09Small (ctab_add sim_spec_l09Is (ctab_add sim_spec_l09Square (ctab_add sim_spec_l09Cells (ctab_nil _))))))) true Try.func23 Try.call23 (by kernel_rfl)
theorem law_spec_PaintLens : spec_PaintLens_ok  con_spec_PaintLens := spec_PaintLens_law ⟨rfl, rfl, law_spec_l02Is⟩ ⟨rfl, rfl, law_spec_l09Near⟩ ⟨rfl, rfl, law_spec_l09Small⟩ ⟨rfl, rfl, law_spec_l09Is⟩ ⟨rfl, rfl, law_spec_l09Square⟩ ⟨rfl, rfl, law_spec_l09Cells⟩
noncomputable def con_impl_within : Contract := gcC cnil impl_within true
theorem sim_impl_within : SimOk Try.prog 75 con_impl_within := simOk_gc mixed (ctab_nil _) true Try.func75 Try.call75 (by kernel_rfl)
theorem law_impl_within : impl_within_ok  con_impl_within := impl_within_law 
noncomputable def con_impl_areCoordinates : Contract := gcC (cadd 75 con_impl_within cnil) (impl_areCoordinates 75) true
theorem sim_impl_areCoordinates : SimOk Try.prog 70 con_impl_areCoordinates := simOk_gc mixed (ctab_add sim_impl_within (ctab_nil _)) true Try.func70 Try.call70 (by kernel_rfl)
theorem law_impl_areCoordinates : impl_areCoordinates_ok  con_impl_areCoordinates := impl_areCoordinates_law ⟨rfl, rfl, law_impl_within⟩
noncomputable def con_impl_areOther : Contract := gcC (cadd 75 con_impl_within cnil) (impl_areOther 75) true
theorem sim_impl_areOther : SimOk Try.prog 62 con_impl_areOther := simOk_gc mixed (ctab_add sim_impl_within (ctab_nil _)) true Try.func62 Try.call62 (by kernel_rfl)
theorem law_impl_areOther : impl_areOther_ok  con_impl_areOther := impl_areOther_law ⟨rfl, rfl, law_impl_within⟩
noncomputable def con_impl_squareToC1 : Contract := gcC cnil impl_squareToC1 true
theorem sim_impl_squareToC1 : SimOk Try.prog 128 con_impl_squareToC1 := simOk_gc mixed (ctab_nil _) true Try.func128 Try.call128 (by kernel_rfl)
theorem law_impl_squareToC1 : impl_squareToC1_ok  con_impl_squareToC1 := impl_squareToC1_law 
noncomputable def con_impl_squareTo : Contract := bodyC (cadd 128 con_impl_squareToC1 cnil) (impl_squareTo 128) true
theorem sim_impl_squareTo : SimOk Try.prog 71 con_impl_squareTo := simOk_body mixed (ctab_add sim_impl_squareToC1 (ctab_nil _)) true Try.func71 Try.call71 (by kernel_rfl)
theorem law_impl_squareTo : impl_squareTo_ok 128 con_impl_squareTo := impl_squareTo_law 
noncomputable def con_impl_PaintLensC1 : Contract := gcC (cadd 128 con_impl_squareToC1 cnil) impl_PaintLensC1 true
theorem sim_impl_PaintLensC1 : SimOk Try.prog 73 con_impl_PaintLensC1 := simOk_gc mixed (ctab_add sim_impl_squareToC1 (ctab_nil _)) true Try.func73 Try.call73 (by kernel_rfl)
theorem law_impl_PaintLensC1 : impl_PaintLensC1_ok 128 con_impl_PaintLensC1 := impl_PaintLensC1_law (allq_add rfl allq_nil)  rfl law_impl_squareToC1
noncomputable def con_impl_areBetween : Contract := gcC cnil impl_areBetween true
theorem sim_impl_areBetween : SimOk Try.prog 129 con_impl_areBetween := simOk_gc mixed (ctab_nil _) true Try.func129 Try.call129 (by kernel_rfl)
theorem law_impl_areBetween : impl_areBetween_ok  con_impl_areBetween := impl_areBetween_law 
noncomputable def con_impl_ValidSheet : Contract := gcC (cadd 75 con_impl_within (cadd 129 con_impl_areBetween cnil)) (impl_ValidSheet 75 129) true
theorem sim_impl_ValidSheet : SimOk Try.prog 79 con_impl_ValidSheet := simOk_gc mixed (ctab_add sim_impl_within (ctab_add sim_impl_areBetween (ctab_nil _))) true Try.func79 Try.call79 (by kernel_rfl)
theorem law_impl_ValidSheet : impl_ValidSheet_ok  con_impl_ValidSheet := impl_ValidSheet_law ⟨rfl, rfl, law_impl_within⟩ ⟨rfl, rfl, law_impl_areBetween⟩
noncomputable def con_impl_isShare : Contract := gcC cnil impl_isShare true
theorem sim_impl_isShare : SimOk Try.prog 152 con_impl_isShare := simOk_gc mixed (ctab_nil _) true Try.func152 Try.call152 (by kernel_rfl)
theorem law_impl_isShare : impl_isShare_ok  con_impl_isShare := impl_isShare_law 
noncomputable def con_impl_IsPaint : Contract := gcC (cadd 152 con_impl_isShare cnil) (impl_IsPaint 152) true
theorem sim_impl_IsPaint : SimOk Try.prog 124 con_impl_IsPaint := simOk_gc mixed (ctab_add sim_impl_isShare (ctab_nil _)) true Try.func124 Try.call124 (by kernel_rfl)
theorem law_impl_IsPaint : impl_IsPaint_ok  con_impl_IsPaint := impl_IsPaint_law ⟨rfl, rfl, law_impl_isShare⟩
noncomputable def con_impl_copyOf : Contract := gcC cnil impl_copyOf true
theorem sim_impl_copyOf : SimOk Try.prog 139 con_impl_copyOf := simOk_gc mixed (ctab_nil _) true Try.func139 Try.call139 (by kernel_rfl)
theorem law_impl_copyOf : impl_copyOf_ok  con_impl_copyOf := impl_copyOf_law 
noncomputable def con_impl_copySheet : Contract := gcC (cadd 139 con_impl_copyOf cnil) (impl_copySheet 139) true
theorem sim_impl_copySheet : SimOk Try.prog 125 con_impl_copySheet := simOk_gc mixed (ctab_add sim_impl_copyOf (ctab_nil _)) true Try.func125 Try.call125 (by kernel_rfl)
theorem law_impl_copySheet : impl_copySheet_ok  con_impl_copySheet := impl_copySheet_law ⟨rfl, rfl, law_impl_copyOf⟩
noncomputable def con_impl_Sheet_at : Contract := gcC cnil impl_Sheet_at true
theorem sim_impl_Sheet_at : SimOk Try.prog 149 con_impl_Sheet_at := simOk_gc mixed (ctab_nil _) true Try.func149 Try.call149 (by kernel_rfl)
theorem law_impl_Sheet_at : impl_Sheet_at_ok  con_impl_Sheet_at := impl_Sheet_at_law 
noncomputable def con_impl_paintedC1__impl_PaintLens : Contract := gcC (cadd 73 con_impl_PaintLensC1 cnil) impl_paintedC1 false
theorem sim_impl_paintedC1__impl_PaintLens : SimOk Try.prog 126 con_impl_paintedC1__impl_PaintLens := simOk_gc mixed (ctab_add sim_impl_PaintLensC1 (ctab_nil _)) false Try.func126 Try.call126 (by kernel_rfl)
theorem law_impl_paintedC1__impl_PaintLens : impl_paintedC1_ok 73 con_impl_PaintLensC1 con_impl_paintedC1__impl_PaintLens := impl_paintedC1_law rfl
noncomputable def con_impl_Sheet_each__impl_PaintLens : Contract := gcC (cadd 149 con_impl_Sheet_at (cadd 126 con_impl_paintedC1__impl_PaintLens cnil)) (impl_Sheet_each 149) false
theorem sim_impl_Sheet_each__impl_PaintLens : SimOk Try.prog 113 con_impl_Sheet_each__impl_PaintLens := simOk_gc mixed (ctab_add sim_impl_Sheet_at (ctab_add sim_impl_paintedC1__impl_PaintLens (ctab_nil _))) false Try.func113 Try.call113 (by kernel_rfl)
theorem law_impl_Sheet_each__impl_PaintLens : impl_Sheet_each_ok 126 con_impl_paintedC1__impl_PaintLens con_impl_Sheet_each__impl_PaintLens := impl_Sheet_each_law ⟨rfl, rfl, law_impl_Sheet_at⟩ rfl
noncomputable def con_impl_painted__impl_PaintLens : Contract := gcC (cadd 79 con_impl_ValidSheet (cadd 124 con_impl_IsPaint (cadd 125 con_impl_copySheet (cadd 126 con_impl_paintedC1__impl_PaintLens (cadd 113 con_impl_Sheet_each__impl_PaintLens cnil))))) (impl_painted 79 124 125 126 113) true
theorem sim_impl_painted__impl_PaintLens : SimOk Try.prog 63 con_impl_painted__impl_PaintLens := simOk_gc mixed (ctab_add sim_impl_ValidSheet (ctab_add sim_impl_IsPaint (ctab_add sim_impl_copySheet (ctab_add sim_impl_paintedC1__impl_PaintLens (ctab_add sim_impl_Sheet_each__impl_PaintLens (ctab_nil _)))))) true Try.func63 Try.call63 (by kernel_rfl)
theorem law_impl_painted__impl_PaintLens : impl_painted_ok 73 con_impl_PaintLensC1 con_impl_painted__impl_PaintLens := impl_painted_law ⟨rfl, rfl, law_impl_ValidSheet⟩ ⟨rfl, rfl, law_impl_IsPaint⟩ ⟨rfl, rfl, law_impl_copySheet⟩ law_impl_paintedC1__impl_PaintLens ⟨rfl, law_impl_Sheet_each__impl_PaintLens⟩
noncomputable def con_impl_PaintLens : Contract := gcC (cadd 70 con_impl_areCoordinates (cadd 62 con_impl_areOther (cadd 71 con_impl_squareTo (cadd 73 con_impl_PaintLensC1 (cadd 63 con_impl_painted__impl_PaintLens cnil))))) (impl_PaintLens 70 62 71 73 63) true
theorem sim_impl_PaintLens : SimOk Try.prog 24 con_impl_PaintLens := simOk_gc mixed (ctab_add sim_impl_areCoordinates (ctab_add sim_impl_areOther (ctab_add sim_impl_squareTo (ctab_add sim_impl_PaintLensC1 (ctab_add sim_impl_painted__impl_PaintLens (ctab_nil _)))))) true Try.func24 Try.call24 (by kernel_rfl)
theorem law_impl_PaintLens : impl_PaintLens_ok  con_impl_PaintLens := impl_PaintLens_law ⟨rfl, rfl, law_impl_areCoordinates⟩ ⟨rfl, rfl, law_impl_areOther⟩ ⟨rfl, rfl, law_impl_squareTo⟩ law_impl_PaintLensC1 ⟨rfl, rfl, law_impl_painted__impl_PaintLens⟩
noncomputable def con_laws_sameFloat : Contract := gcC cnil laws_sameFloat true
theorem sim_laws_sameFloat : SimOk Try.prog 127 con_laws_sameFloat := simOk_gc mixed (ctab_nil _) true Try.func127 Try.call127 (by kernel_rfl)
theorem law_laws_sameFloat : laws_sameFloat_ok  con_laws_sameFloat := laws_sameFloat_law 
noncomputable def con_laws_eqFloat32S : Contract := gcC (cadd 127 con_laws_sameFloat cnil) (laws_eqFloat32S 127) true
theorem sim_laws_eqFloat32S : SimOk Try.prog 65 con_laws_eqFloat32S := simOk_gc mixed (ctab_add sim_laws_sameFloat (ctab_nil _)) true Try.func65 Try.call65 (by kernel_rfl)
theorem law_laws_eqFloat32S : laws_eqFloat32S_ok  con_laws_eqFloat32S := laws_eqFloat32S_law ⟨rfl, rfl, law_laws_sameFloat⟩
noncomputable def con_laws_eqSheet : Contract := gcC (cadd 65 con_laws_eqFloat32S cnil) (laws_eqSheet 65) true
theorem sim_laws_eqSheet : SimOk Try.prog 18 con_laws_eqSheet := simOk_gc mixed (ctab_add sim_laws_eqFloat32S (ctab_nil _)) true Try.func18 Try.call18 (by kernel_rfl)
theorem law_laws_eqSheet : laws_eqSheet_ok  con_laws_eqSheet := laws_eqSheet_law ⟨rfl, rfl, law_laws_eqFloat32S⟩
noncomputable def con_laws_markFloat32S : Contract := gcC cnil laws_markFloat32S false
theorem sim_laws_markFloat32S : SimOk Try.prog 66 con_laws_markFloat32S := simOk_gc mixed (ctab_nil _) false Try.func66 Try.call66 (by kernel_rfl)
theorem law_laws_markFloat32S : laws_markFloat32S_ok  con_laws_markFloat32S := laws_markFloat32S_law 
noncomputable def con_laws_markSheet : Contract := gcC (cadd 66 con_laws_markFloat32S cnil) (laws_markSheet 66) false
theorem sim_laws_markSheet : SimOk Try.prog 19 con_laws_markSheet := simOk_gc mixed (ctab_add sim_laws_markFloat32S (ctab_nil _)) false Try.func19 Try.call19 (by kernel_rfl)
theorem law_laws_markSheet : laws_markSheet_ok  con_laws_markSheet := laws_markSheet_law ⟨rfl, law_laws_markFloat32S⟩
noncomputable def con_laws_heldFloat32S : Contract := gcC cnil laws_heldFloat32S true
theorem sim_laws_heldFloat32S : SimOk Try.prog 67 con_laws_heldFloat32S := simOk_gc mixed (ctab_nil _) true Try.func67 Try.call67 (by kernel_rfl)
theorem law_laws_heldFloat32S : laws_heldFloat32S_ok  con_laws_heldFloat32S := laws_heldFloat32S_law 
noncomputable def con_laws_heldSheet : Contract := gcC (cadd 67 con_laws_heldFloat32S cnil) (laws_heldSheet 67) true
theorem sim_laws_heldSheet : SimOk Try.prog 20 con_laws_heldSheet := simOk_gc mixed (ctab_add sim_laws_heldFloat32S (ctab_nil _)) true Try.func20 Try.call20 (by kernel_rfl)
theorem law_laws_heldSheet : laws_heldSheet_ok  con_laws_heldSheet := laws_heldSheet_law ⟨rfl, rfl, law_laws_heldFloat32S⟩
noncomputable def con_laws_FnExactPaintLens : Contract := gcC (cadd 13 con_laws_szSheet (cadd 15 con_laws_toSheet (cadd 16 con_laws_toPaint (cadd 23 con_spec_PaintLens (cadd 24 con_impl_PaintLens (cadd 18 con_laws_eqSheet (cadd 19 con_laws_markSheet (cadd 20 con_laws_heldSheet cnil)))))))) (laws_FnExactPaintLens 13 15 16 23 24 18 19 20) true
theorem sim_laws_FnExactPaintLens : SimOk Try.prog 5 con_laws_FnExactPaintLens := simOk_gc mixed (ctab_add sim_laws_szSheet (ctab_add sim_laws_toSheet (ctab_add sim_laws_toPaint (ctab_add sim_spec_PaintLens (ctab_add sim_impl_PaintLens (ctab_add sim_laws_eqSheet (ctab_add sim_laws_markSheet (ctab_add sim_laws_heldSheet (ctab_nil _))))))))) true Try.func5 Try.call5 (by kernel_rfl)
theorem law_laws_FnExactPaintLens : laws_FnExactPaintLens_ok  con_laws_FnExactPaintLens := laws_FnExactPaintLens_law ⟨rfl, rfl, law_laws_szSheet⟩ ⟨rfl, rfl, law_laws_toSheet⟩ ⟨rfl, rfl, law_laws_toPaint⟩ ⟨rfl, rfl, law_spec_PaintLens⟩ ⟨rfl, rfl, law_impl_PaintLens⟩ ⟨rfl, rfl, law_laws_eqSheet⟩ ⟨rfl, law_laws_markSheet⟩ ⟨rfl, rfl, law_laws_heldSheet⟩
theorem lifted (os : Os) (started : os.Started) (H : Type) (enc : TypeId × Value → H) :
    ReturnsInHanded {} Try.checked os 5 .any (Rows.fnExactPaintLensSpec.pre6 enc Try.prog Try.f5 Rows.fnExactPaintLensRow.domain false) (Rows.fnExactPaintLensSpec.post enc Try.prog Try.f5 false true false false) := by
  refine returnsInHanded_of_change (C := Try.checked) own started (by kernel_rfl) Try.func5
    (ChangeSpec.witness6 (enc := enc) (C := Try.checked) false ⟨#[], #[.agg #[.int .i64 0, .int .i64 0, .bool false, .slice none 0 0, .slice none 0 0], .int .i64 0, .int .i64 0, .int .i64 0, .int .i64 0, .int .i64 0, .agg #[.float .f32 0, .float .f32 0]], []⟩ 8 (by kernel_rfl) (by kernel_rfl) (by kernel_rfl) (by kernel_rfl)) ?_
  intro W base args ds gs before hval hW _ _
  exact row_contract (P := Try.prog) (fn := Try.f5) (d := 8) (sh := [sheetK, intK, intK, intK, intK, intK, paintK]) (n := 7) sim_laws_FnExactPaintLens Try.call5 (by kernel_rfl) law_laws_FnExactPaintLens laidOut (by kernel_rfl) rfl rfl (by kernel_rfl) (by kernel_rfl)
    (fun ds h => by match ds, h with | [_, _, _, _, _, _, _], _ => rfl) hval hW
theorem holds : Rows.FnExactPaintLensSaid :=
  OpenClaim.holds_of_wide 5 Try.f5 rfl rfl rfl rfl rfl rfl rfl ⟨rfl, rfl, rfl, rfl, rfl⟩ rfl rfl rfl rfl rfl (by kernel_rfl) Try.func5 (by kernel_rfl)
    (of_decide_eq_true (by kernel_rfl)) (by unfold Func.isWrapper; first | (rw [if_pos (by decide +kernel)]; kernel_rfl) | (rw [if_neg (by decide +kernel)]; exact ⟨rfl, rfl⟩))
    (fun os started H enc _ => lifted os started H enc)
end Go.Proofs.Ytlfjplocffebmaa.laws_FnExactPaintLens
