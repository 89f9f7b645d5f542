/- The row FnChanges: it returns true whatever its arguments, and leaves them. No condition. -/
import Derived.Test.YtogekdhkcndbdaaRows
import Derived.Test.YtogekdhkcndbdaaChangesL49
import Derived.ProofKit
namespace Go.Proofs.Ytogekdhkcndbdaa.laws_FnChanges
open Go.Abs Go.ChangeShapes Go.WideShapes Go.ChangeAt Go.RowKit
set_option maxRecDepth 100000
theorem own : ownKnob Try.prog.godebug = none := by kernel_rfl
theorem laidOut : laidOutB Try.prog = true := by kernel_rfl
theorem mixed : Try.prog.follows .mixedOrders = true := by kernel_rfl
noncomputable def con_laws_r8Long : Contract := gcC cnil laws_r8Long true
theorem sim_laws_r8Long : SimOk Try.prog 7 con_laws_r8Long := simOk_gc mixed (ctab_nil _) true Try.func7 Try.call7 (by kernel_rfl)
theorem law_laws_r8Long : laws_r8Long_ok  con_laws_r8Long := laws_r8Long_law 
noncomputable def con_laws_r8At : Contract := gcC cnil laws_r8At true
theorem sim_laws_r8At : SimOk Try.prog 8 con_laws_r8At := simOk_gc mixed (ctab_nil _) true Try.func8 Try.call8 (by kernel_rfl)
theorem law_laws_r8At : laws_r8At_ok  con_laws_r8At := laws_r8At_law 
noncomputable def con_spec_l00From : Contract := bodyC cnil spec_l00From true
theorem sim_spec_l00From : SimOk Try.prog 25 con_spec_l00From := simOk_body mixed (ctab_nil _) true Try.func25 Try.call25 (by kernel_rfl)
theorem law_spec_l00From : spec_l00From_ok  con_spec_l00From := spec_l00From_law 
noncomputable def con_spec_l00Src_next : Contract := bodyC cnil spec_l00Src_next false
theorem sim_spec_l00Src_next : SimOk Try.prog 82 con_spec_l00Src_next := simOk_body mixed (ctab_nil _) false Try.func82 Try.call82 (by kernel_rfl)
theorem law_spec_l00Src_next : spec_l00Src_next_ok  con_spec_l00Src_next := spec_l00Src_next_law 
noncomputable def con_spec_l00Src_pick : Contract := bodyC (cadd 82 con_spec_l00Src_next cnil) (spec_l00Src_pick 82) false
theorem sim_spec_l00Src_pick : SimOk Try.prog 74 con_spec_l00Src_pick := simOk_body mixed (ctab_add sim_spec_l00Src_next (ctab_nil _)) false Try.func74 Try.call74 (by kernel_rfl)
theorem law_spec_l00Src_pick : spec_l00Src_pick_ok  con_spec_l00Src_pick := spec_l00Src_pick_law ⟨rfl, law_spec_l00Src_next⟩
noncomputable def con_spec_l00Src_one : Contract := bodyC (cadd 74 con_spec_l00Src_pick cnil) (spec_l00Src_one 74) false
theorem sim_spec_l00Src_one : SimOk Try.prog 52 con_spec_l00Src_one := simOk_body mixed (ctab_add sim_spec_l00Src_pick (ctab_nil _)) false Try.func52 Try.call52 (by kernel_rfl)
theorem law_spec_l00Src_one : spec_l00Src_one_ok  con_spec_l00Src_one := spec_l00Src_one_law ⟨rfl, law_spec_l00Src_pick⟩
noncomputable def con_spec_l01DrawPlain : Contract := bodyC (cadd 74 con_spec_l00Src_pick (cadd 52 con_spec_l00Src_one cnil)) (spec_l01DrawPlain 74 52) false
theorem sim_spec_l01DrawPlain : SimOk Try.prog 54 con_spec_l01DrawPlain := simOk_body mixed (ctab_add sim_spec_l00Src_pick (ctab_add sim_spec_l00Src_one (ctab_nil _))) false Try.func54 Try.call54 (by kernel_rfl)
theorem law_spec_l01DrawPlain : spec_l01DrawPlain_ok  con_spec_l01DrawPlain := spec_l01DrawPlain_law ⟨rfl, law_spec_l00Src_pick⟩ ⟨rfl, law_spec_l00Src_one⟩
noncomputable def con_spec_l00Src_among : Contract := bodyC (cadd 74 con_spec_l00Src_pick cnil) (spec_l00Src_among 74) false
theorem sim_spec_l00Src_among : SimOk Try.prog 76 con_spec_l00Src_among := simOk_body mixed (ctab_add sim_spec_l00Src_pick (ctab_nil _)) false Try.func76 Try.call76 (by kernel_rfl)
theorem law_spec_l00Src_among : spec_l00Src_among_ok  con_spec_l00Src_among := spec_l00Src_among_law ⟨rfl, law_spec_l00Src_pick⟩
noncomputable def con_math_Float32frombits : Contract := pureC gFrom32
theorem sim_math_Float32frombits : SimOk Try.prog 57 con_math_Float32frombits := sim_from32 (run_callFunc_extern Try.func57 (by kernel_rfl) (by kernel_rfl) (by kernel_rfl) (by kernel_rfl))
theorem law_math_Float32frombits : math_Float32frombits_ok con_math_Float32frombits := math_Float32frombits_law
noncomputable def con_spec_l01From : Contract := gcC (cadd 57 con_math_Float32frombits cnil) (spec_l01From 57) true
theorem sim_spec_l01From : SimOk Try.prog 75 con_spec_l01From := simOk_gc mixed (ctab_add sim_math_Float32frombits (ctab_nil _)) true Try.func75 Try.call75 (by kernel_rfl)
theorem law_spec_l01From : spec_l01From_ok  con_spec_l01From := spec_l01From_law ⟨rfl, rfl, law_math_Float32frombits⟩
noncomputable def con_spec_l01DrawFloat : Contract := bodyC (cadd 52 con_spec_l00Src_one (cadd 54 con_spec_l01DrawPlain (cadd 74 con_spec_l00Src_pick (cadd 76 con_spec_l00Src_among (cadd 75 con_spec_l01From cnil))))) (spec_l01DrawFloat 52 54 74 76 75) false
theorem sim_spec_l01DrawFloat : SimOk Try.prog 53 con_spec_l01DrawFloat := simOk_body mixed (ctab_add sim_spec_l00Src_one (ctab_add sim_spec_l01DrawPlain (ctab_add sim_spec_l00Src_pick (ctab_add sim_spec_l00Src_among (ctab_add sim_spec_l01From (ctab_nil _)))))) false Try.func53 Try.call53 (by kernel_rfl)
theorem law_spec_l01DrawFloat : spec_l01DrawFloat_ok  con_spec_l01DrawFloat := spec_l01DrawFloat_law ⟨rfl, law_spec_l00Src_one⟩ ⟨rfl, law_spec_l01DrawPlain⟩ ⟨rfl, law_spec_l00Src_pick⟩ ⟨rfl, law_spec_l00Src_among⟩ ⟨rfl, rfl, law_spec_l01From⟩
noncomputable def con_spec_l01DrawFloats : Contract := bodyC (cadd 52 con_spec_l00Src_one (cadd 53 con_spec_l01DrawFloat (cadd 54 con_spec_l01DrawPlain cnil))) (spec_l01DrawFloats 52 53 54) false
theorem sim_spec_l01DrawFloats : SimOk Try.prog 26 con_spec_l01DrawFloats := simOk_body mixed (ctab_add sim_spec_l00Src_one (ctab_add sim_spec_l01DrawFloat (ctab_add sim_spec_l01DrawPlain (ctab_nil _)))) false Try.func26 Try.call26 (by kernel_rfl)
theorem law_spec_l01DrawFloats : spec_l01DrawFloats_ok  con_spec_l01DrawFloats := spec_l01DrawFloats_law ⟨rfl, law_spec_l00Src_one⟩ ⟨rfl, law_spec_l01DrawFloat⟩ ⟨rfl, law_spec_l01DrawPlain⟩
noncomputable def con_spec_R8Numbers : Contract := gcC (cadd 25 con_spec_l00From (cadd 26 con_spec_l01DrawFloats cnil)) (spec_R8Numbers 25 26) true
theorem sim_spec_R8Numbers : SimOk Try.prog 9 con_spec_R8Numbers := simOk_gc mixed (ctab_add sim_spec_l00From (ctab_add sim_spec_l01DrawFloats (ctab_nil _))) true Try.func9 Try.call9 (by kernel_rfl)
theorem law_spec_R8Numbers : spec_R8Numbers_ok  con_spec_R8Numbers := spec_R8Numbers_law ⟨rfl, rfl, law_spec_l00From⟩ ⟨rfl, law_spec_l01DrawFloats⟩
noncomputable def con_impl_isChangeable : Contract := gcC cnil impl_isChangeable true
theorem sim_impl_isChangeable : SimOk Try.prog 27 con_impl_isChangeable := simOk_gc mixed (ctab_nil _) true Try.func27 Try.call27 (by kernel_rfl)
theorem law_impl_isChangeable : impl_isChangeable_ok  con_impl_isChangeable := impl_isChangeable_law 
noncomputable def con_math_Float32bits : Contract := pureC gBits32
theorem sim_math_Float32bits : SimOk Try.prog 58 con_math_Float32bits := sim_bits32 (run_callFunc_extern Try.func58 (by kernel_rfl) (by kernel_rfl) (by kernel_rfl) (by kernel_rfl))
theorem law_math_Float32bits : math_Float32bits_ok con_math_Float32bits := math_Float32bits_law
noncomputable def con_impl_BitsOf : Contract := gcC (cadd 58 con_math_Float32bits cnil) (impl_BitsOf 58) true
theorem sim_impl_BitsOf : SimOk Try.prog 30 con_impl_BitsOf := simOk_gc mixed (ctab_add sim_math_Float32bits (ctab_nil _)) true Try.func30 Try.call30 (by kernel_rfl)
theorem law_impl_BitsOf : impl_BitsOf_ok  con_impl_BitsOf := impl_BitsOf_law ⟨rfl, rfl, law_math_Float32bits⟩
noncomputable def con_impl_lowBytes : Contract := gcC cnil impl_lowBytes true
theorem sim_impl_lowBytes : SimOk Try.prog 55 con_impl_lowBytes := simOk_gc mixed (ctab_nil _) true Try.func55 Try.call55 (by kernel_rfl)
theorem law_impl_lowBytes : impl_lowBytes_ok  con_impl_lowBytes := impl_lowBytes_law 
noncomputable def con_impl_changeBytes : Contract := gcC (cadd 30 con_impl_BitsOf (cadd 55 con_impl_lowBytes cnil)) (impl_changeBytes 30 55) true
theorem sim_impl_changeBytes : SimOk Try.prog 28 con_impl_changeBytes := simOk_gc mixed (ctab_add sim_impl_BitsOf (ctab_add sim_impl_lowBytes (ctab_nil _))) true Try.func28 Try.call28 (by kernel_rfl)
theorem law_impl_changeBytes : impl_changeBytes_ok  con_impl_changeBytes := impl_changeBytes_law ⟨rfl, rfl, law_impl_BitsOf⟩ ⟨rfl, rfl, law_impl_lowBytes⟩
noncomputable def con_impl_ChangeBytes : Contract := gcC (cadd 27 con_impl_isChangeable (cadd 28 con_impl_changeBytes cnil)) (impl_ChangeBytes 27 28) true
theorem sim_impl_ChangeBytes : SimOk Try.prog 10 con_impl_ChangeBytes := simOk_gc mixed (ctab_add sim_impl_isChangeable (ctab_add sim_impl_changeBytes (ctab_nil _))) true Try.func10 Try.call10 (by kernel_rfl)
theorem law_impl_ChangeBytes : impl_ChangeBytes_ok  con_impl_ChangeBytes := impl_ChangeBytes_law ⟨rfl, rfl, law_impl_isChangeable⟩ ⟨rfl, rfl, law_impl_changeBytes⟩
noncomputable def con_impl_lowNumber : Contract := gcC cnil impl_lowNumber true
theorem sim_impl_lowNumber : SimOk Try.prog 31 con_impl_lowNumber := simOk_gc mixed (ctab_nil _) true Try.func31 Try.call31 (by kernel_rfl)
theorem law_impl_lowNumber : impl_lowNumber_ok  con_impl_lowNumber := impl_lowNumber_law 
noncomputable def con_impl_within : Contract := gcC cnil impl_within true
theorem sim_impl_within : SimOk Try.prog 56 con_impl_within := simOk_gc mixed (ctab_nil _) true Try.func56 Try.call56 (by kernel_rfl)
theorem law_impl_within : impl_within_ok  con_impl_within := impl_within_law 
noncomputable def con_impl_FromBits : Contract := gcC (cadd 56 con_impl_within (cadd 57 con_math_Float32frombits cnil)) (impl_FromBits 56 57) true
theorem sim_impl_FromBits : SimOk Try.prog 29 con_impl_FromBits := simOk_gc mixed (ctab_add sim_impl_within (ctab_add sim_math_Float32frombits (ctab_nil _))) true Try.func29 Try.call29 (by kernel_rfl)
theorem law_impl_FromBits : impl_FromBits_ok  con_impl_FromBits := impl_FromBits_law ⟨rfl, rfl, law_impl_within⟩ ⟨rfl, rfl, law_math_Float32frombits⟩
noncomputable def con_impl_ApplyChange : Contract := gcC (cadd 27 con_impl_isChangeable (cadd 30 con_impl_BitsOf (cadd 31 con_impl_lowNumber (cadd 29 con_impl_FromBits (cadd 28 con_impl_changeBytes cnil))))) (impl_ApplyChange 27 30 31 29 28) true
theorem sim_impl_ApplyChange : SimOk Try.prog 11 con_impl_ApplyChange := simOk_gc mixed (ctab_add sim_impl_isChangeable (ctab_add sim_impl_BitsOf (ctab_add sim_impl_lowNumber (ctab_add sim_impl_FromBits (ctab_add sim_impl_changeBytes (ctab_nil _)))))) true Try.func11 Try.call11 (by kernel_rfl)
theorem law_impl_ApplyChange : impl_ApplyChange_ok  con_impl_ApplyChange := impl_ApplyChange_law ⟨rfl, rfl, law_impl_isChangeable⟩ ⟨rfl, rfl, law_impl_BitsOf⟩ ⟨rfl, rfl, law_impl_lowNumber⟩ ⟨rfl, rfl, law_impl_FromBits⟩ ⟨rfl, rfl, law_impl_changeBytes⟩
noncomputable def con_math_Float64bits : Contract := pureC gBits64
theorem sim_math_Float64bits : SimOk Try.prog 77 con_math_Float64bits := sim_bits64 (run_callFunc_extern Try.func77 (by kernel_rfl) (by kernel_rfl) (by kernel_rfl) (by kernel_rfl))
theorem law_math_Float64bits : math_Float64bits_ok con_math_Float64bits := math_Float64bits_law
noncomputable def con_math_Signbit : Contract := gcC (cadd 77 con_math_Float64bits cnil) (math_Signbit 77) true
theorem sim_math_Signbit : SimOk Try.prog 59 con_math_Signbit := simOk_gc mixed (ctab_add sim_math_Float64bits (ctab_nil _)) true Try.func59 Try.call59 (by kernel_rfl)
theorem law_math_Signbit : math_Signbit_ok  con_math_Signbit := math_Signbit_law ⟨rfl, rfl, law_math_Float64bits⟩
noncomputable def con_impl_SameNumber : Contract := gcC (cadd 59 con_math_Signbit cnil) (impl_SameNumber 59) true
theorem sim_impl_SameNumber : SimOk Try.prog 32 con_impl_SameNumber := simOk_gc mixed (ctab_add sim_math_Signbit (ctab_nil _)) true Try.func32 Try.call32 (by kernel_rfl)
theorem law_impl_SameNumber : impl_SameNumberN_ok  con_impl_SameNumber := impl_SameNumberN_law ⟨rfl, rfl, law_math_Signbit⟩
noncomputable def con_laws_r8Same : Contract := gcC (cadd 32 con_impl_SameNumber cnil) (laws_r8Same 32) true
theorem sim_laws_r8Same : SimOk Try.prog 12 con_laws_r8Same := simOk_gc mixed (ctab_add sim_impl_SameNumber (ctab_nil _)) true Try.func12 Try.call12 (by kernel_rfl)
theorem law_laws_r8Same : laws_r8Same_ok  con_laws_r8Same := laws_r8Same_law ⟨rfl, rfl, law_impl_SameNumber⟩
noncomputable def con_laws_FnChanges : Contract := gcC (cadd 7 con_laws_r8Long (cadd 8 con_laws_r8At (cadd 9 con_spec_R8Numbers (cadd 10 con_impl_ChangeBytes (cadd 11 con_impl_ApplyChange (cadd 12 con_laws_r8Same cnil)))))) (laws_FnChanges 7 8 9 10 11 12) true
theorem sim_laws_FnChanges : SimOk Try.prog 3 con_laws_FnChanges := simOk_gc mixed (ctab_add sim_laws_r8Long (ctab_add sim_laws_r8At (ctab_add sim_spec_R8Numbers (ctab_add sim_impl_ChangeBytes (ctab_add sim_impl_ApplyChange (ctab_add sim_laws_r8Same (ctab_nil _))))))) true Try.func3 Try.call3 (by kernel_rfl)
theorem law_laws_FnChanges : laws_FnChanges_ok  con_laws_FnChanges := laws_FnChanges_law ⟨rfl, rfl, law_laws_r8Long⟩ ⟨rfl, rfl, law_laws_r8At⟩ ⟨rfl, rfl, law_spec_R8Numbers⟩ ⟨rfl, rfl, law_impl_ChangeBytes⟩ ⟨rfl, rfl, law_impl_ApplyChange⟩ ⟨rfl, rfl, law_laws_r8Same⟩
theorem lifted (os : Os) (started : os.Started) (H : Type) (enc : TypeId × Value → H) :
    ReturnsInHanded {} Try.checked os 3 .any (Rows.fnChangesSpec.pre6 enc Try.prog Try.f3 Rows.fnChangesRow.domain false) (Rows.fnChangesSpec.post enc Try.prog Try.f3 false true false false) := by
  refine returnsInHanded_of_change (C := Try.checked) own started (by kernel_rfl) Try.func3
    (ChangeSpec.witness6 (enc := enc) (C := Try.checked) false ⟨#[], #[.slice none 0 0, .slice none 0 0], []⟩ 8 (by kernel_rfl) (by kernel_rfl) (by kernel_rfl) (by kernel_rfl)) ?_
  intro W base args ds gs before hval hW _ _
  exact row_contract (P := Try.prog) (fn := Try.f3) (d := 8) (sh := [bytesK, bytesK]) (n := 2) sim_laws_FnChanges Try.call3 (by kernel_rfl) law_laws_FnChanges laidOut (by kernel_rfl) rfl rfl (by kernel_rfl) (by kernel_rfl)
    (fun ds h => by match ds, h with | [_, _], _ => rfl) hval hW
theorem holds : Rows.FnChangesSaid :=
  OpenClaim.holds_of_wide 3 Try.f3 rfl rfl rfl rfl rfl rfl rfl ⟨rfl, rfl, rfl, rfl, rfl⟩ rfl rfl rfl rfl rfl (by kernel_rfl) Try.func3 (by kernel_rfl)
    (of_decide_eq_true (by kernel_rfl)) (by unfold Func.isWrapper; first | (rw [if_pos (by decide +kernel)]; kernel_rfl) | (rw [if_neg (by decide +kernel)]; exact ⟨rfl, rfl⟩))
    (fun os started H enc _ => lifted os started H enc)
end Go.Proofs.Ytogekdhkcndbdaa.laws_FnChanges
