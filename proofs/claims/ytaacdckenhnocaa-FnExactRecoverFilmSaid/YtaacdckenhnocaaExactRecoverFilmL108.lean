/- Laws of functions: films are recovered and loaded. Conditions: the laws of what they call. -/
import Derived.Test.YtaacdckenhnocaaExactRecoverFilmL107
namespace Go.Abs

set_option linter.unusedSimpArgs false
set_option linter.unusedVariables false
set_option maxHeartbeats 8000000
set_option maxRecDepth 20000
/- loop.example/g01201/spec.RecoverFilm -/
def spec_RecoverFilm_r0 : List SOper := [
 ⟨some 2, none, .alloc [(.int .i64 0), (.int .i64 0), (.bool false), (.slice none 0 0), (.slice none 0 0), (.slice none 0 0)], 0⟩,
 ⟨some 3, none, .mov (.const (.int .i64 0)), 0⟩,
 ⟨some 4, none, .mov (.const (.bool false)), 2⟩]
def spec_RecoverFilm_r1 (i_spec_l10Recover : FuncId) : List SOper := [
 ⟨some 9, none, .mov (.tmp 0), 0⟩,
 ⟨some 10, none, .call (.func i_spec_l10Recover) [(.tmp 9)], 1⟩,
 ⟨some 8, none, .mov (.tmp 10), 3⟩,
 ⟨some 11, none, .extract (.tmp 8) 0, 7⟩,
 ⟨some 12, none, .extract (.tmp 8) 1, 7⟩,
 ⟨some 13, none, .extract (.tmp 8) 2, 7⟩,
 ⟨some 5, none, .alloc [(.int .i64 0), (.int .i64 0), (.bool false), (.slice none 0 0), (.slice none 0 0), (.slice none 0 0)], 0⟩,
 ⟨none, none, .store 6 (.tmp 5) (.tmp 11), 79⟩,
 ⟨some 6, none, .mov (.tmp 12), 223⟩,
 ⟨some 7, none, .mov (.tmp 13), 511⟩]
def spec_RecoverFilm_r2 : List SOper := [
 ⟨some 14, none, .mov (.tmp 7), 0⟩,
 ⟨some 15, none, .un .not (.tmp 14), 1⟩]
def spec_RecoverFilm_r3 : List SOper := [
 ⟨some 16, none, .build [(.int .i64 0), (.int .i64 0), (.bool false), (.slice none 0 0), (.slice none 0 0), (.slice none 0 0)] [], 0⟩,
 ⟨none, none, .store 6 (.tmp 2) (.tmp 16), 1⟩,
 ⟨some 3, none, .mov (.const (.int .i64 0)), 3⟩,
 ⟨some 4, none, .mov (.const (.bool false)), 7⟩]
def spec_RecoverFilm_r4 : List SOper := [
 ⟨some 17, none, .loadN 6 (.tmp 5), 0⟩,
 ⟨some 18, none, .mov (.tmp 6), 0⟩,
 ⟨none, none, .store 6 (.tmp 2) (.tmp 17), 1⟩,
 ⟨some 3, none, .mov (.tmp 18), 7⟩,
 ⟨some 4, none, .mov (.const (.bool true)), 15⟩]
def spec_RecoverFilm (i_spec_l10Recover : FuncId) : SFunc := ⟨19, [.cellN 2 6, .tmp 3, .tmp 4], (.kp [0] (.seq (.region spec_RecoverFilm_r0 false) (.kp [0,2] (.seq (.region (spec_RecoverFilm_r1 i_spec_l10Recover) false) (.kp [2,5,6,7] (.seq (.seq (.region spec_RecoverFilm_r2 false) (.kp [2,5,6,15] (.cond (.tmp 15) (.seq (.region spec_RecoverFilm_r3 false) .ret) .skip))) (.kp [2,5,6] (.seq (.region spec_RecoverFilm_r4 false) .ret))))))))⟩

def spec_RecoverFilm_ok (c : Contract) : Prop := ∀ (σ : Heap) (s : List UInt8), s.length ≤ 1048576 → Ret c [.string (str s)] σ fun v σ' => FmR3 (rcOk s) σ σ' v (byAt s 4) (byAt s 5) (shWr s) (shSp s) (shLo s) (rcAll s).1 (rcAll s).2
theorem film_behind {σ A : Heap} {x y : AObj} {s l b : Nat} {R : Rws} {sp lo : List Nat} {fs : List Fld} (ho : FilmO (σ ++ [x] ++ A) (σ ++ [x]).length s l b R sp lo fs) (Z : Heap) : FilmO (σ ++ y :: (A ++ Z)) σ.length s l b R sp lo fs := by
  rw [show (σ ++ [x]).length = σ.length + 1 from by simp] at ho
  have h1 := ho.ext Z
  have h2 : FilmO (σ ++ y :: (A ++ Z)) (σ.length + 1) s l b R sp lo fs := h1.keep fun o h0 _ => by
    obtain ⟨j, rfl⟩ : ∃ j, o = σ.length + (j + 1) := ⟨o - σ.length - 1, by omega⟩
    rw [hget, List.append_assoc, List.append_assoc, hget]; rfl
  exact h2.less (by omega)
theorem spec_RecoverFilm_law {C : Ctab} {i1 : FuncId} {c1 : Contract} (h1 : Has C i1 c1 spec_l10Recover_ok) : spec_RecoverFilm_ok (bodyC C (spec_RecoverFilm i1) true) := by
  intro σ s hs
  cases hok : rcOk s
  · refine ret_bd rfl rfl ?_
    repeat' (first | refine ff ?_ | ((first | refine sR ?_ ?_ | refine sC ?_ ?_) <;> (intro hb; (try rw [hb]); (try simp only [bb] at hb); (try (exfalso; first | omega | exact hb trivial)))) | (apply endS trivial; rotate_left; (· exact eva); (· rfl); try refine ⟨?_, rfl⟩) | fail)
    apply EvR.aCall h1.at_; (· exact eva); (· exact h1.ok _ s hs); rintro _ _ hres
    obtain ⟨⟨τ, rfl⟩, fm, rfl, _, hfm⟩ := hres.f hok
    obtain ⟨w, h, wr, sv, lv, fb, xs, ys, H0, rfl, k1, k2⟩ := hfm rfl
    clear hres hfm
    refine EvR.nrm ?_
    repeat' (first | refine ff ?_ | ((first | refine sR ?_ ?_ | refine sC ?_ ?_) <;> (intro hb; (try rw [hb]); (try simp only [bb] at hb); (try (exfalso; first | omega | exact hb trivial)))) | (apply endS trivial; rotate_left; (· exact eva); (· rfl); try refine ⟨?_, rfl⟩) | fail)
    apply endB trivial
    · exact eva
    · exact ⟨(fun h => by cases h), fun _ => ⟨⟨_, rfl⟩, rfl⟩⟩
  · obtain ⟨G, hG⟩ : ∃ G, rcAll s = G := ⟨_, rfl⟩
    rw [hG]
    refine ret_bd rfl rfl ?_
    repeat' (first | refine ff ?_ | ((first | refine sR ?_ ?_ | refine sC ?_ ?_) <;> (intro hb; (try rw [hb]); (try simp only [bb] at hb); (try (exfalso; first | omega | exact hb trivial)))) | (apply endS trivial; rotate_left; (· exact eva); (· rfl); try refine ⟨?_, rfl⟩) | fail)
    apply EvR.aCall h1.at_; (· exact eva); (· exact h1.ok _ s hs); rintro _ _ hres
    obtain ⟨τ, s', l, b, R, rfl, rfl, ho⟩ := hres.t hok (.inl rfl)
    clear hres
    rw [hG] at ho ⊢
    refine EvR.nrm ?_
    repeat' (first | refine ff ?_ | ((first | refine sR ?_ ?_ | refine sC ?_ ?_) <;> (intro hb; (try rw [hb]); (try simp only [bb] at hb); (try (exfalso; first | omega | exact hb trivial)))) | (apply endS trivial; rotate_left; (· exact eva); (· rfl); try refine ⟨?_, rfl⟩) | fail)
    apply endB trivial
    · exact eva
    · exact ⟨fun _ => ⟨_, _, _, _, _, rfl, rfl, film_behind ho _⟩, (fun h => by cases h)⟩
end Go.Abs

