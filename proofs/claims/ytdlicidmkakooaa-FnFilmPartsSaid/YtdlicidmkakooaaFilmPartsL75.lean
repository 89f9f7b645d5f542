/- Laws of functions: two films joined, by the program and by the reference. Conditions: the laws of what they call. -/
import Derived.Test.YtdlicidmkakooaaFilmPartsL72
import Derived.Test.YtdlicidmkakooaaFilmPartsL74
namespace Go.Abs

set_option linter.unusedSimpArgs false
set_option linter.unusedVariables false
set_option maxHeartbeats 8000000
set_option maxRecDepth 20000
/- loop.example/g01201/impl.JoinFilms -/
def impl_JoinFilms_r0 : List SOper := [
  ⟨(some 2), none, .box (.tmp 0), 0⟩,
  ⟨(some 3), none, .box (.tmp 1), 0⟩,
  ⟨(some 4), none, .alloc [(.int .i64 0), (.int .i64 0), (.bool false), (.slice none 0 0), (.slice none 0 0), (.slice none 0 0)], 0⟩,
  ⟨(some 5), none, .mov (.const (.bool false)), 0⟩]
def impl_JoinFilms_r1 (i_impl_ValidFilm i_impl_SameSheet : FuncId) : List SOper := [
  ⟨(some 6), none, .loadN 6 (.tmp 2), 0⟩,
  ⟨(some 7), none, .call (.func i_impl_ValidFilm) [(.tmp 6)], 1⟩,
  ⟨(some 8), none, .un .not (.tmp 7), 3⟩,
  ⟨(some 9), none, .mov (.tmp 8), 7⟩,
  ⟨(some 10), (some (9, false)), .loadN 6 (.tmp 3), 15⟩,
  ⟨(some 11), (some (9, false)), .call (.func i_impl_ValidFilm) [(.tmp 10)], 31⟩,
  ⟨(some 12), (some (9, false)), .un .not (.tmp 11), 63⟩,
  ⟨(some 13), none, .pick (.tmp 9) (.const (.bool true)) (.tmp 12), 127⟩,
  ⟨(some 14), none, .mov (.tmp 13), 255⟩,
  ⟨(some 15), (some (14, false)), .fieldAddr 0 (.tmp 2), 511⟩,
  ⟨(some 16), (some (14, false)), .loadN 5 (.tmp 15), 1023⟩,
  ⟨(some 17), (some (14, false)), .fieldAddr 0 (.tmp 3), 511⟩,
  ⟨(some 18), (some (14, false)), .loadN 5 (.tmp 17), 2559⟩,
  ⟨(some 19), (some (14, false)), .call (.func i_impl_SameSheet) [(.tmp 16), (.tmp 18)], 8191⟩,
  ⟨(some 20), (some (14, false)), .un .not (.tmp 19), 16383⟩,
  ⟨(some 21), none, .pick (.tmp 14) (.const (.bool true)) (.tmp 20), 32767⟩]
def impl_JoinFilms_r2 : List SOper := [
  ⟨(some 22), none, .build [(.int .i64 0), (.int .i64 0), (.bool false), (.slice none 0 0), (.slice none 0 0), (.slice none 0 0)] [], 0⟩,
  ⟨none, none, .store 6 (.tmp 4) (.tmp 22), 1⟩,
  ⟨(some 5), none, .mov (.const (.bool false)), 3⟩]
def impl_JoinFilms_r3 (i_impl_copySheet i_impl_copyFields i_impl_validFilm : FuncId) : List SOper := [
  ⟨(some 23), none, .fieldAddr 0 (.tmp 2), 0⟩,
  ⟨(some 24), none, .loadN 5 (.tmp 23), 1⟩,
  ⟨(some 25), none, .call (.func i_impl_copySheet) [(.tmp 24)], 3⟩,
  ⟨(some 26), none, .fieldAddr 5 (.tmp 2), 0⟩,
  ⟨(some 27), none, .load1 (.tmp 26), 8⟩,
  ⟨(some 28), none, .call (.func i_impl_copyFields) [(.tmp 27)], 31⟩,
  ⟨(some 29), none, .fieldAddr 5 (.tmp 3), 0⟩,
  ⟨(some 30), none, .load1 (.tmp 29), 64⟩,
  ⟨(some 31), none, .call (.func i_impl_copyFields) [(.tmp 30)], 255⟩,
  ⟨(some 32), none, .append 3 72 (.tmp 28) (.tmp 31), 511⟩,
  ⟨(some 33), none, .build [(.int .i64 0), (.int .i64 0), (.bool false), (.slice none 0 0), (.slice none 0 0), (.slice none 0 0)] [(0, 5, (.tmp 25)), (5, 1, (.tmp 32))], 1023⟩,
  ⟨(some 34), none, .call (.func i_impl_validFilm) [(.tmp 33)], 2047⟩,
  ⟨(some 35), none, .extract (.tmp 34) 0, 4095⟩,
  ⟨(some 36), none, .extract (.tmp 34) 1, 4095⟩,
  ⟨none, none, .store 6 (.tmp 4) (.tmp 35), 16383⟩,
  ⟨(some 5), none, .mov (.tmp 36), 32767⟩]
def impl_JoinFilms (i_impl_ValidFilm i_impl_SameSheet i_impl_copySheet i_impl_copyFields i_impl_validFilm : FuncId) : SFunc := ⟨37, [.cellN 4 6, .tmp 5], (.kp [0, 1] (.seq (.region impl_JoinFilms_r0 false) (.kp [2, 3, 4] (.seq (.seq (.region (impl_JoinFilms_r1 i_impl_ValidFilm i_impl_SameSheet) false) (.kp [2, 3, 4, 21] (.cond (.tmp 21) (.seq (.region impl_JoinFilms_r2 false) .ret) .skip))) (.kp [2, 3, 4] (.seq (.region (impl_JoinFilms_r3 i_impl_copySheet i_impl_copyFields i_impl_validFilm) true) .ret))))))⟩
theorem impl_JoinFilms_r3_dr {i_impl_copySheet i_impl_copyFields i_impl_validFilm : FuncId} : drawOkW wStat (impl_JoinFilms_r3 i_impl_copySheet i_impl_copyFields i_impl_validFilm) = true := by kernel_rfl
attribute [push_cast] impl_JoinFilms_r3_dr
section
variable {C : Ctab} {F : Frame} {τ l : Heap}
/-- A row of fields gets those of another. -/
theorem EvR.ap3N {Q} {d n i m k : Nat} {rest : List SOper} {x y : Operand} {cells ys : List Value} {yv : Value} (h1 : eval F x = .slice (some ⟨τ.length + i, 0, none⟩) m m) (h2 : l[i]? = some ⟨cells, 3, true⟩) (h3 : cells.length = m * 3) (h4 : eval F y = yv)
    (h5 : Row (τ ++ l) 3 yv k ys) (hm : m + k ≤ 1048576) (ha : ys.all cellOk = true) (h : EvR C rest ((d, .slice (some ⟨τ.length + i, 0, none⟩) (m + k) (m + k)) :: F) (τ ++ l.set i ⟨cells ++ ys, 3, true⟩) Q) :
    EvR C (⟨some d, none, .append 3 72 x y, n⟩ :: rest) F (τ ++ l) Q := by
  refine EvR.opS (σ' := τ ++ l.set i ⟨cells ++ ys, 3, true⟩) ?_ h
  have hx : appCells (τ ++ l) 3 yv = some (ys, k) := by
    unfold Row at h5
    cases yv with
    | slice a n' c' =>
      have hn : n' = k := by cases a with | none => obtain ⟨h, h', _⟩ := h5; omega | some a => exact h5.1
      subst hn
      simp only [appCells, Row.cells (show Row (τ ++ l) 3 (.slice a n' c') n' ys from by unfold Row; exact h5), Option.map_some]
    | _ => exact h5.elim
  have h44 : (2 : Nat) ^ 44 = 17592186044416 := by decide
  have := append_app τ l 3 72 i m k h2 h3 (by omega) hx (by omega) (by omega) ha
  simp only [evOp, h1, h4, this]
end
theorem slOf_all (R : Rws) : (R.map slOf).all cellOk = true := by simp [slOf, cellOk]
theorem sameS_true {w h : Int} {wr : Bool} {sp lo : List Nat} {w' h' : Int} {wr' : Bool} {sp' lo' : List Nat} (hs : sameS w h wr sp lo w' h' wr' sp' lo' = true) : w' = w ∧ h' = h ∧ wr' = wr ∧ sp' = sp ∧ lo' = lo := by
  simp only [sameS, Bool.and_eq_true, decide_eq_true_eq] at hs
  obtain ⟨⟨⟨⟨a, b⟩, c⟩, d⟩, e⟩ := hs
  exact ⟨a.symm, b.symm, c.symm, d.symm, e.symm⟩
theorem isFilm_app (w h : Int) (wr : Bool) (sp lo : List Nat) (fs gs : List Fld) (h1 : isFilm w h wr sp lo fs = true) (h2 : isFilm w h wr sp lo gs = true) : isFilm w h wr sp lo (fs ++ gs) = decide (fs.length + gs.length ≤ 16) := by
  unfold isFilm at h1 h2 ⊢
  simp only [Bool.and_eq_true, decide_eq_true_eq] at h1 h2
  rw [h1.1.1, List.all_append, h1.2, h2.2, List.length_append]
  simp
def joinOk (w h : Int) (wr : Bool) (sp lo : List Nat) (fs : List Fld) (w' h' : Int) (wr' : Bool) (sp' lo' : List Nat) (fs' : List Fld) : Bool :=
  isFilm w h wr sp lo fs && (isFilm w' h' wr' sp' lo' fs' && (sameS w h wr sp lo w' h' wr' sp' lo' && decide (fs.length + fs'.length ≤ 16)))
def in32 (xs : List Nat) : Prop := ∀ x ∈ xs, x < 4294967296
def JoinFilms_ok (c : Contract) : Prop := ∀ (σ : Heap) (w h : Int) (wr : Bool) (sv lv fv : Value) (sp lo : List Nat) (fs : List Fld) (w' h' : Int) (wr' : Bool) (sv' lv' fv' : Value) (sp' lo' : List Nat) (fs' : List Fld), ShR σ sv lv sp lo → FlsR σ fv fs → ShR σ sv' lv' sp' lo' → FlsR σ fv' fs' →
    sp.length ≤ 1048576 → lo.length ≤ 1048576 → fitsF fs → sp'.length ≤ 1048576 → lo'.length ≤ 1048576 → fitsF fs' → in32 sp → in32 lo → in32 sp' → in32 lo' →
    Ret c [fmV w h wr sv lv fv, fmV w' h' wr' sv' lv' fv'] σ fun v σ' => FmRes (joinOk w h wr sp lo fs w' h' wr' sp' lo' fs') σ σ' v w h wr sp lo (fs ++ fs')
abbrev impl_JoinFilms_ok := JoinFilms_ok
theorem impl_JoinFilms_law {C : Ctab} {i1 i2 i3 i4 i5 : FuncId} {c1 c2 c3 c4 c5 : Contract} (h1 : Has C i1 c1 impl_ValidFilm_ok) (h2 : Has C i2 c2 impl_SameSheet_ok) (h3 : Has C i3 c3 impl_copySheet_ok) (h4 : Has C i4 c4 impl_copyFields_ok) (h5 : Has C i5 c5 impl_validFilm_ok) : impl_JoinFilms_ok (bodyC C (impl_JoinFilms i1 i2 i3 i4 i5) true) := by
  intro σ w h wr sv lv fv sp lo fs w' h' wr' sv' lv' fv' sp' lo' fs' ⟨r1, r2⟩ hf ⟨r3, r4⟩ hf' n1 n2 hfit n3 n4 hfit' b1_ b2_ b3_ b4_
  have k1 := r1.ok
  have k2 := r2.ok
  have k3 := hf.ok
  have k4 := r3.ok
  have k5 := r4.ok
  have k6 := hf'.ok
  have hV := fun τ => h1.ok (σ ++ τ) w h wr sv lv fv sp lo fs ⟨r1.ext _, r2.ext _⟩ (hf.ext _) n1 n2 hfit
  have hV' := fun τ => h1.ok (σ ++ τ) w' h' wr' sv' lv' fv' sp' lo' fs' ⟨r3.ext _, r4.ext _⟩ (hf'.ext _) n3 n4 hfit'
  cases hI : isFilm w h wr sp lo fs
  · rw [show joinOk w h wr sp lo fs w' h' wr' sp' lo' fs' = false from by unfold joinOk; rw [hI]; rfl]
    refine ret_bd rfl rfl ?_
    repeat' (first | refine ff ?_ | ((first | refine EvR.aSplB ?_ ?_ | refine Ev.aSplB ?_ ?_) <;> (intro hb; (try rw [hb]); (try simp only [Bool.not_eq_true', Bool.not_eq_false', Bool.not_eq_eq_eq_not, Bool.not_true, Bool.not_false, decide_eq_true_eq, decide_eq_false_iff_not, Bool.and_eq_true, Bool.and_eq_false_iff, Bool.or_eq_true, Bool.or_eq_false_iff] at hb); (try (exfalso; first | omega | exact hb trivial)))) | (apply endS trivial; rotate_left; (· exact eva); (· rfl); try refine ⟨?_, rfl⟩) | fail)
    (apply EvR.aCall h1.at_; (· exact eva); (· exact  hV _); (rintro _ _ ⟨rfl, rfl⟩; refine EvR.nrm ?_))
    rw [hI]
    repeat' (first | refine ff ?_ | ((first | refine EvR.aSplB ?_ ?_ | refine Ev.aSplB ?_ ?_) <;> (intro hb; (try rw [hb]); (try simp only [Bool.not_eq_true', Bool.not_eq_false', Bool.not_eq_eq_eq_not, Bool.not_true, Bool.not_false, decide_eq_true_eq, decide_eq_false_iff_not, Bool.and_eq_true, Bool.and_eq_false_iff, Bool.or_eq_true, Bool.or_eq_false_iff] at hb); (try (exfalso; first | omega | exact hb trivial)))) | (apply endS trivial; rotate_left; (· exact eva); (· rfl); try refine ⟨?_, rfl⟩) | fail)
    apply endB trivial
    · exact eva
    · exact FmRes.no rfl
  cases hI' : isFilm w' h' wr' sp' lo' fs'
  · rw [show joinOk w h wr sp lo fs w' h' wr' sp' lo' fs' = false from by unfold joinOk; rw [hI']; simp]
    refine ret_bd rfl rfl ?_
    repeat' (first | refine ff ?_ | ((first | refine EvR.aSplB ?_ ?_ | refine Ev.aSplB ?_ ?_) <;> (intro hb; (try rw [hb]); (try simp only [Bool.not_eq_true', Bool.not_eq_false', Bool.not_eq_eq_eq_not, Bool.not_true, Bool.not_false, decide_eq_true_eq, decide_eq_false_iff_not, Bool.and_eq_true, Bool.and_eq_false_iff, Bool.or_eq_true, Bool.or_eq_false_iff] at hb); (try (exfalso; first | omega | exact hb trivial)))) | (apply endS trivial; rotate_left; (· exact eva); (· rfl); try refine ⟨?_, rfl⟩) | fail)
    (apply EvR.aCall h1.at_; (· exact eva); (· exact  hV _); (rintro _ _ ⟨rfl, rfl⟩; refine EvR.nrm ?_))
    rw [hI]
    repeat' (first | refine ff ?_ | ((first | refine EvR.aSplB ?_ ?_ | refine Ev.aSplB ?_ ?_) <;> (intro hb; (try rw [hb]); (try simp only [Bool.not_eq_true', Bool.not_eq_false', Bool.not_eq_eq_eq_not, Bool.not_true, Bool.not_false, decide_eq_true_eq, decide_eq_false_iff_not, Bool.and_eq_true, Bool.and_eq_false_iff, Bool.or_eq_true, Bool.or_eq_false_iff] at hb); (try (exfalso; first | omega | exact hb trivial)))) | (apply endS trivial; rotate_left; (· exact eva); (· rfl); try refine ⟨?_, rfl⟩) | fail)
    (apply EvR.aCall h1.at_; (· exact eva); (· exact  hV' _); (rintro _ _ ⟨rfl, rfl⟩; refine EvR.nrm ?_))
    rw [hI']
    repeat' (first | refine ff ?_ | ((first | refine EvR.aSplB ?_ ?_ | refine Ev.aSplB ?_ ?_) <;> (intro hb; (try rw [hb]); (try simp only [Bool.not_eq_true', Bool.not_eq_false', Bool.not_eq_eq_eq_not, Bool.not_true, Bool.not_false, decide_eq_true_eq, decide_eq_false_iff_not, Bool.and_eq_true, Bool.and_eq_false_iff, Bool.or_eq_true, Bool.or_eq_false_iff] at hb); (try (exfalso; first | omega | exact hb trivial)))) | (apply endS trivial; rotate_left; (· exact eva); (· rfl); try refine ⟨?_, rfl⟩) | fail)
    apply endB trivial
    · exact eva
    · exact FmRes.no rfl
  obtain ⟨u1, u2⟩ := isSheet_nums (isFilm_sheet hI) b1_ b2_
  obtain ⟨u3, u4⟩ := isSheet_nums (isFilm_sheet hI') b3_ b4_
  have hS := fun τ => h2.ok (σ ++ τ) w h wr sv lv sp lo w' h' wr' sv' lv' sp' lo' ⟨r1.ext _, r2.ext _⟩ ⟨r3.ext _, r4.ext _⟩ n1 n2 n3 n4 u1 u2 u3 u4
  cases hJ : sameS w h wr sp lo w' h' wr' sp' lo'
  · rw [show joinOk w h wr sp lo fs w' h' wr' sp' lo' fs' = false from by unfold joinOk; rw [hJ]; simp]
    refine ret_bd rfl rfl ?_
    repeat' (first | refine ff ?_ | ((first | refine EvR.aSplB ?_ ?_ | refine Ev.aSplB ?_ ?_) <;> (intro hb; (try rw [hb]); (try simp only [Bool.not_eq_true', Bool.not_eq_false', Bool.not_eq_eq_eq_not, Bool.not_true, Bool.not_false, decide_eq_true_eq, decide_eq_false_iff_not, Bool.and_eq_true, Bool.and_eq_false_iff, Bool.or_eq_true, Bool.or_eq_false_iff] at hb); (try (exfalso; first | omega | exact hb trivial)))) | (apply endS trivial; rotate_left; (· exact eva); (· rfl); try refine ⟨?_, rfl⟩) | fail)
    (apply EvR.aCall h1.at_; (· exact eva); (· exact  hV _); (rintro _ _ ⟨rfl, rfl⟩; refine EvR.nrm ?_))
    rw [hI]
    repeat' (first | refine ff ?_ | ((first | refine EvR.aSplB ?_ ?_ | refine Ev.aSplB ?_ ?_) <;> (intro hb; (try rw [hb]); (try simp only [Bool.not_eq_true', Bool.not_eq_false', Bool.not_eq_eq_eq_not, Bool.not_true, Bool.not_false, decide_eq_true_eq, decide_eq_false_iff_not, Bool.and_eq_true, Bool.and_eq_false_iff, Bool.or_eq_true, Bool.or_eq_false_iff] at hb); (try (exfalso; first | omega | exact hb trivial)))) | (apply endS trivial; rotate_left; (· exact eva); (· rfl); try refine ⟨?_, rfl⟩) | fail)
    (apply EvR.aCall h1.at_; (· exact eva); (· exact  hV' _); (rintro _ _ ⟨rfl, rfl⟩; refine EvR.nrm ?_))
    rw [hI']
    repeat' (first | refine ff ?_ | ((first | refine EvR.aSplB ?_ ?_ | refine Ev.aSplB ?_ ?_) <;> (intro hb; (try rw [hb]); (try simp only [Bool.not_eq_true', Bool.not_eq_false', Bool.not_eq_eq_eq_not, Bool.not_true, Bool.not_false, decide_eq_true_eq, decide_eq_false_iff_not, Bool.and_eq_true, Bool.and_eq_false_iff, Bool.or_eq_true, Bool.or_eq_false_iff] at hb); (try (exfalso; first | omega | exact hb trivial)))) | (apply endS trivial; rotate_left; (· exact eva); (· rfl); try refine ⟨?_, rfl⟩) | fail)
    (apply EvR.aCall h2.at_; (· exact eva); (· exact  hS _); (rintro _ _ ⟨rfl, rfl⟩; refine EvR.nrm ?_))
    rw [hJ]
    repeat' (first | refine ff ?_ | ((first | refine EvR.aSplB ?_ ?_ | refine Ev.aSplB ?_ ?_) <;> (intro hb; (try rw [hb]); (try simp only [Bool.not_eq_true', Bool.not_eq_false', Bool.not_eq_eq_eq_not, Bool.not_true, Bool.not_false, decide_eq_true_eq, decide_eq_false_iff_not, Bool.and_eq_true, Bool.and_eq_false_iff, Bool.or_eq_true, Bool.or_eq_false_iff] at hb); (try (exfalso; first | omega | exact hb trivial)))) | (apply endS trivial; rotate_left; (· exact eva); (· rfl); try refine ⟨?_, rfl⟩) | fail)
    apply endB trivial
    · exact eva
    · exact FmRes.no rfl
  obtain ⟨rfl, rfl, rfl, rfl, rfl⟩ := sameS_true hJ
  have hA := isFilm_app _ _ _ _ _ fs fs' hI hI'
  rw [show joinOk w' h' wr' sp' lo' fs w' h' wr' sp' lo' fs' = isFilm w' h' wr' sp' lo' (fs ++ fs') from by unfold joinOk; rw [hI, hI', hJ, hA]; simp]
  have h16 := isFilm_len hI
  have h16' := isFilm_len hI'
  refine ret_bd rfl rfl ?_
  repeat' (first | refine ff ?_ | ((first | refine EvR.aSplB ?_ ?_ | refine Ev.aSplB ?_ ?_) <;> (intro hb; (try rw [hb]); (try simp only [Bool.not_eq_true', Bool.not_eq_false', Bool.not_eq_eq_eq_not, Bool.not_true, Bool.not_false, decide_eq_true_eq, decide_eq_false_iff_not, Bool.and_eq_true, Bool.and_eq_false_iff, Bool.or_eq_true, Bool.or_eq_false_iff] at hb); (try (exfalso; first | omega | exact hb trivial)))) | (apply endS trivial; rotate_left; (· exact eva); (· rfl); try refine ⟨?_, rfl⟩) | fail)
  (apply EvR.aCall h1.at_; (· exact eva); (· exact  hV _); (rintro _ _ ⟨rfl, rfl⟩; refine EvR.nrm ?_))
  rw [hI]
  repeat' (first | refine ff ?_ | ((first | refine EvR.aSplB ?_ ?_ | refine Ev.aSplB ?_ ?_) <;> (intro hb; (try rw [hb]); (try simp only [Bool.not_eq_true', Bool.not_eq_false', Bool.not_eq_eq_eq_not, Bool.not_true, Bool.not_false, decide_eq_true_eq, decide_eq_false_iff_not, Bool.and_eq_true, Bool.and_eq_false_iff, Bool.or_eq_true, Bool.or_eq_false_iff] at hb); (try (exfalso; first | omega | exact hb trivial)))) | (apply endS trivial; rotate_left; (· exact eva); (· rfl); try refine ⟨?_, rfl⟩) | fail)
  (apply EvR.aCall h1.at_; (· exact eva); (· exact  hV' _); (rintro _ _ ⟨rfl, rfl⟩; refine EvR.nrm ?_))
  rw [hI']
  repeat' (first | refine ff ?_ | ((first | refine EvR.aSplB ?_ ?_ | refine Ev.aSplB ?_ ?_) <;> (intro hb; (try rw [hb]); (try simp only [Bool.not_eq_true', Bool.not_eq_false', Bool.not_eq_eq_eq_not, Bool.not_true, Bool.not_false, decide_eq_true_eq, decide_eq_false_iff_not, Bool.and_eq_true, Bool.and_eq_false_iff, Bool.or_eq_true, Bool.or_eq_false_iff] at hb); (try (exfalso; first | omega | exact hb trivial)))) | (apply endS trivial; rotate_left; (· exact eva); (· rfl); try refine ⟨?_, rfl⟩) | fail)
  (apply EvR.aCall h2.at_; (· exact eva); (· exact  hS _); (rintro _ _ ⟨rfl, rfl⟩; refine EvR.nrm ?_))
  rw [hJ]
  repeat' (first | refine ff ?_ | (apply EvR.aCall h3.at_; (· exact eva); (· apply h3.ok <;> exact sid); (rintro _ _ ⟨rfl, rfl⟩; refine EvR.nrm ?_)) | ((first | refine EvR.aSplB ?_ ?_ | refine Ev.aSplB ?_ ?_) <;> (intro hb; (try rw [hb]); (try simp only [Bool.not_eq_true', Bool.not_eq_false', Bool.not_eq_eq_eq_not, Bool.not_true, Bool.not_false, decide_eq_true_eq, decide_eq_false_iff_not, Bool.and_eq_true, Bool.and_eq_false_iff, Bool.or_eq_true, Bool.or_eq_false_iff] at hb); (try (exfalso; first | omega | exact hb trivial)))) | (apply endS trivial; rotate_left; (· exact eva); (· rfl); try refine ⟨?_, rfl⟩) | fail)
  apply EvR.aCall h4.at_; (· exact eva); (· exact h4.ok _ fv fs (hf.ext _) hfit); rintro _ _ ⟨τ, b, R, rfl, rfl, ho⟩
  refine EvR.nrm ?_
  repeat' (first | refine ff ?_ | ((first | refine EvR.aSplB ?_ ?_ | refine Ev.aSplB ?_ ?_) <;> (intro hb; (try rw [hb]); (try simp only [Bool.not_eq_true', Bool.not_eq_false', Bool.not_eq_eq_eq_not, Bool.not_true, Bool.not_false, decide_eq_true_eq, decide_eq_false_iff_not, Bool.and_eq_true, Bool.and_eq_false_iff, Bool.or_eq_true, Bool.or_eq_false_iff] at hb); (try (exfalso; first | omega | exact hb trivial)))) | (apply endS trivial; rotate_left; (· exact eva); (· rfl); try refine ⟨?_, rfl⟩) | fail)
  apply EvR.aCall h4.at_; (· exact eva); (· exact h4.ok _ fv' fs' (hf'.ext _) hfit'); rintro _ _ ⟨τ', b', R', rfl, rfl, ho'⟩
  refine EvR.nrm ?_
  obtain ⟨P5, hP5⟩ : ∃ P : Heap, P = [⟨[.int .i64 w', .int .i64 h', .bool wr', sv, lv, fv], 0, true⟩, ⟨[.int .i64 w', .int .i64 h', .bool wr', sv', lv', fv'], 0, true⟩, ⟨[.int .i64 0, .int .i64 0, .bool false, .slice none 0 0, .slice none 0 0, .slice none 0 0], 0, true⟩, rowO sp', rowO lo'] := ⟨_, rfl⟩
  have ho1 : FlsO (σ ++ P5 ++ τ) (σ.length + 5) b R fs := by
    rw [hP5]
    simp only [List.length_append, List.length_cons, List.length_nil, Nat.zero_add, Nat.reduceAdd] at ho
    exact ho
  have ho2 : FlsO (σ ++ P5 ++ τ ++ τ') (σ.length + (τ.length + 5)) b' R' fs' := by
    rw [hP5]
    have := ho'
    simp only [List.length_append, List.length_cons, List.length_nil, Nat.zero_add, Nat.reduceAdd, List.append_assoc, List.cons_append, List.nil_append, Nat.add_assoc] at this ⊢
    exact this
  clear ho ho'
  obtain ⟨j, rfl⟩ : ∃ j, b = σ.length + (j + 5) := ⟨b - σ.length - 5, by have := ho1.bl; omega⟩
  have hj : τ[j]? = some ⟨R.map slOf, 3, true⟩ := by
    have := ho1.row
    rw [hP5, List.append_assoc, hget] at this
    exact this
  have hjl := (List.getElem?_eq_some_iff.1 hj).1
  obtain ⟨X, hX⟩ : ∃ X : AObj, X = ⟨R.map slOf ++ R'.map slOf, 3, true⟩ := ⟨_, rfl⟩
  refine EvR.ap3N (τ := σ) (cells := R.map slOf) (ys := R'.map slOf) (yv := slV b' fs'.length) (i := j + 5) (m := fs.length) (k := fs'.length) rfl ?_ (by rw [List.length_map]; exact ho1.len) rfl ?_ (by omega) (slOf_all _) ?_
  · show (τ ++ _)[j]? = _
    rw [List.getElem?_append_left hjl]; exact hj
  · have := Row.whole ho2.row (show 3 ≠ 0 by omega) (by rw [List.length_map]; exact ho2.len)
    rw [hP5] at this
    simp only [List.append_assoc, List.cons_append, List.nil_append] at this
    exact this
  rw [← hX]
  have hbn := ho1.bn
  have hP5l : P5.length = 5 := by rw [hP5]; rfl
  have hO2 := FlsO.more (H' := (σ ++ P5 ++ τ ++ τ').set (σ.length + (j + 5)) X) (ho1.ext τ') ho2.inv (fun p hp => by have := ho1.inv.lt hp; simp only [List.length_append, hP5l] at this; omega)
    (fun hc => by obtain ⟨q, hq, heq⟩ := List.mem_map.1 hc; have := ho2.inv.low q hq; omega) (by omega) ho2.con
    (by rw [List.getElem?_set_self (by simp only [List.length_append, hP5l]; omega), hX, List.map_append])
    (fun o h0 _ => by rw [List.getElem?_set_ne (Ne.symm h0)])
  have hH : (σ ++ P5 ++ τ ++ τ').set (σ.length + (j + 5)) X = σ ++ (P5 ++ (τ.set j X ++ τ')) := by
    rw [List.append_assoc, List.append_assoc, hP5, set_app, List.cons_append, List.cons_append, List.cons_append, List.cons_append, List.cons_append, List.nil_append]
    simp only [List.set_cons_succ, List.set_append_left _ _ hjl]
    rfl
  rw [hH] at hO2
  obtain ⟨τ2, hτ2⟩ : ∃ t, t = τ.set j X := ⟨_, rfl⟩
  rw [← hτ2] at hO2 hH
  rw [hP5] at hO2
  have hO := filmO_of (lo := σ.length + 3) (sp := sp') (ls := lo') (s := σ.length + 3) (l := σ.length + 4) hO2 (hget _ _ 3) (hget _ _ 4) (by omega) (by omega) (by omega)
  simp only [List.set_cons_succ, List.set_append_left _ _ hjl]
  rw [← hτ2]
  have hl1 : (fs ++ fs').length = fs.length + fs'.length := by simp
  have hfit2 : fitsF (fs ++ fs') := ⟨by omega, fun g hg => by
    rcases List.mem_append.1 hg with hg | hg
    · exact hfit.2 g hg
    · exact hfit'.2 g hg⟩
  have hfl := hO.fls
  rw [hl1] at hfl
  clear hH
  repeat' (first | refine ff ?_ | ((first | refine EvR.aSplB ?_ ?_ | refine Ev.aSplB ?_ ?_) <;> (intro hb; (try rw [hb]); (try simp only [Bool.not_eq_true', Bool.not_eq_false', Bool.not_eq_eq_eq_not, Bool.not_true, Bool.not_false, decide_eq_true_eq, decide_eq_false_iff_not, Bool.and_eq_true, Bool.and_eq_false_iff, Bool.or_eq_true, Bool.or_eq_false_iff] at hb); (try (exfalso; first | omega | exact hb trivial)))) | (apply endS trivial; rotate_left; (· exact eva); (· rfl); try refine ⟨?_, rfl⟩) | fail)
  apply EvR.aCall h5.at_; (· exact eva); (· exact h5.ok _ w' h' wr' _ _ _ sp' lo' (fs ++ fs') hO.sheet hfl n3 n4 hfit2); rintro _ _ ⟨t, rfl, rfl⟩
  cases hJ2 : isFilm w' h' wr' sp' lo' (fs ++ fs')
  · rw [if_neg (by simp)]
    refine EvR.nrm ?_
    repeat' (first | refine ff ?_ | ((first | refine EvR.aSplB ?_ ?_ | refine Ev.aSplB ?_ ?_) <;> (intro hb; (try rw [hb]); (try simp only [Bool.not_eq_true', Bool.not_eq_false', Bool.not_eq_eq_eq_not, Bool.not_true, Bool.not_false, decide_eq_true_eq, decide_eq_false_iff_not, Bool.and_eq_true, Bool.and_eq_false_iff, Bool.or_eq_true, Bool.or_eq_false_iff] at hb); (try (exfalso; first | omega | exact hb trivial)))) | (apply endS trivial; rotate_left; (· exact eva); (· rfl); try refine ⟨?_, rfl⟩) | fail)
    apply endB trivial
    · exact eva
    · exact FmRes.no rfl
  · rw [if_pos rfl]
    refine EvR.nrm ?_
    repeat' (first | refine ff ?_ | ((first | refine EvR.aSplB ?_ ?_ | refine Ev.aSplB ?_ ?_) <;> (intro hb; (try rw [hb]); (try simp only [Bool.not_eq_true', Bool.not_eq_false', Bool.not_eq_eq_eq_not, Bool.not_true, Bool.not_false, decide_eq_true_eq, decide_eq_false_iff_not, Bool.and_eq_true, Bool.and_eq_false_iff, Bool.or_eq_true, Bool.or_eq_false_iff] at hb); (try (exfalso; first | omega | exact hb trivial)))) | (apply endS trivial; rotate_left; (· exact eva); (· rfl); try refine ⟨?_, rfl⟩) | fail)
    apply endB trivial
    · exact eva
    · refine ⟨fun _ => ⟨_, σ.length + 3, σ.length + 4, σ.length + (j + 5), _, rfl, by rw [hl1], FilmO.less (lo := σ.length + 3) (FilmO.keep hO fun o h0 h1 => ?_) (by omega)⟩, fun h => (by cases h)⟩
      obtain ⟨i, rfl⟩ : ∃ i, o = σ.length + (i + 3) := ⟨o - σ.length - 3, by omega⟩
      rw [hget, hget]
      show (rowO sp' :: rowO lo' :: (τ2 ++ (τ' ++ t)))[i]? = (rowO sp' :: rowO lo' :: (τ2 ++ τ'))[i]?
      have h3 : i < (rowO sp' :: rowO lo' :: (τ2 ++ τ')).length := by
        simp only [List.length_append, List.length_cons, List.length_nil] at h1 ⊢
        omega
      rw [show (rowO sp' :: rowO lo' :: (τ2 ++ (τ' ++ t))) = (rowO sp' :: rowO lo' :: (τ2 ++ τ')) ++ t from by simp, List.getElem?_append_left h3]
end Go.Abs

