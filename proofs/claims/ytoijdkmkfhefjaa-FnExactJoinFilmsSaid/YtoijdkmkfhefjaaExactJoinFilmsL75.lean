/- Laws of functions: two films joined, by the program and by the reference. Conditions: the laws of what they call. -/
import Derived.Test.YtoijdkmkfhefjaaExactJoinFilmsL72
import Derived.Test.YtoijdkmkfhefjaaExactJoinFilmsL74
namespace Go.Abs

set_option linter.unusedSimpArgs false
set_option linter.unusedVariables false
set_option maxHeartbeats 8000000
set_option maxRecDepth 20000
/- loop.example/g01201/impl.JoinFilms -/
def impl_JoinFilms_r0 : List SOper := [
  ⟨(some 2), none, .box (.tmp 0), 0⟩,
  ⟨(some 3), none, .box (.tmp 1), 0⟩,
  ⟨(some 4), none, .alloc [(.int .i64 0), (.int .i64 0), (.bool false), (.slice none 0 0), (.slice none 0 0), (.slice none 0 0)], 0⟩,
  ⟨(some 5), none, .mov (.const (.bool false)), 0⟩]
def impl_JoinFilms_r1 (i_impl_ValidFilm i_impl_SameSheet : FuncId) : List SOper := [
  ⟨(some 6), none, .loadN 6 (.tmp 2), 0⟩,
  ⟨(some 7), none, .call (.func i_impl_ValidFilm) [(.tmp 6)], 1⟩,
  ⟨(some 8), none, .un .not (.tmp 7), 3⟩,
  ⟨(some 9), none, .mov (.tmp 8), 7⟩,
  ⟨(some 10), (some (9, false)), .loadN 6 (.tmp 3), 15⟩,
  ⟨(some 11), (some (9, false)), .call (.func i_impl_ValidFilm) [(.tmp 10)], 31⟩,
  ⟨(some 12), (some (9, false)), .un .not (.tmp 11), 63⟩,
  ⟨(some 13), none, .pick (.tmp 9) (.const (.bool true)) (.tmp 12), 127⟩,
  ⟨(some 14), none, .mov (.tmp 13), 255⟩,
  ⟨(some 15), (some (14, false)), .fieldAddr 0 (.tmp 2), 511⟩,
  ⟨(some 16), (some (14, false)), .loadN 5 (.tmp 15), 1023⟩,
  ⟨(some 17), (some (14, false)), .fieldAddr 0 (.tmp 3), 511⟩,
  ⟨(some 18), (some (14, false)), .loadN 5 (.tmp 17), 2559⟩,
  ⟨(some 19), (some (14, false)), .call (.func i_impl_SameSheet) [(.tmp 16), (.tmp 18)], 8191⟩,
  ⟨(some 20), (some (14, false)), .un .not (.tmp 19), 16383⟩,
  ⟨(some 21), none, .pick (.tmp 14) (.const (.bool true)) (.tmp 20), 32767⟩]
def impl_JoinFilms_r2 : List SOper := [
  ⟨(some 22), none, .build [(.int .i64 0), (.int .i64 0), (.bool false), (.slice none 0 0), (.slice none 0 0), (.slice none 0 0)] [], 0⟩,
  ⟨none, none, .store 6 (.tmp 4) (.tmp 22), 1⟩,
  ⟨(some 5), none, .mov (.const (.bool false)), 3⟩]
def impl_JoinFilms_r3 (i_impl_copySheet i_impl_copyFields i_impl_validFilm : FuncId) : List SOper := [
  ⟨(some 23), none, .fieldAddr 0 (.tmp 2), 0⟩,
  ⟨(some 24), none, .loadN 5 (.tmp 23), 1⟩,
  ⟨(some 25), none, .call (.func i_impl_copySheet) [(.tmp 24)], 3⟩,
  ⟨(some 26), none, .fieldAddr 5 (.tmp 2), 0⟩,
  ⟨(some 27), none, .load1 (.tmp 26), 8⟩,
  ⟨(some 28), none, .call (.func i_impl_copyFields) [(.tmp 27)], 31⟩,
  ⟨(some 29), none, .fieldAddr 5 (.tmp 3), 0⟩,
  ⟨(some 30), none, .load1 (.tmp 29), 64⟩,
  ⟨(some 31), none, .call (.func i_impl_copyFields) [(.tmp 30)], 255⟩,
  ⟨(some 32), none, .append 3 72 (.tmp 28) (.tmp 31), 511⟩,
  ⟨(some 33), none, .build [(.int .i64 0), (.int .i64 0), (.bool false), (.slice none 0 0), (.slice none 0 0), (.slice none 0 0)] [(0, 5, (.tmp 25)), (5, 1, (.tmp 32))], 1023⟩,
  ⟨(some 34), none, .call (.func i_impl_validFilm) [(.tmp 33)], 2047⟩,
  ⟨(some 35), none, .extract (.tmp 34) 0, 4095⟩,
  ⟨(some 36), none, .extract (.tmp 34) 1, 4095⟩,
  ⟨none, none, .store 6 (.tmp 4) (.tmp 35), 16383⟩,
  ⟨(some 5), none, .mov (.tmp 36), 32767⟩]
def impl_JoinFilms (i_impl_ValidFilm i_impl_SameSheet i_impl_copySheet i_impl_copyFields i_impl_validFilm : FuncId) : SFunc := ⟨37, [.cellN 4 6, .tmp 5], (.kp [0, 1] (.seq (.region impl_JoinFilms_r0 false) (.kp [2, 3, 4] (.seq (.seq (.region (impl_JoinFilms_r1 i_impl_ValidFilm i_impl_SameSheet) false) (.kp [2, 3, 4, 21] (.cond (.tmp 21) (.seq (.region impl_JoinFilms_r2 false) .ret) .skip))) (.kp [2, 3, 4] (.seq (.region (impl_JoinFilms_r3 i_impl_copySheet i_impl_copyFields i_impl_validFilm) true) .ret))))))⟩
theorem impl_JoinFilms_r3_dr {i_impl_copySheet i_impl_copyFields i_impl_validFilm : FuncId} : drawOkW wStat (impl_JoinFilms_r3 i_impl_copySheet i_impl_copyFields i_impl_validFilm) = true := by kernel_rfl
attribute [push_cast] impl_JoinFilms_r3_dr
/- loop.example/g01201/spec.JoinFilms -/
def spec_JoinFilms_r0 : List SOper := [
  ⟨(some 2), none, .box (.tmp 0), 0⟩,
  ⟨(some 3), none, .box (.tmp 1), 0⟩,
  ⟨(some 4), none, .alloc [(.int .i64 0), (.int .i64 0), (.bool false), (.slice none 0 0), (.slice none 0 0), (.slice none 0 0)], 0⟩,
  ⟨(some 5), none, .mov (.const (.bool false)), 0⟩]
def spec_JoinFilms_r1 (i_spec_l10Is i_spec_SameSheet : FuncId) : List SOper := [
  ⟨(some 8), none, .call (.func i_spec_l10Is) [(.tmp 2)], 0⟩,
  ⟨(some 9), none, .un .not (.tmp 8), 1⟩,
  ⟨(some 10), none, .mov (.tmp 9), 3⟩,
  ⟨(some 11), (some (10, false)), .call (.func i_spec_l10Is) [(.tmp 3)], 7⟩,
  ⟨(some 12), (some (10, false)), .un .not (.tmp 11), 15⟩,
  ⟨(some 13), none, .pick (.tmp 10) (.const (.bool true)) (.tmp 12), 31⟩,
  ⟨(some 14), none, .mov (.tmp 13), 63⟩,
  ⟨(some 15), (some (14, false)), .fieldAddr 0 (.tmp 2), 127⟩,
  ⟨(some 16), (some (14, false)), .loadN 5 (.tmp 15), 255⟩,
  ⟨(some 17), (some (14, false)), .fieldAddr 0 (.tmp 3), 127⟩,
  ⟨(some 18), (some (14, false)), .loadN 5 (.tmp 17), 639⟩,
  ⟨(some 19), (some (14, false)), .call (.func i_spec_SameSheet) [(.tmp 16), (.tmp 18)], 2047⟩,
  ⟨(some 20), (some (14, false)), .un .not (.tmp 19), 4095⟩,
  ⟨(some 21), none, .pick (.tmp 14) (.const (.bool true)) (.tmp 20), 8191⟩,
  ⟨(some 22), none, .mov (.tmp 21), 16383⟩,
  ⟨(some 23), (some (22, false)), .fieldAddr 5 (.tmp 2), 32767⟩,
  ⟨(some 24), (some (22, false)), .load1 (.tmp 23), 65535⟩,
  ⟨(some 25), (some (22, false)), .len false (.tmp 24), 131071⟩,
  ⟨(some 26), (some (22, false)), .fieldAddr 5 (.tmp 3), 32767⟩,
  ⟨(some 27), (some (22, false)), .load1 (.tmp 26), 294911⟩,
  ⟨(some 28), (some (22, false)), .len false (.tmp 27), 819199⟩,
  ⟨(some 29), (some (22, false)), .bin .add .other (.tmp 25) (.tmp 28), 2097151⟩,
  ⟨(some 30), (some (22, false)), .bin .gtr .other (.tmp 29) (.const (.int .i64 16)), 4194303⟩,
  ⟨(some 31), none, .pick (.tmp 22) (.const (.bool true)) (.tmp 30), 8388607⟩]
def spec_JoinFilms_r2 : List SOper := [
  ⟨(some 32), none, .build [(.int .i64 0), (.int .i64 0), (.bool false), (.slice none 0 0), (.slice none 0 0), (.slice none 0 0)] [], 0⟩,
  ⟨none, none, .store 6 (.tmp 4) (.tmp 32), 1⟩,
  ⟨(some 5), none, .mov (.const (.bool false)), 3⟩]
def spec_JoinFilms_r3 (i_spec_l10Some : FuncId) : List SOper := [
  ⟨(some 33), none, .fieldAddr 5 (.tmp 2), 0⟩,
  ⟨(some 34), none, .load1 (.tmp 33), 1⟩,
  ⟨(some 35), none, .len false (.tmp 34), 3⟩,
  ⟨(some 36), none, .call (.func i_spec_l10Some) [(.tmp 2), (.const (.int .i64 0)), (.tmp 35)], 7⟩,
  ⟨(some 6), none, .alloc [(.int .i64 0), (.int .i64 0), (.bool false), (.slice none 0 0), (.slice none 0 0), (.slice none 0 0)], 0⟩,
  ⟨none, none, .store 6 (.tmp 6) (.tmp 36), 31⟩]
def spec_JoinFilms_r4 (i_spec_l10Some : FuncId) : List SOper := [
  ⟨(some 37), none, .fieldAddr 5 (.tmp 3), 0⟩,
  ⟨(some 38), none, .load1 (.tmp 37), 1⟩,
  ⟨(some 39), none, .len false (.tmp 38), 3⟩,
  ⟨(some 40), none, .call (.func i_spec_l10Some) [(.tmp 3), (.const (.int .i64 0)), (.tmp 39)], 7⟩,
  ⟨(some 7), none, .alloc [(.int .i64 0), (.int .i64 0), (.bool false), (.slice none 0 0), (.slice none 0 0), (.slice none 0 0)], 0⟩,
  ⟨none, none, .store 6 (.tmp 7) (.tmp 40), 31⟩]
def spec_JoinFilms_r5 : List SOper := [
  ⟨(some 41), none, .fieldAddr 5 (.tmp 6), 0⟩,
  ⟨(some 42), none, .load1 (.tmp 41), 1⟩,
  ⟨(some 43), none, .fieldAddr 5 (.tmp 7), 0⟩,
  ⟨(some 44), none, .load1 (.tmp 43), 4⟩,
  ⟨(some 45), none, .append 3 72 (.tmp 42) (.tmp 44), 15⟩,
  ⟨(some 46), none, .fieldAddr 5 (.tmp 6), 31⟩,
  ⟨none, none, .store 1 (.tmp 46) (.tmp 45), 63⟩]
def spec_JoinFilms_r6 : List SOper := [
  ⟨(some 47), none, .loadN 6 (.tmp 6), 0⟩,
  ⟨none, none, .store 6 (.tmp 4) (.tmp 47), 1⟩,
  ⟨(some 5), none, .mov (.const (.bool true)), 3⟩]
def spec_JoinFilms (i_spec_l10Is i_spec_SameSheet i_spec_l10Some : FuncId) : SFunc := ⟨48, [.cellN 4 6, .tmp 5], (.kp [0, 1] (.seq (.region spec_JoinFilms_r0 false) (.kp [2, 3, 4] (.seq (.seq (.region (spec_JoinFilms_r1 i_spec_l10Is i_spec_SameSheet) false) (.kp [2, 3, 4, 31] (.cond (.tmp 31) (.seq (.region spec_JoinFilms_r2 false) .ret) .skip))) (.kp [2, 3, 4] (.seq (.region (spec_JoinFilms_r3 i_spec_l10Some) false) (.kp [3, 4, 6] (.seq (.region (spec_JoinFilms_r4 i_spec_l10Some) false) (.kp [4, 6, 7] (.seq (.region spec_JoinFilms_r5 false) (.kp [4, 6] (.seq (.region spec_JoinFilms_r6 false) .ret))))))))))))⟩


section
variable {C : Ctab} {F : Frame} {τ l : Heap}
/-- A row of fields gets those of another. -/
theorem EvR.ap3N {Q} {d n i m k : Nat} {rest : List SOper} {x y : Operand} {cells ys : List Value} {yv : Value} (h1 : eval F x = .slice (some ⟨τ.length + i, 0, none⟩) m m) (h2 : l[i]? = some ⟨cells, 3, true⟩) (h3 : cells.length = m * 3) (h4 : eval F y = yv)
    (h5 : Row (τ ++ l) 3 yv k ys) (hm : m + k ≤ 1048576) (ha : ys.all cellOk = true) (h : EvR C rest ((d, .slice (some ⟨τ.length + i, 0, none⟩) (m + k) (m + k)) :: F) (τ ++ l.set i ⟨cells ++ ys, 3, true⟩) Q) :
    EvR C (⟨some d, none, .append 3 72 x y, n⟩ :: rest) F (τ ++ l) Q := by
  refine EvR.opS (σ' := τ ++ l.set i ⟨cells ++ ys, 3, true⟩) ?_ h
  have hx : appCells (τ ++ l) 3 yv = some (ys, k) := by
    unfold Row at h5
    cases yv with
    | slice a n' c' =>
      have hn : n' = k := by cases a with | none => obtain ⟨h, h', _⟩ := h5; omega | some a => exact h5.1
      subst hn
      simp only [appCells, Row.cells (show Row (τ ++ l) 3 (.slice a n' c') n' ys from by unfold Row; exact h5), Option.map_some]
    | _ => exact h5.elim
  have h44 : (2 : Nat) ^ 44 = 17592186044416 := by decide
  have := append_app τ l 3 72 i m k h2 h3 (by omega) hx (by omega) (by omega) ha
  simp only [evOp, h1, h4, this]
theorem EvR.heap {Q} {ops : List SOper} {H H' : Heap} (h : EvR C ops F H' Q) (e : H = H') : EvR C ops F H Q := by subst e; exact h
/-- A variable is written. -/
theorem EvR.stV {Q} {n m : Nat} {rest : List SOper} {x y : Operand} {b o : Nat} {v : Value} {cells : List Value} {H : Heap} (h2 : H[b]? = some ⟨cells, 0, true⟩) (h1 : eval F x = .pointer (some ⟨b, o, none⟩)) (h3 : eval F y = v) (hm : v.cells.toList.length = m) (ho : o + m ≤ cells.length) (hv : v.cells.toList.all cellOk = true)
    (h : EvR C rest F (H.set b ⟨splice cells o v.cells.toList, 0, true⟩) Q) : EvR C (⟨none, none, .store m x y, n⟩ :: rest) F H Q := by
  refine EvR.opN (v := undef) (σ' := H.set b ⟨splice cells o v.cells.toList, 0, true⟩) ?_ h
  subst hm
  have : aStore H v.cells.toList.length (.pointer (some ⟨b, o, none⟩)) v = some (H.set b ⟨splice cells o v.cells.toList, 0, true⟩) := by
    simp only [aStore, h2]
    rw [if_pos (by rw [hv, decide_eq_true ho, Nat.beq_refl]; rfl)]
  simp only [evOp, h1, h3, this, Option.map_some]
end
theorem EvR.ldV {C : Ctab} {F : Frame} {Q} {n d o : Nat} {rest : List SOper} {x : Operand} {b : Nat} {v : Value} {cells : List Value} {r : Bool} {σ l : Heap} (h2 : (σ ++ l)[σ.length + b]? = some ⟨cells, 0, r⟩) (h1 : eval F x = .pointer (some ⟨σ.length + b, o, none⟩)) (h3 : cells[o]? = some v)
    (h : EvR C rest ((d, v) :: F) (σ ++ l) Q) : EvR C (⟨some d, none, .load1 x, n⟩ :: rest) F (σ ++ l) Q := by
  refine EvR.opS (evL_ok ?_) h
  have hp : PtAt (σ ++ l) (σ.length + b) o [v] := PtAt.part h2 o [v] (by
    have ho := (List.getElem?_eq_some_iff.1 h3)
    obtain ⟨ho, e⟩ := ho
    rw [List.drop_eq_getElem_cons ho, e]
    rfl)
  have := hp.load1R (l := []) (k := 0) (by simp)
  rw [List.append_nil, Nat.add_zero] at this
  rw [evL, h1]
  exact this
theorem EvR.ldNV {C : Ctab} {F : Frame} {Q} {n d m : Nat} {rest : List SOper} {x : Operand} {b : Nat} {cells : List Value} {r : Bool} {σ l : Heap} (h2 : (σ ++ l)[σ.length + b]? = some ⟨cells, 0, r⟩) (h1 : eval F x = .pointer (some ⟨σ.length + b, 0, none⟩)) (h3 : cells.length = m) (hm : 0 < m)
    (h : EvR C rest ((d, .agg cells.toArray) :: F) (σ ++ l) Q) : EvR C (⟨some d, none, .loadN m x, n⟩ :: rest) F (σ ++ l) Q := by
  refine EvR.opS (evL_ok ?_) h
  have hp : PtAt (σ ++ l) (σ.length + b) 0 cells := PtAt.whole h2
  have := hp.loadNR (l := []) h3 hm
  rw [List.append_nil] at this
  rw [evL, h1]
  exact this
theorem slOf_all (R : Rws) : (R.map slOf).all cellOk = true := by simp [slOf, cellOk]
theorem sameS_true {w h : Int} {wr : Bool} {sp lo : List Nat} {w' h' : Int} {wr' : Bool} {sp' lo' : List Nat} (hs : sameS w h wr sp lo w' h' wr' sp' lo' = true) : w' = w ∧ h' = h ∧ wr' = wr ∧ sp' = sp ∧ lo' = lo := by
  simp only [sameS, Bool.and_eq_true, decide_eq_true_eq] at hs
  obtain ⟨⟨⟨⟨a, b⟩, c⟩, d⟩, e⟩ := hs
  exact ⟨a.symm, b.symm, c.symm, d.symm, e.symm⟩
theorem isFilm_app (w h : Int) (wr : Bool) (sp lo : List Nat) (fs gs : List Fld) (h1 : isFilm w h wr sp lo fs = true) (h2 : isFilm w h wr sp lo gs = true) : isFilm w h wr sp lo (fs ++ gs) = decide (fs.length + gs.length ≤ 16) := by
  unfold isFilm at h1 h2 ⊢
  simp only [Bool.and_eq_true, decide_eq_true_eq] at h1 h2
  rw [h1.1.1, List.all_append, h1.2, h2.2, List.length_append]
  simp
def joinOk (w h : Int) (wr : Bool) (sp lo : List Nat) (fs : List Fld) (w' h' : Int) (wr' : Bool) (sp' lo' : List Nat) (fs' : List Fld) : Bool :=
  isFilm w h wr sp lo fs && (isFilm w' h' wr' sp' lo' fs' && (sameS w h wr sp lo w' h' wr' sp' lo' && decide (fs.length + fs'.length ≤ 16)))
def in32 (xs : List Nat) : Prop := ∀ x ∈ xs, x < 4294967296
def JoinFilms_ok (c : Contract) : Prop := ∀ (σ : Heap) (w h : Int) (wr : Bool) (sv lv fv : Value) (sp lo : List Nat) (fs : List Fld) (w' h' : Int) (wr' : Bool) (sv' lv' fv' : Value) (sp' lo' : List Nat) (fs' : List Fld), ShR σ sv lv sp lo → FlsR σ fv fs → ShR σ sv' lv' sp' lo' → FlsR σ fv' fs' →
    sp.length ≤ 1048576 → lo.length ≤ 1048576 → fitsF fs → sp'.length ≤ 1048576 → lo'.length ≤ 1048576 → fitsF fs' → in32 sp → in32 lo → in32 sp' → in32 lo' →
    Ret c [fmV w h wr sv lv fv, fmV w' h' wr' sv' lv' fv'] σ fun v σ' => FmRes (joinOk w h wr sp lo fs w' h' wr' sp' lo' fs') σ σ' v w h wr sp lo (fs ++ fs')
abbrev impl_JoinFilms_ok := JoinFilms_ok
abbrev spec_JoinFilms_ok := JoinFilms_ok
theorem impl_JoinFilms_law {C : Ctab} {i1 i2 i3 i4 i5 : FuncId} {c1 c2 c3 c4 c5 : Contract} (h1 : Has C i1 c1 impl_ValidFilm_ok) (h2 : Has C i2 c2 impl_SameSheet_ok) (h3 : Has C i3 c3 impl_copySheet_ok) (h4 : Has C i4 c4 impl_copyFields_ok) (h5 : Has C i5 c5 impl_validFilm_ok) : impl_JoinFilms_ok (bodyC C (impl_JoinFilms i1 i2 i3 i4 i5) true) := by
  intro σ w h wr sv lv fv sp lo fs w' h' wr' sv' lv' fv' sp' lo' fs' ⟨r1, r2⟩ hf ⟨r3, r4⟩ hf' n1 n2 hfit n3 n4 hfit' b1_ b2_ b3_ b4_
  have k1 := r1.ok
  have k2 := r2.ok
  have k3 := hf.ok
  have k4 := r3.ok
  have k5 := r4.ok
  have k6 := hf'.ok
  have hV := fun τ => h1.ok (σ ++ τ) w h wr sv lv fv sp lo fs ⟨r1.ext _, r2.ext _⟩ (hf.ext _) n1 n2 hfit
  have hV' := fun τ => h1.ok (σ ++ τ) w' h' wr' sv' lv' fv' sp' lo' fs' ⟨r3.ext _, r4.ext _⟩ (hf'.ext _) n3 n4 hfit'
  cases hI : isFilm w h wr sp lo fs
  · rw [show joinOk w h wr sp lo fs w' h' wr' sp' lo' fs' = false from by unfold joinOk; rw [hI]; rfl]
    refine ret_bd rfl rfl ?_
    repeat' (first | refine ff ?_ | ((first | refine EvR.aSplB ?_ ?_ | refine Ev.aSplB ?_ ?_) <;> (intro hb; (try rw [hb]); (try simp only [Bool.not_eq_true', Bool.not_eq_false', Bool.not_eq_eq_eq_not, Bool.not_true, Bool.not_false, decide_eq_true_eq, decide_eq_false_iff_not, Bool.and_eq_true, Bool.and_eq_false_iff, Bool.or_eq_true, Bool.or_eq_false_iff] at hb); (try (exfalso; first | omega | exact hb trivial)))) | (apply endS trivial; rotate_left; (· exact eva); (· rfl); try refine ⟨?_, rfl⟩) | fail)
    (apply EvR.aCall h1.at_; (· exact eva); (· exact  hV _); (rintro _ _ ⟨rfl, rfl⟩; refine EvR.nrm ?_))
    rw [hI]
    repeat' (first | refine ff ?_ | ((first | refine EvR.aSplB ?_ ?_ | refine Ev.aSplB ?_ ?_) <;> (intro hb; (try rw [hb]); (try simp only [Bool.not_eq_true', Bool.not_eq_false', Bool.not_eq_eq_eq_not, Bool.not_true, Bool.not_false, decide_eq_true_eq, decide_eq_false_iff_not, Bool.and_eq_true, Bool.and_eq_false_iff, Bool.or_eq_true, Bool.or_eq_false_iff] at hb); (try (exfalso; first | omega | exact hb trivial)))) | (apply endS trivial; rotate_left; (· exact eva); (· rfl); try refine ⟨?_, rfl⟩) | fail)
    apply endB trivial
    · exact eva
    · exact FmRes.no rfl
  cases hI' : isFilm w' h' wr' sp' lo' fs'
  · rw [show joinOk w h wr sp lo fs w' h' wr' sp' lo' fs' = false from by unfold joinOk; rw [hI']; simp]
    refine ret_bd rfl rfl ?_
    repeat' (first | refine ff ?_ | ((first | refine EvR.aSplB ?_ ?_ | refine Ev.aSplB ?_ ?_) <;> (intro hb; (try rw [hb]); (try simp only [Bool.not_eq_true', Bool.not_eq_false', Bool.not_eq_eq_eq_not, Bool.not_true, Bool.not_false, decide_eq_true_eq, decide_eq_false_iff_not, Bool.and_eq_true, Bool.and_eq_false_iff, Bool.or_eq_true, Bool.or_eq_false_iff] at hb); (try (exfalso; first | omega | exact hb trivial)))) | (apply endS trivial; rotate_left; (· exact eva); (· rfl); try refine ⟨?_, rfl⟩) | fail)
    (apply EvR.aCall h1.at_; (· exact eva); (· exact  hV _); (rintro _ _ ⟨rfl, rfl⟩; refine EvR.nrm ?_))
    rw [hI]
    repeat' (first | refine ff ?_ | ((first | refine EvR.aSplB ?_ ?_ | refine Ev.aSplB ?_ ?_) <;> (intro hb; (try rw [hb]); (try simp only [Bool.not_eq_true', Bool.not_eq_false', Bool.not_eq_eq_eq_not, Bool.not_true, Bool.not_false, decide_eq_true_eq, decide_eq_false_iff_not, Bool.and_eq_true, Bool.and_eq_false_iff, Bool.or_eq_true, Bool.or_eq_false_iff] at hb); (try (exfalso; first | omega | exact hb trivial)))) | (apply endS trivial; rotate_left; (· exact eva); (· rfl); try refine ⟨?_, rfl⟩) | fail)
    (apply EvR.aCall h1.at_; (· exact eva); (· exact  hV' _); (rintro _ _ ⟨rfl, rfl⟩; refine EvR.nrm ?_))
    rw [hI']
    repeat' (first | refine ff ?_ | ((first | refine EvR.aSplB ?_ ?_ | refine Ev.aSplB ?_ ?_) <;> (intro hb; (try rw [hb]); (try simp only [Bool.not_eq_true', Bool.not_eq_false', Bool.not_eq_eq_eq_not, Bool.not_true, Bool.not_false, decide_eq_true_eq, decide_eq_false_iff_not, Bool.and_eq_true, Bool.and_eq_false_iff, Bool.or_eq_true, Bool.or_eq_false_iff] at hb); (try (exfalso; first | omega | exact hb trivial)))) | (apply endS trivial; rotate_left; (· exact eva); (· rfl); try refine ⟨?_, rfl⟩) | fail)
    apply endB trivial
    · exact eva
    · exact FmRes.no rfl
  obtain ⟨u1, u2⟩ := isSheet_nums (isFilm_sheet hI) b1_ b2_
  obtain ⟨u3, u4⟩ := isSheet_nums (isFilm_sheet hI') b3_ b4_
  have hS := fun τ => h2.ok (σ ++ τ) w h wr sv lv sp lo w' h' wr' sv' lv' sp' lo' ⟨r1.ext _, r2.ext _⟩ ⟨r3.ext _, r4.ext _⟩ n1 n2 n3 n4 u1 u2 u3 u4
  cases hJ : sameS w h wr sp lo w' h' wr' sp' lo'
  · rw [show joinOk w h wr sp lo fs w' h' wr' sp' lo' fs' = false from by unfold joinOk; rw [hJ]; simp]
    refine ret_bd rfl rfl ?_
    repeat' (first | refine ff ?_ | ((first | refine EvR.aSplB ?_ ?_ | refine Ev.aSplB ?_ ?_) <;> (intro hb; (try rw [hb]); (try simp only [Bool.not_eq_true', Bool.not_eq_false', Bool.not_eq_eq_eq_not, Bool.not_true, Bool.not_false, decide_eq_true_eq, decide_eq_false_iff_not, Bool.and_eq_true, Bool.and_eq_false_iff, Bool.or_eq_true, Bool.or_eq_false_iff] at hb); (try (exfalso; first | omega | exact hb trivial)))) | (apply endS trivial; rotate_left; (· exact eva); (· rfl); try refine ⟨?_, rfl⟩) | fail)
    (apply EvR.aCall h1.at_; (· exact eva); (· exact  hV _); (rintro _ _ ⟨rfl, rfl⟩; refine EvR.nrm ?_))
    rw [hI]
    repeat' (first | refine ff ?_ | ((first | refine EvR.aSplB ?_ ?_ | refine Ev.aSplB ?_ ?_) <;> (intro hb; (try rw [hb]); (try simp only [Bool.not_eq_true', Bool.not_eq_false', Bool.not_eq_eq_eq_not, Bool.not_true, Bool.not_false, decide_eq_true_eq, decide_eq_false_iff_not, Bool.and_eq_true, Bool.and_eq_false_iff, Bool.or_eq_true, Bool.or_eq_false_iff] at hb); (try (exfalso; first | omega | exact hb trivial)))) | (apply endS trivial; rotate_left; (· exact eva); (· rfl); try refine ⟨?_, rfl⟩) | fail)
    (apply EvR.aCall h1.at_; (· exact eva); (· exact  hV' _); (rintro _ _ ⟨rfl, rfl⟩; refine EvR.nrm ?_))
    rw [hI']
    repeat' (first | refine ff ?_ | ((first | refine EvR.aSplB ?_ ?_ | refine Ev.aSplB ?_ ?_) <;> (intro hb; (try rw [hb]); (try simp only [Bool.not_eq_true', Bool.not_eq_false', Bool.not_eq_eq_eq_not, Bool.not_true, Bool.not_false, decide_eq_true_eq, decide_eq_false_iff_not, Bool.and_eq_true, Bool.and_eq_false_iff, Bool.or_eq_true, Bool.or_eq_false_iff] at hb); (try (exfalso; first | omega | exact hb trivial)))) | (apply endS trivial; rotate_left; (· exact eva); (· rfl); try refine ⟨?_, rfl⟩) | fail)
    (apply EvR.aCall h2.at_; (· exact eva); (· exact  hS _); (rintro _ _ ⟨rfl, rfl⟩; refine EvR.nrm ?_))
    rw [hJ]
    repeat' (first | refine ff ?_ | ((first | refine EvR.aSplB ?_ ?_ | refine Ev.aSplB ?_ ?_) <;> (intro hb; (try rw [hb]); (try simp only [Bool.not_eq_true', Bool.not_eq_false', Bool.not_eq_eq_eq_not, Bool.not_true, Bool.not_false, decide_eq_true_eq, decide_eq_false_iff_not, Bool.and_eq_true, Bool.and_eq_false_iff, Bool.or_eq_true, Bool.or_eq_false_iff] at hb); (try (exfalso; first | omega | exact hb trivial)))) | (apply endS trivial; rotate_left; (· exact eva); (· rfl); try refine ⟨?_, rfl⟩) | fail)
    apply endB trivial
    · exact eva
    · exact FmRes.no rfl
  obtain ⟨rfl, rfl, rfl, rfl, rfl⟩ := sameS_true hJ
  have hA := isFilm_app _ _ _ _ _ fs fs' hI hI'
  rw [show joinOk w' h' wr' sp' lo' fs w' h' wr' sp' lo' fs' = isFilm w' h' wr' sp' lo' (fs ++ fs') from by unfold joinOk; rw [hI, hI', hJ, hA]; simp]
  have h16 := isFilm_len hI
  have h16' := isFilm_len hI'
  refine ret_bd rfl rfl ?_
  repeat' (first | refine ff ?_ | ((first | refine EvR.aSplB ?_ ?_ | refine Ev.aSplB ?_ ?_) <;> (intro hb; (try rw [hb]); (try simp only [Bool.not_eq_true', Bool.not_eq_false', Bool.not_eq_eq_eq_not, Bool.not_true, Bool.not_false, decide_eq_true_eq, decide_eq_false_iff_not, Bool.and_eq_true, Bool.and_eq_false_iff, Bool.or_eq_true, Bool.or_eq_false_iff] at hb); (try (exfalso; first | omega | exact hb trivial)))) | (apply endS trivial; rotate_left; (· exact eva); (· rfl); try refine ⟨?_, rfl⟩) | fail)
  (apply EvR.aCall h1.at_; (· exact eva); (· exact  hV _); (rintro _ _ ⟨rfl, rfl⟩; refine EvR.nrm ?_))
  rw [hI]
  repeat' (first | refine ff ?_ | ((first | refine EvR.aSplB ?_ ?_ | refine Ev.aSplB ?_ ?_) <;> (intro hb; (try rw [hb]); (try simp only [Bool.not_eq_true', Bool.not_eq_false', Bool.not_eq_eq_eq_not, Bool.not_true, Bool.not_false, decide_eq_true_eq, decide_eq_false_iff_not, Bool.and_eq_true, Bool.and_eq_false_iff, Bool.or_eq_true, Bool.or_eq_false_iff] at hb); (try (exfalso; first | omega | exact hb trivial)))) | (apply endS trivial; rotate_left; (· exact eva); (· rfl); try refine ⟨?_, rfl⟩) | fail)
  (apply EvR.aCall h1.at_; (· exact eva); (· exact  hV' _); (rintro _ _ ⟨rfl, rfl⟩; refine EvR.nrm ?_))
  rw [hI']
  repeat' (first | refine ff ?_ | ((first | refine EvR.aSplB ?_ ?_ | refine Ev.aSplB ?_ ?_) <;> (intro hb; (try rw [hb]); (try simp only [Bool.not_eq_true', Bool.not_eq_false', Bool.not_eq_eq_eq_not, Bool.not_true, Bool.not_false, decide_eq_true_eq, decide_eq_false_iff_not, Bool.and_eq_true, Bool.and_eq_false_iff, Bool.or_eq_true, Bool.or_eq_false_iff] at hb); (try (exfalso; first | omega | exact hb trivial)))) | (apply endS trivial; rotate_left; (· exact eva); (· rfl); try refine ⟨?_, rfl⟩) | fail)
  (apply EvR.aCall h2.at_; (· exact eva); (· exact  hS _); (rintro _ _ ⟨rfl, rfl⟩; refine EvR.nrm ?_))
  rw [hJ]
  repeat' (first | refine ff ?_ | (apply EvR.aCall h3.at_; (· exact eva); (· apply h3.ok <;> exact sid); (rintro _ _ ⟨rfl, rfl⟩; refine EvR.nrm ?_)) | ((first | refine EvR.aSplB ?_ ?_ | refine Ev.aSplB ?_ ?_) <;> (intro hb; (try rw [hb]); (try simp only [Bool.not_eq_true', Bool.not_eq_false', Bool.not_eq_eq_eq_not, Bool.not_true, Bool.not_false, decide_eq_true_eq, decide_eq_false_iff_not, Bool.and_eq_true, Bool.and_eq_false_iff, Bool.or_eq_true, Bool.or_eq_false_iff] at hb); (try (exfalso; first | omega | exact hb trivial)))) | (apply endS trivial; rotate_left; (· exact eva); (· rfl); try refine ⟨?_, rfl⟩) | fail)
  apply EvR.aCall h4.at_; (· exact eva); (· exact h4.ok _ fv fs (hf.ext _) hfit); rintro _ _ ⟨τ, b, R, rfl, rfl, ho⟩
  refine EvR.nrm ?_
  repeat' (first | refine ff ?_ | ((first | refine EvR.aSplB ?_ ?_ | refine Ev.aSplB ?_ ?_) <;> (intro hb; (try rw [hb]); (try simp only [Bool.not_eq_true', Bool.not_eq_false', Bool.not_eq_eq_eq_not, Bool.not_true, Bool.not_false, decide_eq_true_eq, decide_eq_false_iff_not, Bool.and_eq_true, Bool.and_eq_false_iff, Bool.or_eq_true, Bool.or_eq_false_iff] at hb); (try (exfalso; first | omega | exact hb trivial)))) | (apply endS trivial; rotate_left; (· exact eva); (· rfl); try refine ⟨?_, rfl⟩) | fail)
  apply EvR.aCall h4.at_; (· exact eva); (· exact h4.ok _ fv' fs' (hf'.ext _) hfit'); rintro _ _ ⟨τ', b', R', rfl, rfl, ho'⟩
  refine EvR.nrm ?_
  obtain ⟨P5, hP5⟩ : ∃ P : Heap, P = [⟨[.int .i64 w', .int .i64 h', .bool wr', sv, lv, fv], 0, true⟩, ⟨[.int .i64 w', .int .i64 h', .bool wr', sv', lv', fv'], 0, true⟩, ⟨[.int .i64 0, .int .i64 0, .bool false, .slice none 0 0, .slice none 0 0, .slice none 0 0], 0, true⟩, rowO sp', rowO lo'] := ⟨_, rfl⟩
  have ho1 : FlsO (σ ++ P5 ++ τ) (σ.length + 5) b R fs := by
    rw [hP5]
    simp only [List.length_append, List.length_cons, List.length_nil, Nat.zero_add, Nat.reduceAdd] at ho
    exact ho
  have ho2 : FlsO (σ ++ P5 ++ τ ++ τ') (σ.length + (τ.length + 5)) b' R' fs' := by
    rw [hP5]
    have := ho'
    simp only [List.length_append, List.length_cons, List.length_nil, Nat.zero_add, Nat.reduceAdd, List.append_assoc, List.cons_append, List.nil_append, Nat.add_assoc] at this ⊢
    exact this
  clear ho ho'
  obtain ⟨j, rfl⟩ : ∃ j, b = σ.length + (j + 5) := ⟨b - σ.length - 5, by have := ho1.bl; omega⟩
  have hj : τ[j]? = some ⟨R.map slOf, 3, true⟩ := by
    have := ho1.row
    rw [hP5, List.append_assoc, hget] at this
    exact this
  have hjl := (List.getElem?_eq_some_iff.1 hj).1
  obtain ⟨X, hX⟩ : ∃ X : AObj, X = ⟨R.map slOf ++ R'.map slOf, 3, true⟩ := ⟨_, rfl⟩
  refine EvR.ap3N (τ := σ) (cells := R.map slOf) (ys := R'.map slOf) (yv := slV b' fs'.length) (i := j + 5) (m := fs.length) (k := fs'.length) rfl ?_ (by rw [List.length_map]; exact ho1.len) rfl ?_ (by omega) (slOf_all _) ?_
  · show (τ ++ _)[j]? = _
    rw [List.getElem?_append_left hjl]; exact hj
  · have := Row.whole ho2.row (show 3 ≠ 0 by omega) (by rw [List.length_map]; exact ho2.len)
    rw [hP5] at this
    simp only [List.append_assoc, List.cons_append, List.nil_append] at this
    exact this
  rw [← hX]
  have hbn := ho1.bn
  have hP5l : P5.length = 5 := by rw [hP5]; rfl
  have hO2 := FlsO.more (H' := (σ ++ P5 ++ τ ++ τ').set (σ.length + (j + 5)) X) (ho1.ext τ') ho2.inv (fun p hp => by have := ho1.inv.lt hp; simp only [List.length_append, hP5l] at this; omega)
    (fun hc => by obtain ⟨q, hq, heq⟩ := List.mem_map.1 hc; have := ho2.inv.low q hq; omega) (by omega) ho2.con
    (by rw [List.getElem?_set_self (by simp only [List.length_append, hP5l]; omega), hX, List.map_append])
    (fun o h0 _ => by rw [List.getElem?_set_ne (Ne.symm h0)])
  have hH : (σ ++ P5 ++ τ ++ τ').set (σ.length + (j + 5)) X = σ ++ (P5 ++ (τ.set j X ++ τ')) := by
    rw [List.append_assoc, List.append_assoc, hP5, set_app, List.cons_append, List.cons_append, List.cons_append, List.cons_append, List.cons_append, List.nil_append]
    simp only [List.set_cons_succ, List.set_append_left _ _ hjl]
    rfl
  rw [hH] at hO2
  obtain ⟨τ2, hτ2⟩ : ∃ t, t = τ.set j X := ⟨_, rfl⟩
  rw [← hτ2] at hO2 hH
  rw [hP5] at hO2
  have hO := filmO_of (lo := σ.length + 3) (sp := sp') (ls := lo') (s := σ.length + 3) (l := σ.length + 4) hO2 (hget _ _ 3) (hget _ _ 4) (by omega) (by omega) (by omega)
  simp only [List.set_cons_succ, List.set_append_left _ _ hjl]
  rw [← hτ2]
  have hl1 : (fs ++ fs').length = fs.length + fs'.length := by simp
  have hfit2 : fitsF (fs ++ fs') := ⟨by omega, fun g hg => by
    rcases List.mem_append.1 hg with hg | hg
    · exact hfit.2 g hg
    · exact hfit'.2 g hg⟩
  have hfl := hO.fls
  rw [hl1] at hfl
  clear hH
  repeat' (first | refine ff ?_ | ((first | refine EvR.aSplB ?_ ?_ | refine Ev.aSplB ?_ ?_) <;> (intro hb; (try rw [hb]); (try simp only [Bool.not_eq_true', Bool.not_eq_false', Bool.not_eq_eq_eq_not, Bool.not_true, Bool.not_false, decide_eq_true_eq, decide_eq_false_iff_not, Bool.and_eq_true, Bool.and_eq_false_iff, Bool.or_eq_true, Bool.or_eq_false_iff] at hb); (try (exfalso; first | omega | exact hb trivial)))) | (apply endS trivial; rotate_left; (· exact eva); (· rfl); try refine ⟨?_, rfl⟩) | fail)
  apply EvR.aCall h5.at_; (· exact eva); (· exact h5.ok _ w' h' wr' _ _ _ sp' lo' (fs ++ fs') hO.sheet hfl n3 n4 hfit2); rintro _ _ ⟨t, rfl, rfl⟩
  cases hJ2 : isFilm w' h' wr' sp' lo' (fs ++ fs')
  · rw [if_neg (by simp)]
    refine EvR.nrm ?_
    repeat' (first | refine ff ?_ | ((first | refine EvR.aSplB ?_ ?_ | refine Ev.aSplB ?_ ?_) <;> (intro hb; (try rw [hb]); (try simp only [Bool.not_eq_true', Bool.not_eq_false', Bool.not_eq_eq_eq_not, Bool.not_true, Bool.not_false, decide_eq_true_eq, decide_eq_false_iff_not, Bool.and_eq_true, Bool.and_eq_false_iff, Bool.or_eq_true, Bool.or_eq_false_iff] at hb); (try (exfalso; first | omega | exact hb trivial)))) | (apply endS trivial; rotate_left; (· exact eva); (· rfl); try refine ⟨?_, rfl⟩) | fail)
    apply endB trivial
    · exact eva
    · exact FmRes.no rfl
  · rw [if_pos rfl]
    refine EvR.nrm ?_
    repeat' (first | refine ff ?_ | ((first | refine EvR.aSplB ?_ ?_ | refine Ev.aSplB ?_ ?_) <;> (intro hb; (try rw [hb]); (try simp only [Bool.not_eq_true', Bool.not_eq_false', Bool.not_eq_eq_eq_not, Bool.not_true, Bool.not_false, decide_eq_true_eq, decide_eq_false_iff_not, Bool.and_eq_true, Bool.and_eq_false_iff, Bool.or_eq_true, Bool.or_eq_false_iff] at hb); (try (exfalso; first | omega | exact hb trivial)))) | (apply endS trivial; rotate_left; (· exact eva); (· rfl); try refine ⟨?_, rfl⟩) | fail)
    apply endB trivial
    · exact eva
    · refine ⟨fun _ => ⟨_, σ.length + 3, σ.length + 4, σ.length + (j + 5), _, rfl, by rw [hl1], FilmO.less (lo := σ.length + 3) (FilmO.keep hO fun o h0 h1 => ?_) (by omega)⟩, fun h => (by cases h)⟩
      obtain ⟨i, rfl⟩ : ∃ i, o = σ.length + (i + 3) := ⟨o - σ.length - 3, by omega⟩
      rw [hget, hget]
      show (rowO sp' :: rowO lo' :: (τ2 ++ (τ' ++ t)))[i]? = (rowO sp' :: rowO lo' :: (τ2 ++ τ'))[i]?
      have h3 : i < (rowO sp' :: rowO lo' :: (τ2 ++ τ')).length := by
        simp only [List.length_append, List.length_cons, List.length_nil] at h1 ⊢
        omega
      rw [show (rowO sp' :: rowO lo' :: (τ2 ++ (τ' ++ t))) = (rowO sp' :: rowO lo' :: (τ2 ++ τ')) ++ t from by simp, List.getElem?_append_left h3]
theorem spec_JoinFilms_law {C : Ctab} {i1 i2 i3 : FuncId} {c1 c2 c3 : Contract} (h1 : Has C i1 c1 spec_l10Is_ok) (h2 : Has C i2 c2 spec_SameSheet_ok) (h3 : Has C i3 c3 spec_l10Some_ok) : spec_JoinFilms_ok (bodyC C (spec_JoinFilms i1 i2 i3) true) := by
  intro σ w h wr sv lv fv sp lo fs w' h' wr' sv' lv' fv' sp' lo' fs' ⟨r1, r2⟩ hf ⟨r3, r4⟩ hf' n1 n2 hfit n3 n4 hfit' b1_ b2_ b3_ b4_
  obtain ⟨cs, hrow, hcs⟩ := hf.ex
  obtain ⟨cs', hrow', hcs'⟩ := hf'.ex
  have k1 := r1.ok
  have k2 := r2.ok
  have k3 := hf.ok
  have k4 := r3.ok
  have k5 := r4.ok
  have k6 := hf'.ok
  have hV := fun l (hp : PtAt (σ ++ l) (σ.length + 0) 0 [.int .i64 w, .int .i64 h, .bool wr, sv, lv, fv]) => h1.ok (σ ++ l) (σ.length + 0) w h wr sv lv fv sp lo fs hp ⟨r1.ext _, r2.ext _⟩ (hf.ext _) n1 n2 hfit
  have hV' := fun l (hp : PtAt (σ ++ l) (σ.length + 1) 0 [.int .i64 w', .int .i64 h', .bool wr', sv', lv', fv']) => h1.ok (σ ++ l) (σ.length + 1) w' h' wr' sv' lv' fv' sp' lo' fs' hp ⟨r3.ext _, r4.ext _⟩ (hf'.ext _) n3 n4 hfit'
  cases hI : isFilm w h wr sp lo fs
  · rw [show joinOk w h wr sp lo fs w' h' wr' sp' lo' fs' = false from by unfold joinOk; rw [hI]; rfl]
    refine ret_bd rfl rfl ?_
    repeat' (first | refine ff ?_ | ((first | refine EvR.aSplB ?_ ?_ | refine Ev.aSplB ?_ ?_) <;> (intro hb; (try rw [hb]); (try simp only [Bool.not_eq_true', Bool.not_eq_false', Bool.not_eq_eq_eq_not, Bool.not_true, Bool.not_false, decide_eq_true_eq, decide_eq_false_iff_not, Bool.and_eq_true, Bool.and_eq_false_iff, Bool.or_eq_true, Bool.or_eq_false_iff] at hb); (try (exfalso; first | omega | exact hb trivial)))) | (apply endS trivial; rotate_left; (· exact eva); (· rfl); try refine ⟨?_, rfl⟩) | fail)
    (apply EvR.aCall h1.at_; (· exact eva); (· exact  hV _ (PtAt.own rfl)); (rintro _ _ ⟨rfl, rfl⟩; refine EvR.nrm ?_))
    rw [hI]
    repeat' (first | refine ff ?_ | ((first | refine EvR.aSplB ?_ ?_ | refine Ev.aSplB ?_ ?_) <;> (intro hb; (try rw [hb]); (try simp only [Bool.not_eq_true', Bool.not_eq_false', Bool.not_eq_eq_eq_not, Bool.not_true, Bool.not_false, decide_eq_true_eq, decide_eq_false_iff_not, Bool.and_eq_true, Bool.and_eq_false_iff, Bool.or_eq_true, Bool.or_eq_false_iff] at hb); (try (exfalso; first | omega | exact hb trivial)))) | (apply endS trivial; rotate_left; (· exact eva); (· rfl); try refine ⟨?_, rfl⟩) | fail)
    apply endB trivial
    · exact eva
    · exact FmRes.no rfl
  cases hI' : isFilm w' h' wr' sp' lo' fs'
  · rw [show joinOk w h wr sp lo fs w' h' wr' sp' lo' fs' = false from by unfold joinOk; rw [hI']; simp]
    refine ret_bd rfl rfl ?_
    repeat' (first | refine ff ?_ | ((first | refine EvR.aSplB ?_ ?_ | refine Ev.aSplB ?_ ?_) <;> (intro hb; (try rw [hb]); (try simp only [Bool.not_eq_true', Bool.not_eq_false', Bool.not_eq_eq_eq_not, Bool.not_true, Bool.not_false, decide_eq_true_eq, decide_eq_false_iff_not, Bool.and_eq_true, Bool.and_eq_false_iff, Bool.or_eq_true, Bool.or_eq_false_iff] at hb); (try (exfalso; first | omega | exact hb trivial)))) | (apply endS trivial; rotate_left; (· exact eva); (· rfl); try refine ⟨?_, rfl⟩) | fail)
    (apply EvR.aCall h1.at_; (· exact eva); (· exact  hV _ (PtAt.own rfl)); (rintro _ _ ⟨rfl, rfl⟩; refine EvR.nrm ?_))
    rw [hI]
    repeat' (first | refine ff ?_ | ((first | refine EvR.aSplB ?_ ?_ | refine Ev.aSplB ?_ ?_) <;> (intro hb; (try rw [hb]); (try simp only [Bool.not_eq_true', Bool.not_eq_false', Bool.not_eq_eq_eq_not, Bool.not_true, Bool.not_false, decide_eq_true_eq, decide_eq_false_iff_not, Bool.and_eq_true, Bool.and_eq_false_iff, Bool.or_eq_true, Bool.or_eq_false_iff] at hb); (try (exfalso; first | omega | exact hb trivial)))) | (apply endS trivial; rotate_left; (· exact eva); (· rfl); try refine ⟨?_, rfl⟩) | fail)
    (apply EvR.aCall h1.at_; (· exact eva); (· exact  hV' _ (PtAt.own rfl)); (rintro _ _ ⟨rfl, rfl⟩; refine EvR.nrm ?_))
    rw [hI']
    repeat' (first | refine ff ?_ | ((first | refine EvR.aSplB ?_ ?_ | refine Ev.aSplB ?_ ?_) <;> (intro hb; (try rw [hb]); (try simp only [Bool.not_eq_true', Bool.not_eq_false', Bool.not_eq_eq_eq_not, Bool.not_true, Bool.not_false, decide_eq_true_eq, decide_eq_false_iff_not, Bool.and_eq_true, Bool.and_eq_false_iff, Bool.or_eq_true, Bool.or_eq_false_iff] at hb); (try (exfalso; first | omega | exact hb trivial)))) | (apply endS trivial; rotate_left; (· exact eva); (· rfl); try refine ⟨?_, rfl⟩) | fail)
    apply endB trivial
    · exact eva
    · exact FmRes.no rfl
  obtain ⟨u1, u2⟩ := isSheet_nums (isFilm_sheet hI) b1_ b2_
  obtain ⟨u3, u4⟩ := isSheet_nums (isFilm_sheet hI') b3_ b4_
  have hS := fun τ => h2.ok (σ ++ τ) w h wr sv lv sp lo w' h' wr' sv' lv' sp' lo' ⟨r1.ext _, r2.ext _⟩ ⟨r3.ext _, r4.ext _⟩ n1 n2 n3 n4 u1 u2 u3 u4
  cases hJ : sameS w h wr sp lo w' h' wr' sp' lo'
  · rw [show joinOk w h wr sp lo fs w' h' wr' sp' lo' fs' = false from by unfold joinOk; rw [hJ]; simp]
    refine ret_bd rfl rfl ?_
    repeat' (first | refine ff ?_ | ((first | refine EvR.aSplB ?_ ?_ | refine Ev.aSplB ?_ ?_) <;> (intro hb; (try rw [hb]); (try simp only [Bool.not_eq_true', Bool.not_eq_false', Bool.not_eq_eq_eq_not, Bool.not_true, Bool.not_false, decide_eq_true_eq, decide_eq_false_iff_not, Bool.and_eq_true, Bool.and_eq_false_iff, Bool.or_eq_true, Bool.or_eq_false_iff] at hb); (try (exfalso; first | omega | exact hb trivial)))) | (apply endS trivial; rotate_left; (· exact eva); (· rfl); try refine ⟨?_, rfl⟩) | fail)
    (apply EvR.aCall h1.at_; (· exact eva); (· exact  hV _ (PtAt.own rfl)); (rintro _ _ ⟨rfl, rfl⟩; refine EvR.nrm ?_))
    rw [hI]
    repeat' (first | refine ff ?_ | ((first | refine EvR.aSplB ?_ ?_ | refine Ev.aSplB ?_ ?_) <;> (intro hb; (try rw [hb]); (try simp only [Bool.not_eq_true', Bool.not_eq_false', Bool.not_eq_eq_eq_not, Bool.not_true, Bool.not_false, decide_eq_true_eq, decide_eq_false_iff_not, Bool.and_eq_true, Bool.and_eq_false_iff, Bool.or_eq_true, Bool.or_eq_false_iff] at hb); (try (exfalso; first | omega | exact hb trivial)))) | (apply endS trivial; rotate_left; (· exact eva); (· rfl); try refine ⟨?_, rfl⟩) | fail)
    (apply EvR.aCall h1.at_; (· exact eva); (· exact  hV' _ (PtAt.own rfl)); (rintro _ _ ⟨rfl, rfl⟩; refine EvR.nrm ?_))
    rw [hI']
    repeat' (first | refine ff ?_ | ((first | refine EvR.aSplB ?_ ?_ | refine Ev.aSplB ?_ ?_) <;> (intro hb; (try rw [hb]); (try simp only [Bool.not_eq_true', Bool.not_eq_false', Bool.not_eq_eq_eq_not, Bool.not_true, Bool.not_false, decide_eq_true_eq, decide_eq_false_iff_not, Bool.and_eq_true, Bool.and_eq_false_iff, Bool.or_eq_true, Bool.or_eq_false_iff] at hb); (try (exfalso; first | omega | exact hb trivial)))) | (apply endS trivial; rotate_left; (· exact eva); (· rfl); try refine ⟨?_, rfl⟩) | fail)
    (apply EvR.aCall h2.at_; (· exact eva); (· exact  hS _); (rintro _ _ ⟨rfl, rfl⟩; refine EvR.nrm ?_))
    rw [hJ]
    repeat' (first | refine ff ?_ | ((first | refine EvR.aSplB ?_ ?_ | refine Ev.aSplB ?_ ?_) <;> (intro hb; (try rw [hb]); (try simp only [Bool.not_eq_true', Bool.not_eq_false', Bool.not_eq_eq_eq_not, Bool.not_true, Bool.not_false, decide_eq_true_eq, decide_eq_false_iff_not, Bool.and_eq_true, Bool.and_eq_false_iff, Bool.or_eq_true, Bool.or_eq_false_iff] at hb); (try (exfalso; first | omega | exact hb trivial)))) | (apply endS trivial; rotate_left; (· exact eva); (· rfl); try refine ⟨?_, rfl⟩) | fail)
    apply endB trivial
    · exact eva
    · exact FmRes.no rfl
  have h16 := isFilm_len hI
  have h16' := isFilm_len hI'
  by_cases hlen : fs.length + fs'.length ≤ 16
  rotate_left
  · rw [show joinOk w h wr sp lo fs w' h' wr' sp' lo' fs' = false from by unfold joinOk; rw [decide_eq_false hlen]; simp]
    refine ret_bd rfl rfl ?_
    repeat' (first | refine ff ?_ | ((first | refine EvR.aSplB ?_ ?_ | refine Ev.aSplB ?_ ?_) <;> (intro hb; (try rw [hb]); (try simp only [Bool.not_eq_true', Bool.not_eq_false', Bool.not_eq_eq_eq_not, Bool.not_true, Bool.not_false, decide_eq_true_eq, decide_eq_false_iff_not, Bool.and_eq_true, Bool.and_eq_false_iff, Bool.or_eq_true, Bool.or_eq_false_iff] at hb); (try (exfalso; first | omega | exact hb trivial)))) | (apply endS trivial; rotate_left; (· exact eva); (· rfl); try refine ⟨?_, rfl⟩) | fail)
    (apply EvR.aCall h1.at_; (· exact eva); (· exact  hV _ (PtAt.own rfl)); (rintro _ _ ⟨rfl, rfl⟩; refine EvR.nrm ?_))
    rw [hI]
    repeat' (first | refine ff ?_ | ((first | refine EvR.aSplB ?_ ?_ | refine Ev.aSplB ?_ ?_) <;> (intro hb; (try rw [hb]); (try simp only [Bool.not_eq_true', Bool.not_eq_false', Bool.not_eq_eq_eq_not, Bool.not_true, Bool.not_false, decide_eq_true_eq, decide_eq_false_iff_not, Bool.and_eq_true, Bool.and_eq_false_iff, Bool.or_eq_true, Bool.or_eq_false_iff] at hb); (try (exfalso; first | omega | exact hb trivial)))) | (apply endS trivial; rotate_left; (· exact eva); (· rfl); try refine ⟨?_, rfl⟩) | fail)
    (apply EvR.aCall h1.at_; (· exact eva); (· exact  hV' _ (PtAt.own rfl)); (rintro _ _ ⟨rfl, rfl⟩; refine EvR.nrm ?_))
    rw [hI']
    repeat' (first | refine ff ?_ | ((first | refine EvR.aSplB ?_ ?_ | refine Ev.aSplB ?_ ?_) <;> (intro hb; (try rw [hb]); (try simp only [Bool.not_eq_true', Bool.not_eq_false', Bool.not_eq_eq_eq_not, Bool.not_true, Bool.not_false, decide_eq_true_eq, decide_eq_false_iff_not, Bool.and_eq_true, Bool.and_eq_false_iff, Bool.or_eq_true, Bool.or_eq_false_iff] at hb); (try (exfalso; first | omega | exact hb trivial)))) | (apply endS trivial; rotate_left; (· exact eva); (· rfl); try refine ⟨?_, rfl⟩) | fail)
    (apply EvR.aCall h2.at_; (· exact eva); (· exact  hS _); (rintro _ _ ⟨rfl, rfl⟩; refine EvR.nrm ?_))
    rw [hJ]
    repeat' (first | refine ff ?_ | ((first | refine EvR.aSplB ?_ ?_ | refine Ev.aSplB ?_ ?_) <;> (intro hb; (try rw [hb]); (try simp only [Bool.not_eq_true', Bool.not_eq_false', Bool.not_eq_eq_eq_not, Bool.not_true, Bool.not_false, decide_eq_true_eq, decide_eq_false_iff_not, Bool.and_eq_true, Bool.and_eq_false_iff, Bool.or_eq_true, Bool.or_eq_false_iff] at hb); (try (exfalso; first | omega | exact hb trivial)))) | (apply endS trivial; rotate_left; (· exact eva); (· rfl); try refine ⟨?_, rfl⟩) | fail)
    apply endB trivial
    · exact eva
    · exact FmRes.no rfl
  rw [show joinOk w h wr sp lo fs w' h' wr' sp' lo' fs' = true from by unfold joinOk; rw [hI, hI', hJ, decide_eq_true hlen]; rfl]
  refine ret_bd rfl rfl ?_
  repeat' (first | refine ff ?_ | ((first | refine EvR.aSplB ?_ ?_ | refine Ev.aSplB ?_ ?_) <;> (intro hb; (try rw [hb]); (try simp only [Bool.not_eq_true', Bool.not_eq_false', Bool.not_eq_eq_eq_not, Bool.not_true, Bool.not_false, decide_eq_true_eq, decide_eq_false_iff_not, Bool.and_eq_true, Bool.and_eq_false_iff, Bool.or_eq_true, Bool.or_eq_false_iff] at hb); (try (exfalso; first | omega | exact hb trivial)))) | (apply endS trivial; rotate_left; (· exact eva); (· rfl); try refine ⟨?_, rfl⟩) | fail)
  (apply EvR.aCall h1.at_; (· exact eva); (· exact  hV _ (PtAt.own rfl)); (rintro _ _ ⟨rfl, rfl⟩; refine EvR.nrm ?_))
  rw [hI]
  repeat' (first | refine ff ?_ | ((first | refine EvR.aSplB ?_ ?_ | refine Ev.aSplB ?_ ?_) <;> (intro hb; (try rw [hb]); (try simp only [Bool.not_eq_true', Bool.not_eq_false', Bool.not_eq_eq_eq_not, Bool.not_true, Bool.not_false, decide_eq_true_eq, decide_eq_false_iff_not, Bool.and_eq_true, Bool.and_eq_false_iff, Bool.or_eq_true, Bool.or_eq_false_iff] at hb); (try (exfalso; first | omega | exact hb trivial)))) | (apply endS trivial; rotate_left; (· exact eva); (· rfl); try refine ⟨?_, rfl⟩) | fail)
  (apply EvR.aCall h1.at_; (· exact eva); (· exact  hV' _ (PtAt.own rfl)); (rintro _ _ ⟨rfl, rfl⟩; refine EvR.nrm ?_))
  rw [hI']
  repeat' (first | refine ff ?_ | ((first | refine EvR.aSplB ?_ ?_ | refine Ev.aSplB ?_ ?_) <;> (intro hb; (try rw [hb]); (try simp only [Bool.not_eq_true', Bool.not_eq_false', Bool.not_eq_eq_eq_not, Bool.not_true, Bool.not_false, decide_eq_true_eq, decide_eq_false_iff_not, Bool.and_eq_true, Bool.and_eq_false_iff, Bool.or_eq_true, Bool.or_eq_false_iff] at hb); (try (exfalso; first | omega | exact hb trivial)))) | (apply endS trivial; rotate_left; (· exact eva); (· rfl); try refine ⟨?_, rfl⟩) | fail)
  (apply EvR.aCall h2.at_; (· exact eva); (· exact  hS _); (rintro _ _ ⟨rfl, rfl⟩; refine EvR.nrm ?_))
  rw [hJ]
  repeat' (first | refine ff ?_ | ((first | refine EvR.aSplB ?_ ?_ | refine Ev.aSplB ?_ ?_) <;> (intro hb; (try rw [hb]); (try simp only [Bool.not_eq_true', Bool.not_eq_false', Bool.not_eq_eq_eq_not, Bool.not_true, Bool.not_false, decide_eq_true_eq, decide_eq_false_iff_not, Bool.and_eq_true, Bool.and_eq_false_iff, Bool.or_eq_true, Bool.or_eq_false_iff] at hb); (try (exfalso; first | omega | exact hb trivial)))) | (apply endS trivial; rotate_left; (· exact eva); (· rfl); try refine ⟨?_, rfl⟩) | fail)
  apply EvR.aCall h3.at_; (· exact eva); (· exact h3.ok _ (σ.length + 0) w h wr sv lv fv sp lo fs 0 fs.length (PtAt.own rfl) ⟨r1.ext _, r2.ext _⟩ (hf.ext _) n1 n2 hfit (by omega)); rintro _ _ ⟨τ, s, l, b, R, rfl, rfl, ho⟩
  rw [List.drop_zero, List.take_length] at ho
  simp only [List.length_append, List.length_cons, List.length_nil, Nat.zero_add, Nat.reduceAdd] at ho
  refine EvR.nrm ?_
  repeat' (first | refine ff ?_ | ((first | refine EvR.aSplB ?_ ?_ | refine Ev.aSplB ?_ ?_) <;> (intro hb; (try rw [hb]); (try simp only [Bool.not_eq_true', Bool.not_eq_false', Bool.not_eq_eq_eq_not, Bool.not_true, Bool.not_false, decide_eq_true_eq, decide_eq_false_iff_not, Bool.and_eq_true, Bool.and_eq_false_iff, Bool.or_eq_true, Bool.or_eq_false_iff] at hb); (try (exfalso; first | omega | exact hb trivial)))) | (apply endS trivial; rotate_left; (· exact eva); (· rfl); try refine ⟨?_, rfl⟩) | fail)
  apply EvR.aCall h3.at_; (· exact eva); (· exact h3.ok _ (σ.length + 1) w' h' wr' sv' lv' fv' sp' lo' fs' 0 fs'.length (PtAt.own rfl) ⟨r3.ext _, r4.ext _⟩ (hf'.ext _) n3 n4 hfit' (by omega)); rintro _ _ ⟨τ', s', l', b', R', rfl, rfl, ho'⟩
  rw [List.drop_zero, List.take_length] at ho'
  refine EvR.nrm ?_
  obtain ⟨ρ, hρ⟩ : ∃ ρ : Heap, ρ = τ ++ ⟨[.int .i64 w, .int .i64 h, .bool wr, slV s sp.length, slV l lo.length, slV b fs.length], 0, true⟩ :: τ' := ⟨_, rfl⟩
  obtain ⟨P3, hP3⟩ : ∃ P : Heap, P = [⟨[.int .i64 w, .int .i64 h, .bool wr, sv, lv, fv], 0, true⟩, ⟨[.int .i64 w', .int .i64 h', .bool wr', sv', lv', fv'], 0, true⟩, ⟨[.int .i64 0, .int .i64 0, .bool false, .slice none 0 0, .slice none 0 0, .slice none 0 0], 0, true⟩] := ⟨_, rfl⟩
  have hP3l : P3.length = 3 := by rw [hP3]; rfl
  have ho1 : FilmO (σ ++ P3 ++ τ) (σ.length + 3) s l b R sp lo fs := by rw [hP3]; exact ho
  have ho2 : FilmO (σ ++ (P3 ++ ρ)) (σ.length + (τ.length + 4)) s' l' b' R' sp' lo' fs' := by
    rw [hP3, hρ]
    have := ho'
    simp only [List.length_append, List.length_cons, List.length_nil, Nat.zero_add, Nat.reduceAdd, List.append_assoc, List.cons_append, List.nil_append, Nat.add_assoc] at this ⊢
    exact this
  clear ho ho'
  rw [← hρ]
  obtain ⟨j, rfl⟩ : ∃ j, b = σ.length + (j + 3) := ⟨b - σ.length - 3, by have := ho1.bl; omega⟩
  have hjt : τ[j]? = some ⟨R.map slOf, 3, true⟩ := by
    have := ho1.row
    rw [hP3, List.append_assoc, hget] at this
    exact this
  have hjl := (List.getElem?_eq_some_iff.1 hjt).1
  have hρl : ρ.length = τ.length + (τ'.length + 1) := by rw [hρ, List.length_append, List.length_cons]
  have hj : ρ[j]? = some ⟨R.map slOf, 3, true⟩ := by rw [hρ, List.getElem?_append_left hjl]; exact hjt
  have h6 : ρ[τ.length]? = some ⟨[.int .i64 w, .int .i64 h, .bool wr, slV s sp.length, slV l lo.length, slV (σ.length + (j + 3)) fs.length], 0, true⟩ := by rw [hρ]; exact get_end0 _ _ _
  repeat' (first | refine ff ?_ | ((first | refine EvR.aSplB ?_ ?_ | refine Ev.aSplB ?_ ?_) <;> (intro hb; (try rw [hb]); (try simp only [Bool.not_eq_true', Bool.not_eq_false', Bool.not_eq_eq_eq_not, Bool.not_true, Bool.not_false, decide_eq_true_eq, decide_eq_false_iff_not, Bool.and_eq_true, Bool.and_eq_false_iff, Bool.or_eq_true, Bool.or_eq_false_iff] at hb); (try (exfalso; first | omega | exact hb trivial)))) | (apply endS trivial; rotate_left; (· exact eva); (· rfl); try refine ⟨?_, rfl⟩) | fail)
  refine EvR.ldV (b := τ.length + 3) (o := 5) (v := slV (σ.length + (j + 3)) fs.length) (by rw [hget]; simp only [List.getElem?_cons_succ]; rw [List.getElem?_append_left (by omega)]; exact h6) rfl rfl ?_
  repeat' (first | refine ff ?_ | ((first | refine EvR.aSplB ?_ ?_ | refine Ev.aSplB ?_ ?_) <;> (intro hb; (try rw [hb]); (try simp only [Bool.not_eq_true', Bool.not_eq_false', Bool.not_eq_eq_eq_not, Bool.not_true, Bool.not_false, decide_eq_true_eq, decide_eq_false_iff_not, Bool.and_eq_true, Bool.and_eq_false_iff, Bool.or_eq_true, Bool.or_eq_false_iff] at hb); (try (exfalso; first | omega | exact hb trivial)))) | (apply endS trivial; rotate_left; (· exact eva); (· rfl); try refine ⟨?_, rfl⟩) | fail)
  obtain ⟨X, hX⟩ : ∃ X : AObj, X = ⟨R.map slOf ++ R'.map slOf, 3, true⟩ := ⟨_, rfl⟩
  obtain ⟨ρ2, hρ2⟩ : ∃ r, r = ρ.set j X := ⟨_, rfl⟩
  have hρ2l : ρ2.length = ρ.length := by rw [hρ2, List.length_set]
  refine EvR.ap3N (τ := σ) (cells := R.map slOf) (ys := R'.map slOf) (yv := slV b' fs'.length) (i := j + 3) (m := fs.length) (k := fs'.length) rfl ?_ (by rw [List.length_map]; exact ho1.flds.len) rfl ?_ (by omega) (slOf_all _) ?_
  · show (ρ ++ _)[j]? = _
    rw [List.getElem?_append_left (by omega)]; exact hj
  · have := (Row.whole ho2.row (show 3 ≠ 0 by omega) (by rw [List.length_map]; exact ho2.flds.len)).ext [⟨[.int .i64 w', .int .i64 h', .bool wr', slV s' sp'.length, slV l' lo'.length, slV b' fs'.length], 0, true⟩]
    rw [hP3] at this
    simp only [List.append_assoc, List.cons_append, List.nil_append] at this
    exact this
  refine EvR.heap (H' := σ ++ (_ :: _ :: _ :: (ρ2 ++ _))) ?_ (by rw [← hX, hρ2]; simp only [List.set_cons_succ, List.set_append_left _ _ (show j < ρ.length by omega)]; rfl)
  repeat' (first | refine ff ?_ | ((first | refine EvR.aSplB ?_ ?_ | refine Ev.aSplB ?_ ?_) <;> (intro hb; (try rw [hb]); (try simp only [Bool.not_eq_true', Bool.not_eq_false', Bool.not_eq_eq_eq_not, Bool.not_true, Bool.not_false, decide_eq_true_eq, decide_eq_false_iff_not, Bool.and_eq_true, Bool.and_eq_false_iff, Bool.or_eq_true, Bool.or_eq_false_iff] at hb); (try (exfalso; first | omega | exact hb trivial)))) | (apply endS trivial; rotate_left; (· exact eva); (· rfl); try refine ⟨?_, rfl⟩) | fail)
  have h6b : ρ2[τ.length]? = some ⟨[.int .i64 w, .int .i64 h, .bool wr, slV s sp.length, slV l lo.length, slV (σ.length + (j + 3)) fs.length], 0, true⟩ := by rw [hρ2, List.getElem?_set_ne (by omega)]; exact h6
  obtain ⟨ρ3, hρ3⟩ : ∃ r, r = ρ2.set τ.length (⟨[.int .i64 w, .int .i64 h, .bool wr, slV s sp.length, slV l lo.length, .slice (some ⟨σ.length + (j + 3), 0, none⟩) (fs.length + fs'.length) (fs.length + fs'.length)], 0, true⟩ : AObj) := ⟨_, rfl⟩
  refine EvR.stV (b := σ.length + (τ.length + 3)) (o := 5) (v := .slice (some ⟨σ.length + (j + 3), 0, none⟩) (fs.length + fs'.length) (fs.length + fs'.length)) (by rw [hget]; simp only [List.getElem?_cons_succ]; rw [List.getElem?_append_left (by omega)]; exact h6b) rfl rfl rfl (by simp [Value.cells]) rfl ?_
  refine EvR.heap (H' := σ ++ (_ :: _ :: _ :: (ρ3 ++ _))) ?_ (by rw [set_app, hρ3]; simp only [List.set_cons_succ, List.set_append_left _ _ (show τ.length < ρ2.length by omega)]; rfl)
  repeat' (first | refine ff ?_ | ((first | refine EvR.aSplB ?_ ?_ | refine Ev.aSplB ?_ ?_) <;> (intro hb; (try rw [hb]); (try simp only [Bool.not_eq_true', Bool.not_eq_false', Bool.not_eq_eq_eq_not, Bool.not_true, Bool.not_false, decide_eq_true_eq, decide_eq_false_iff_not, Bool.and_eq_true, Bool.and_eq_false_iff, Bool.or_eq_true, Bool.or_eq_false_iff] at hb); (try (exfalso; first | omega | exact hb trivial)))) | (apply endS trivial; rotate_left; (· exact eva); (· rfl); try refine ⟨?_, rfl⟩) | fail)
  refine EvR.ldNV (b := τ.length + 3) (cells := [.int .i64 w, .int .i64 h, .bool wr, slV s sp.length, slV l lo.length, .slice (some ⟨σ.length + (j + 3), 0, none⟩) (fs.length + fs'.length) (fs.length + fs'.length)]) (r := true) (by rw [hget]; simp only [List.getElem?_cons_succ]; rw [List.getElem?_append_left (by rw [hρ3, List.length_set]; omega), hρ3, List.getElem?_set_self (by omega)]) rfl rfl (by omega) ?_
  repeat' (first | refine ff ?_ | ((first | refine EvR.aSplB ?_ ?_ | refine Ev.aSplB ?_ ?_) <;> (intro hb; (try rw [hb]); (try simp only [Bool.not_eq_true', Bool.not_eq_false', Bool.not_eq_eq_eq_not, Bool.not_true, Bool.not_false, decide_eq_true_eq, decide_eq_false_iff_not, Bool.and_eq_true, Bool.and_eq_false_iff, Bool.or_eq_true, Bool.or_eq_false_iff] at hb); (try (exfalso; first | omega | exact hb trivial)))) | (apply endS trivial; rotate_left; (· exact eva); (· rfl); try refine ⟨?_, rfl⟩) | fail)
  have hl1 : (fs ++ fs').length = fs.length + fs'.length := by simp
  have hρ3l : ρ3.length = ρ.length := by rw [hρ3, List.length_set, hρ2l]
  have hi : ∀ i, i ≠ j → i ≠ τ.length → ρ3[i]? = ρ[i]? := fun i a b => by rw [hρ3, List.getElem?_set_ne (Ne.symm b), hρ2, List.getElem?_set_ne (Ne.symm a)]
  apply endB trivial
  · exact eva
  · refine ⟨fun _ => ⟨_, s, l, σ.length + (j + 3), _, rfl, by rw [hl1], FilmO.less (FilmO.more ho1 ho2.tail (by simp only [List.length_append, hP3l]; omega) ho2.con ?_ (fun o h0 h1 hb => ?_) (fun o h0 h1 => ?_)) (by omega)⟩, fun h => (by cases h)⟩
    · rw [hget]
      show (ρ3 ++ _)[j]? = _
      rw [List.getElem?_append_left (by omega), hρ3, List.getElem?_set_ne (by omega), hρ2, List.getElem?_set_self (by omega), hX, List.map_append]
    · obtain ⟨i, rfl⟩ : ∃ i, o = σ.length + (i + 3) := ⟨o - σ.length - 3, by omega⟩
      simp only [List.length_append, hP3l] at h1
      rw [hget, List.append_assoc, hget, hP3]
      show (ρ3 ++ _)[i]? = τ[i]?
      rw [List.getElem?_append_left (by omega), hi i (by omega) (by omega), hρ, List.getElem?_append_left (by omega)]
    · obtain ⟨i, rfl⟩ : ∃ i, o = σ.length + (i + 3) := ⟨o - σ.length - 3, by omega⟩
      simp only [List.length_append, hP3l] at h1
      rw [hget, hget, hP3]
      show (ρ3 ++ _)[i]? = ρ[i]?
      rw [List.getElem?_append_left (by omega), hi i (by omega) (by omega)]
end Go.Abs

