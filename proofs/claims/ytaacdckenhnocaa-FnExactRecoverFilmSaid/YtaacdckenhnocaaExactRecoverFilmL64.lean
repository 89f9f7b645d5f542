/- Laws of functions: films that are copied, compared, marked and held. Conditions: the laws of what they call. -/
import Derived.Test.YtaacdckenhnocaaExactRecoverFilmL63
import Derived.Test.YtaacdckenhnocaaExactRecoverFilmL13
namespace Go.Abs

set_option linter.unusedSimpArgs false
set_option linter.unusedVariables false
set_option maxHeartbeats 8000000
set_option maxRecDepth 20000
/- loop.example/g01201/laws.eqFilm -/
def laws_eqFilm_r0 : List SOper := [
 ⟨some 2, none, .box (.tmp 0), 0⟩,
 ⟨some 3, none, .box (.tmp 1), 0⟩,
 ⟨some 4, none, .mov (.const (.bool false)), 0⟩]
def laws_eqFilm_r1 (i_laws_eqSheet : FuncId) : List SOper := [
 ⟨some 5, none, .fieldAddr 0 (.tmp 2), 0⟩,
 ⟨some 6, none, .loadN 5 (.tmp 5), 1⟩,
 ⟨some 7, none, .fieldAddr 0 (.tmp 3), 0⟩,
 ⟨some 8, none, .loadN 5 (.tmp 7), 4⟩,
 ⟨some 9, none, .call (.func i_laws_eqSheet) [(.tmp 6), (.tmp 8)], 15⟩,
 ⟨some 10, none, .un .not (.tmp 9), 31⟩]
def laws_eqFilm_r2 : List SOper := [
 ⟨some 4, none, .mov (.const (.bool false)), 0⟩]
def laws_eqFilm_r3 (i_laws_eqFieldS : FuncId) : List SOper := [
 ⟨some 11, none, .fieldAddr 5 (.tmp 2), 0⟩,
 ⟨some 12, none, .load1 (.tmp 11), 1⟩,
 ⟨some 13, none, .fieldAddr 5 (.tmp 3), 0⟩,
 ⟨some 14, none, .load1 (.tmp 13), 4⟩,
 ⟨some 15, none, .call (.func i_laws_eqFieldS) [(.tmp 12), (.tmp 14)], 15⟩,
 ⟨some 16, none, .un .not (.tmp 15), 31⟩]
def laws_eqFilm_r4 : List SOper := [
 ⟨some 4, none, .mov (.const (.bool false)), 0⟩]
def laws_eqFilm_r5 : List SOper := [
 ⟨some 4, none, .mov (.const (.bool true)), 0⟩]
def laws_eqFilm (i_laws_eqSheet i_laws_eqFieldS : FuncId) : SFunc := ⟨17, [.tmp 4], (.kp [0,1] (.seq (.region laws_eqFilm_r0 false) (.kp [2,3] (.seq (.seq (.region (laws_eqFilm_r1 i_laws_eqSheet) false) (.kp [2,3,10] (.cond (.tmp 10) (.seq (.region laws_eqFilm_r2 false) .ret) .skip))) (.kp [2,3] (.seq (.seq (.region (laws_eqFilm_r3 i_laws_eqFieldS) false) (.kp [16] (.cond (.tmp 16) (.seq (.region laws_eqFilm_r4 false) .ret) .skip))) (.kp [] (.seq (.region laws_eqFilm_r5 false) .ret))))))))⟩

/- loop.example/g01201/laws.markFilm -/
def laws_markFilm_r0 : List SOper := [
 ⟨some 2, none, .box (.tmp 0), 0⟩,
 ⟨some 4, none, .mov (.const (.int .i64 0)), 0⟩]
def laws_markFilm_r1 (i_laws_markSheet : FuncId) : List SOper := [
 ⟨some 5, none, .fieldAddr 0 (.tmp 2), 0⟩,
 ⟨some 6, none, .loadN 5 (.tmp 5), 1⟩,
 ⟨some 7, none, .mov (.tmp 1), 0⟩,
 ⟨some 8, none, .call (.func i_laws_markSheet) [(.tmp 6), (.tmp 7)], 7⟩,
 ⟨some 1, none, .mov (.tmp 8), 15⟩]
def laws_markFilm_r2 (i_laws_markFieldS : FuncId) : List SOper := [
 ⟨some 9, none, .fieldAddr 5 (.tmp 2), 0⟩,
 ⟨some 10, none, .load1 (.tmp 9), 1⟩,
 ⟨some 11, none, .mov (.tmp 1), 0⟩,
 ⟨some 12, none, .call (.func i_laws_markFieldS) [(.tmp 10), (.tmp 11)], 7⟩,
 ⟨some 1, none, .mov (.tmp 12), 15⟩]
def laws_markFilm_r3 : List SOper := [
 ⟨some 13, none, .mov (.tmp 1), 0⟩,
 ⟨some 4, none, .mov (.tmp 13), 1⟩]
def laws_markFilm (i_laws_markSheet i_laws_markFieldS : FuncId) : SFunc := ⟨14, [.tmp 4], (.kp [0,1] (.seq (.region laws_markFilm_r0 false) (.kp [1,2] (.seq (.region (laws_markFilm_r1 i_laws_markSheet) false) (.kp [1,2] (.seq (.region (laws_markFilm_r2 i_laws_markFieldS) false) (.kp [1] (.seq (.region laws_markFilm_r3 false) .ret))))))))⟩

/- loop.example/g01201/laws.heldFilm -/
def laws_heldFilm_r0 : List SOper := [
 ⟨some 2, none, .box (.tmp 0), 0⟩,
 ⟨some 4, none, .mov (.const (.int .i64 0)), 0⟩]
def laws_heldFilm_r1 (i_laws_heldSheet : FuncId) : List SOper := [
 ⟨some 5, none, .fieldAddr 0 (.tmp 2), 0⟩,
 ⟨some 6, none, .loadN 5 (.tmp 5), 1⟩,
 ⟨some 7, none, .mov (.tmp 1), 0⟩,
 ⟨some 8, none, .call (.func i_laws_heldSheet) [(.tmp 6), (.tmp 7)], 7⟩,
 ⟨some 1, none, .mov (.tmp 8), 15⟩]
def laws_heldFilm_r2 : List SOper := [
 ⟨some 9, none, .mov (.tmp 1), 0⟩,
 ⟨some 10, none, .bin .lss .other (.tmp 9) (.const (.int .i64 0)), 1⟩]
def laws_heldFilm_r3 : List SOper := [
 ⟨some 4, none, .mov (.const (.int .i64 (-1))), 0⟩]
def laws_heldFilm_r4 (i_laws_heldFieldS : FuncId) : List SOper := [
 ⟨some 11, none, .fieldAddr 5 (.tmp 2), 0⟩,
 ⟨some 12, none, .load1 (.tmp 11), 1⟩,
 ⟨some 13, none, .mov (.tmp 1), 0⟩,
 ⟨some 14, none, .call (.func i_laws_heldFieldS) [(.tmp 12), (.tmp 13)], 7⟩,
 ⟨some 1, none, .mov (.tmp 14), 15⟩]
def laws_heldFilm_r5 : List SOper := [
 ⟨some 15, none, .mov (.tmp 1), 0⟩,
 ⟨some 16, none, .bin .lss .other (.tmp 15) (.const (.int .i64 0)), 1⟩]
def laws_heldFilm_r6 : List SOper := [
 ⟨some 4, none, .mov (.const (.int .i64 (-1))), 0⟩]
def laws_heldFilm_r7 : List SOper := [
 ⟨some 17, none, .mov (.tmp 1), 0⟩,
 ⟨some 4, none, .mov (.tmp 17), 1⟩]
def laws_heldFilm (i_laws_heldSheet i_laws_heldFieldS : FuncId) : SFunc := ⟨18, [.tmp 4], (.kp [0,1] (.seq (.region laws_heldFilm_r0 false) (.kp [1,2] (.seq (.region (laws_heldFilm_r1 i_laws_heldSheet) false) (.kp [1,2] (.seq (.seq (.region laws_heldFilm_r2 false) (.kp [1,2,10] (.cond (.tmp 10) (.seq (.region laws_heldFilm_r3 false) .ret) .skip))) (.kp [1,2] (.seq (.region (laws_heldFilm_r4 i_laws_heldFieldS) false) (.kp [1] (.seq (.seq (.region laws_heldFilm_r5 false) (.kp [1,16] (.cond (.tmp 16) (.seq (.region laws_heldFilm_r6 false) .ret) .skip))) (.kp [1] (.seq (.region laws_heldFilm_r7 false) .ret))))))))))))⟩


/-- The value of a film. -/
abbrev fmV (w h : Int) (wr : Bool) (sv lv fv : Value) : Value := .agg #[.int .i64 w, .int .i64 h, .bool wr, sv, lv, fv]
abbrev noFilm : Value := fmV 0 0 false (.slice none 0 0) (.slice none 0 0) (.slice none 0 0)
/-- A film whose rows are owned. -/
structure FilmO (H : Heap) (lo s l b : Nat) (R : Rws) (sp ls : List Nat) (fs : List Fld) : Prop where
  row : H[b]? = some ⟨R.map slOf, 3, true⟩
  inv : RInv H lo ((s, sp) :: (l, ls) :: R)
  con : R.map Prod.snd = rowsOf fs
  bl : lo ≤ b
  bn : b ∉ s :: l :: R.map Prod.fst
section
variable {H : Heap} {lo s l b : Nat} {R : Rws} {sp ls : List Nat} {fs : List Fld}
theorem FilmO.tail (h : FilmO H lo s l b R sp ls fs) : RInv H lo R := ⟨fun p hp => h.inv.own p (by simp [hp]), fun p hp => h.inv.low p (by simp [hp]), by
  have := h.inv.nod
  simp only [List.map_cons, List.nodup_cons] at this
  exact this.2.2⟩
theorem FilmO.flds (h : FilmO H lo s l b R sp ls fs) : FlsO H lo b R fs := ⟨h.row, h.tail, h.con, h.bl, fun hc => h.bn (by simp only [List.mem_cons]; exact .inr (.inr hc))⟩
theorem FilmO.sheet (h : FilmO H lo s l b R sp ls fs) : ShR H (slV s sp.length) (slV l ls.length) sp ls :=
  ⟨Row.whole (h.inv.own (s, sp) (by simp)) (by omega) (by rw [f32s_length]; omega), Row.whole (h.inv.own (l, ls) (by simp)) (by omega) (by rw [f32s_length]; omega)⟩
theorem FilmO.ext (h : FilmO H lo s l b R sp ls fs) (t : Heap) : FilmO (H ++ t) lo s l b R sp ls fs :=
  ⟨by rw [List.getElem?_append_left (List.getElem?_eq_some_iff.1 h.row).1]; exact h.row, h.inv.ext t, h.con, h.bl, h.bn⟩
theorem FilmO.keep {H' : Heap} (h : FilmO H lo s l b R sp ls fs) (hk : ∀ o, lo ≤ o → o < H.length → H'[o]? = H[o]?) : FilmO H' lo s l b R sp ls fs :=
  ⟨by rw [hk _ h.bl (List.getElem?_eq_some_iff.1 h.row).1]; exact h.row, h.inv.keep hk, h.con, h.bl, h.bn⟩
theorem FilmO.less {lo' : Nat} (h : FilmO H lo s l b R sp ls fs) (hl : lo' ≤ lo) : FilmO H lo' s l b R sp ls fs := ⟨h.row, h.inv.less hl, h.con, Nat.le_trans hl h.bl, h.bn⟩
end
theorem FlsO.keep {H H' : Heap} {lo b : Nat} {R : Rws} {fs : List Fld} (h : FlsO H lo b R fs) (hk : ∀ o, lo ≤ o → o < H.length → H'[o]? = H[o]?) : FlsO H' lo b R fs :=
  ⟨by rw [hk _ h.bl (List.getElem?_eq_some_iff.1 h.row).1]; exact h.row, h.inv.keep hk, h.con, h.bl, h.bn⟩
def laws_eqFilm_ok (c : Contract) : Prop := ∀ (σ : Heap) (w h : Int) (wr : Bool) (sv lv fv sv' lv' fv' : Value) (sp lo : List Nat) (fs : List Fld), ShR σ sv lv sp lo → FlsR σ fv fs → ShR σ sv' lv' sp lo → FlsR σ fv' fs → sp.length ≤ 1048576 → lo.length ≤ 1048576 → fitsF fs →
    Ret c [fmV w h wr sv lv fv, fmV w h wr sv' lv' fv'] σ fun v σ' => v = .bool true ∧ σ' = σ
theorem laws_eqFilm_law {C : Ctab} {i1 i2 : FuncId} {c1 c2 : Contract} (h1 : Has C i1 c1 laws_eqSheet_ok) (h2 : Has C i2 c2 laws_eqFieldS_ok) : laws_eqFilm_ok (gcC C (laws_eqFilm i1 i2) true) := by
  intro σ w h wr sv lv fv sv' lv' fv' sp lo fs ⟨r1, r2⟩ hf ⟨r3, r4⟩ hf' hn1 hn2 hb
  have k1 := r1.ok
  have k2 := r2.ok
  have k3 := hf.ok
  have k4 := r3.ok
  have k5 := r4.ok
  have k6 := hf'.ok
  refine ret_gc rfl rfl ?_
  repeat' (first | refine ff ?_ | (apply EvR.aCall h1.at_; (· exact eva); (· apply h1.ok <;> exact sid); (rintro _ _ ⟨rfl, rfl⟩; refine EvR.nrm ?_)) | ((first | refine sR ?_ ?_ | refine sC ?_ ?_) <;> (intro hb; (try rw [hb]); (try simp only [bb] at hb); (try (exfalso; first | omega | exact hb trivial)))) | (apply endS trivial; rotate_left; (· exact eva); (· rfl); try refine ⟨?_, rfl⟩) | fail)
  (apply EvR.aCall h2.at_; (· exact eva); (· exact  h2.ok _ fv fv' fs (hf.ext _) (hf'.ext _) hb); (rintro _ _ ⟨rfl, rfl⟩; refine EvR.nrm ?_))
  repeat' (first | refine ff ?_ | ((first | refine sR ?_ ?_ | refine sC ?_ ?_) <;> (intro hb; (try rw [hb]); (try simp only [bb] at hb); (try (exfalso; first | omega | exact hb trivial)))) | (apply endS trivial; rotate_left; (· exact eva); (· rfl); try refine ⟨?_, rfl⟩) | fail)
  all_goals (try rfl)
/-- Marks in a film. -/
def laws_markFilm_ok (c : Contract) : Prop :=
  ((∀ (σ : Heap) (k : Int), Ret c [noFilm, .int .i64 k] σ fun v σ' => v = .int .i64 k ∧ ∃ t, σ' = σ ++ t) ∧
  ∀ (σ : Heap) (w h : Int) (wr : Bool) (lo s l : Nat) (sp ls : List Nat) (k : Int), RInv σ lo [(s, sp), (l, ls)] → sp.length ≤ 1048576 → ls.length ≤ 1048576 → 0 ≤ k → k ≤ 900000000 →
    Ret c [fmV w h wr (slV s sp.length) (slV l ls.length) (.slice none 0 0), .int .i64 k] σ fun v σ' => v = .int .i64 (k + tot [(s, sp), (l, ls)]) ∧ ∃ t, σ' = markH σ k [(s, sp), (l, ls)] ++ t) ∧
  ∀ (σ : Heap) (w h : Int) (wr : Bool) (lo s l b : Nat) (R : Rws) (sp ls : List Nat) (fs : List Fld) (k : Int), FilmO σ lo s l b R sp ls fs → sp.length ≤ 1048576 → ls.length ≤ 1048576 → fs.length ≤ 1048576 → smallR R → tot R ≤ 900000000 → 0 ≤ k → k ≤ 900000000 →
    Ret c [fmV w h wr (slV s sp.length) (slV l ls.length) (slV b fs.length), .int .i64 k] σ fun v σ' => v = .int .i64 (k + tot ((s, sp) :: (l, ls) :: R)) ∧ ∃ t, σ' = markH σ k ((s, sp) :: (l, ls) :: R) ++ t
theorem laws_markFilm_law {C : Ctab} {i1 i2 : FuncId} {c1 c2 : Contract} (h1 : HasW C i1 c1 laws_markSheet_ok) (h2 : HasW C i2 c2 laws_markFieldS_ok) : laws_markFilm_ok (bodyC C (laws_markFilm i1 i2) false) := by
  refine ⟨⟨fun σ k => ?_, fun σ w h wr lo s l sp ls k hi hn1 hn2 k0 kk => ?_⟩, fun σ w h wr lo s l b R sp ls fs k ho hn1 hn2 hn3 hsm ht k0 kk => ?_⟩
  · refine ret_bx rfl rfl ?_
    repeat' (first | refine ff ?_ | ((first | refine sR ?_ ?_ | refine sC ?_ ?_) <;> (intro hb; (try rw [hb]); (try simp only [bb] at hb); (try (exfalso; first | omega | exact hb trivial)))) | (apply endS trivial; rotate_left; (· exact eva); (· rfl); try refine ⟨?_, rfl⟩) | fail)
    (apply EvR.aCall h1.at_; (· exact eva); (· exact  h1.ok.1 _ _ _ _ k); (rintro _ _ ⟨rfl, rfl⟩; refine EvR.nrm ?_))
    repeat' (first | refine ff ?_ | ((first | refine sR ?_ ?_ | refine sC ?_ ?_) <;> (intro hb; (try rw [hb]); (try simp only [bb] at hb); (try (exfalso; first | omega | exact hb trivial)))) | (apply endS trivial; rotate_left; (· exact eva); (· rfl); try refine ⟨?_, rfl⟩) | fail)
    (apply EvR.aCall h2.at_; (· exact eva); (· exact  h2.ok.1 _ k); (rintro _ _ ⟨rfl, rfl⟩; refine EvR.nrm ?_))
    repeat' (first | refine ff ?_ | ((first | refine sR ?_ ?_ | refine sC ?_ ?_) <;> (intro hb; (try rw [hb]); (try simp only [bb] at hb); (try (exfalso; first | omega | exact hb trivial)))) | (apply endS trivial; rotate_left; (· exact eva); (· rfl); try refine ⟨?_, rfl⟩) | fail)
    apply atEnd_ret
    · exact eva
    · exact ⟨rfl, _, rfl⟩
  · have hs := hi.own (s, sp) (by simp)
    have hl := hi.own (l, ls) (by simp)
    have ls_ := hi.lt (p := (s, sp)) (by simp)
    have ll_ := hi.lt (p := (l, ls)) (by simp)
    have hnod := hi.nod
    simp only [List.map_cons, List.map_nil, List.nodup_cons, List.mem_cons, not_or] at hnod
    refine ret_bx rfl rfl ?_
    repeat' (first | refine ff ?_ | ((first | refine sR ?_ ?_ | refine sC ?_ ?_) <;> (intro hb; (try rw [hb]); (try simp only [bb] at hb); (try (exfalso; first | omega | exact hb trivial)))) | (apply endS trivial; rotate_left; (· exact eva); (· rfl); try refine ⟨?_, rfl⟩) | fail)
    (apply EvR.aCall h1.at_; (· exact eva); (· exact  h1.ok.2 _ w h wr s l sp ls k hnod.1.1 (by rw [List.getElem?_append_left ls_]; exact hs) (by rw [List.getElem?_append_left ll_]; exact hl) hn1 hn2 k0 (by omega)); (rintro _ _ ⟨rfl, rfl⟩; refine EvR.nrm ?_))
    obtain ⟨H1, hH1⟩ : ∃ X, X = (σ.set s (rowO (marks k sp.length))).set l (rowO (marks (k + sp.length) ls.length)) := ⟨_, rfl⟩
    have hL : σ.length = H1.length := by rw [hH1, List.length_set, List.length_set]
    have hM : ∀ t : Heap, List.set (List.set (σ ++ t) s (rowO (marks k sp.length))) l (rowO (marks (k + sp.length) ls.length)) = H1 ++ t := fun t => by
      rw [List.set_append_left _ _ ls_, List.set_append_left _ _ (by rw [List.length_set]; exact ll_), hH1]
    have hmk : H1 = markH σ k [(s, sp), (l, ls)] := by rw [hH1]; rfl
    rw [hM, hL]
    repeat' (first | refine ff ?_ | ((first | refine sR ?_ ?_ | refine sC ?_ ?_) <;> (intro hb; (try rw [hb]); (try simp only [bb] at hb); (try (exfalso; first | omega | exact hb trivial)))) | (apply endS trivial; rotate_left; (· exact eva); (· rfl); try refine ⟨?_, rfl⟩) | fail)
    (apply EvR.aCall h2.at_; (· exact eva); (· exact  h2.ok.1 _ _); (rintro _ _ ⟨rfl, rfl⟩; refine EvR.nrm ?_))
    repeat' (first | refine ff ?_ | ((first | refine sR ?_ ?_ | refine sC ?_ ?_) <;> (intro hb; (try rw [hb]); (try simp only [bb] at hb); (try (exfalso; first | omega | exact hb trivial)))) | (apply endS trivial; rotate_left; (· exact eva); (· rfl); try refine ⟨?_, rfl⟩) | fail)
    apply atEnd_ret
    · exact eva
    · exact ⟨by simp only [tot, Int.natCast_add, Int.add_assoc] <;> simp, _, by rw [hmk]⟩
  · have hs := ho.inv.own (s, sp) (by simp)
    have hl := ho.inv.own (l, ls) (by simp)
    have ls_ := ho.inv.lt (p := (s, sp)) (by simp)
    have ll_ := ho.inv.lt (p := (l, ls)) (by simp)
    have hnod := ho.inv.nod
    simp only [List.map_cons, List.nodup_cons, List.mem_cons, not_or] at hnod
    refine ret_bx rfl rfl ?_
    repeat' (first | refine ff ?_ | ((first | refine sR ?_ ?_ | refine sC ?_ ?_) <;> (intro hb; (try rw [hb]); (try simp only [bb] at hb); (try (exfalso; first | omega | exact hb trivial)))) | (apply endS trivial; rotate_left; (· exact eva); (· rfl); try refine ⟨?_, rfl⟩) | fail)
    (apply EvR.aCall h1.at_; (· exact eva); (· exact  h1.ok.2 _ w h wr s l sp ls k hnod.1.1 (by rw [List.getElem?_append_left ls_]; exact hs) (by rw [List.getElem?_append_left ll_]; exact hl) hn1 hn2 k0 (by omega)); (rintro _ _ ⟨rfl, rfl⟩; refine EvR.nrm ?_))
    obtain ⟨H1, hH1⟩ : ∃ X, X = (σ.set s (rowO (marks k sp.length))).set l (rowO (marks (k + sp.length) ls.length)) := ⟨_, rfl⟩
    have hL : σ.length = H1.length := by rw [hH1, List.length_set, List.length_set]
    have hM : ∀ t : Heap, List.set (List.set (σ ++ t) s (rowO (marks k sp.length))) l (rowO (marks (k + sp.length) ls.length)) = H1 ++ t := fun t => by
      rw [List.set_append_left _ _ ls_, List.set_append_left _ _ (by rw [List.length_set]; exact ll_), hH1]
    have hmk : H1 = markH σ k [(s, sp), (l, ls)] := by rw [hH1]; rfl
    have hb2 := ho.bn
    simp only [List.mem_cons, not_or] at hb2
    have gb : H1[b]? = some ⟨R.map slOf, 3, true⟩ := by rw [hmk, markH_out (by simp [hb2.1, hb2.2.1])]; exact ho.row
    have lb := (List.getElem?_eq_some_iff.1 gb).1
    have gi : RInv H1 lo R := by
      rw [hmk]
      refine ho.tail.other (fun p hp hc => ?_) k
      simp only [List.map_cons, List.map_nil, List.mem_cons, List.not_mem_nil, or_false] at hc
      have hm := List.mem_map_of_mem (f := Prod.fst) hp
      rcases hc with hc | hc
      · exact hnod.1.2 (by rw [← hc]; exact hm)
      · exact hnod.2.1 (by rw [← hc]; exact hm)
    rw [hM, hL]
    repeat' (first | refine ff ?_ | ((first | refine sR ?_ ?_ | refine sC ?_ ?_) <;> (intro hb; (try rw [hb]); (try simp only [bb] at hb); (try (exfalso; first | omega | exact hb trivial)))) | (apply endS trivial; rotate_left; (· exact eva); (· rfl); try refine ⟨?_, rfl⟩) | fail)
    (apply EvR.aCall h2.at_; (· exact eva); (· exact  h2.ok.2 _ b fs.length lo R (k + sp.length + ls.length) (by rw [List.getElem?_append_left lb]; exact gb) (gi.ext _) hb2.2.2 ho.flds.len hn3 hsm (by omega) (by omega) (by omega)); (rintro _ _ ⟨rfl, rfl⟩; refine EvR.nrm ?_))
    rw [markH_ext R H1 _ _ (fun p hp => gi.lt hp)]
    repeat' (first | refine ff ?_ | ((first | refine sR ?_ ?_ | refine sC ?_ ?_) <;> (intro hb; (try rw [hb]); (try simp only [bb] at hb); (try (exfalso; first | omega | exact hb trivial)))) | (apply endS trivial; rotate_left; (· exact eva); (· rfl); try refine ⟨?_, rfl⟩) | fail)
    apply atEnd_ret
    · exact eva
    · refine ⟨by simp only [tot, Int.natCast_add, Int.add_assoc], [⟨[.int .i64 w, .int .i64 h, .bool wr, slV s sp.length, slV l ls.length, slV b fs.length], 0, true⟩], ?_⟩
      rw [hH1]
      rfl

def laws_heldFilm_ok (c : Contract) : Prop :=
  ((∀ (σ : Heap) (k : Int), 0 ≤ k → k ≤ 900000000 → Ret c [noFilm, .int .i64 k] σ fun v σ' => v = .int .i64 k ∧ σ' = σ) ∧
  ∀ (σ : Heap) (w h : Int) (wr : Bool) (s l : Nat) (sp ls : List Nat) (k : Int), (∀ p ∈ markR k [(s, sp), (l, ls)], σ[p.1]? = some (rowO p.2)) → sp.length ≤ 1048576 → ls.length ≤ 1048576 → 0 ≤ k → k ≤ 900000000 →
    Ret c [fmV w h wr (slV s sp.length) (slV l ls.length) (.slice none 0 0), .int .i64 k] σ fun v σ' => v = .int .i64 (k + tot [(s, sp), (l, ls)]) ∧ σ' = σ) ∧
  ∀ (σ : Heap) (w h : Int) (wr : Bool) (s l b n : Nat) (R : Rws) (sp ls : List Nat) (k : Int), σ[b]? = some ⟨R.map slOf, 3, true⟩ → (∀ p ∈ markR k ((s, sp) :: (l, ls) :: R), σ[p.1]? = some (rowO p.2)) → R.length = n * 3 → sp.length ≤ 1048576 → ls.length ≤ 1048576 → n ≤ 1048576 → smallR R → tot R ≤ 900000000 → 0 ≤ k → k ≤ 900000000 →
    Ret c [fmV w h wr (slV s sp.length) (slV l ls.length) (slV b n), .int .i64 k] σ fun v σ' => v = .int .i64 (k + tot ((s, sp) :: (l, ls) :: R)) ∧ σ' = σ
theorem laws_heldFilm_law {C : Ctab} {i1 i2 : FuncId} {c1 c2 : Contract} (h1 : Has C i1 c1 laws_heldSheet_ok) (h2 : Has C i2 c2 laws_heldFieldS_ok) : laws_heldFilm_ok (gcC C (laws_heldFilm i1 i2) true) := by
  refine ⟨⟨fun σ k k0 kk => ?_, fun σ w h wr s l sp ls k hown hn1 hn2 k0 kk => ?_⟩, fun σ w h wr s l b n R sp ls k hb0 hown hR hn1 hn2 hn3 hsm ht k0 kk => ?_⟩
  · refine ret_gc rfl rfl ?_
    repeat' (first | refine ff ?_ | ((first | refine sR ?_ ?_ | refine sC ?_ ?_) <;> (intro hb; (try rw [hb]); (try simp only [bb] at hb); (try (exfalso; first | omega | exact hb trivial)))) | (apply endS trivial; rotate_left; (· exact eva); (· rfl); try refine ⟨?_, rfl⟩) | fail)
    (apply EvR.aCall h1.at_; (· exact eva); (· exact  h1.ok _ 0 0 false _ _ 0 0 k ⟨rfl, rfl, rfl⟩ ⟨rfl, rfl, rfl⟩ (by omega) (by omega) (by omega) (by omega)); (rintro _ _ ⟨rfl, rfl⟩; refine EvR.nrm ?_))
    repeat' (first | refine ff ?_ | ((first | refine sR ?_ ?_ | refine sC ?_ ?_) <;> (intro hb; (try rw [hb]); (try simp only [bb] at hb); (try (exfalso; first | omega | exact hb trivial)))) | (apply endS trivial; rotate_left; (· exact eva); (· rfl); try refine ⟨?_, rfl⟩) | fail)
    (apply EvR.aCall h2.at_; (· exact eva); (· exact  h2.ok.1 _ _); (rintro _ _ ⟨rfl, rfl⟩; refine EvR.nrm ?_))
    repeat' (first | refine ff ?_ | ((first | refine sR ?_ ?_ | refine sC ?_ ?_) <;> (intro hb; (try rw [hb]); (try simp only [bb] at hb); (try (exfalso; first | omega | exact hb trivial)))) | (apply endS trivial; rotate_left; (· exact eva); (· rfl); try refine ⟨?_, rfl⟩) | fail)
    all_goals (try (simp; done))
  · simp only [markR, List.mem_cons] at hown
    have g1 : Row σ 1 (slV s sp.length) sp.length (f32s (marks k sp.length)) := Row.whole (hown (s, marks k sp.length) (.inl rfl)) (by omega) (by rw [f32s_length, marks_length]; omega)
    have g2 : Row σ 1 (slV l ls.length) ls.length (f32s (marks (k + sp.length) ls.length)) := Row.whole (hown (l, marks (k + sp.length) ls.length) (.inr (.inl rfl))) (by omega) (by rw [f32s_length, marks_length]; omega)
    refine ret_gc rfl rfl ?_
    repeat' (first | refine ff ?_ | ((first | refine sR ?_ ?_ | refine sC ?_ ?_) <;> (intro hb; (try rw [hb]); (try simp only [bb] at hb); (try (exfalso; first | omega | exact hb trivial)))) | (apply endS trivial; rotate_left; (· exact eva); (· rfl); try refine ⟨?_, rfl⟩) | fail)
    (apply EvR.aCall h1.at_; (· exact eva); (· exact  h1.ok _ w h wr _ _ sp.length ls.length k (g1.ext _) (g2.ext _) hn1 hn2 k0 (by omega)); (rintro _ _ ⟨rfl, rfl⟩; refine EvR.nrm ?_))
    repeat' (first | refine ff ?_ | ((first | refine sR ?_ ?_ | refine sC ?_ ?_) <;> (intro hb; (try rw [hb]); (try simp only [bb] at hb); (try (exfalso; first | omega | exact hb trivial)))) | (apply endS trivial; rotate_left; (· exact eva); (· rfl); try refine ⟨?_, rfl⟩) | fail)
    (apply EvR.aCall h2.at_; (· exact eva); (· exact  h2.ok.1 _ _); (rintro _ _ ⟨rfl, rfl⟩; refine EvR.nrm ?_))
    repeat' (first | refine ff ?_ | ((first | refine sR ?_ ?_ | refine sC ?_ ?_) <;> (intro hb; (try rw [hb]); (try simp only [bb] at hb); (try (exfalso; first | omega | exact hb trivial)))) | (apply endS trivial; rotate_left; (· exact eva); (· rfl); try refine ⟨?_, rfl⟩) | fail)
    all_goals (simp only [tot, Int.natCast_add, Int.add_assoc] <;> simp)
  · simp only [markR, List.mem_cons] at hown
    have g1 : Row σ 1 (slV s sp.length) sp.length (f32s (marks k sp.length)) := Row.whole (hown (s, marks k sp.length) (.inl rfl)) (by omega) (by rw [f32s_length, marks_length]; omega)
    have g2 : Row σ 1 (slV l ls.length) ls.length (f32s (marks (k + sp.length) ls.length)) := Row.whole (hown (l, marks (k + sp.length) ls.length) (.inr (.inl rfl))) (by omega) (by rw [f32s_length, marks_length]; omega)
    have lb := (List.getElem?_eq_some_iff.1 hb0).1
    refine ret_gc rfl rfl ?_
    repeat' (first | refine ff ?_ | ((first | refine sR ?_ ?_ | refine sC ?_ ?_) <;> (intro hb; (try rw [hb]); (try simp only [bb] at hb); (try (exfalso; first | omega | exact hb trivial)))) | (apply endS trivial; rotate_left; (· exact eva); (· rfl); try refine ⟨?_, rfl⟩) | fail)
    (apply EvR.aCall h1.at_; (· exact eva); (· exact  h1.ok _ w h wr _ _ sp.length ls.length k (g1.ext _) (g2.ext _) hn1 hn2 k0 (by omega)); (rintro _ _ ⟨rfl, rfl⟩; refine EvR.nrm ?_))
    repeat' (first | refine ff ?_ | ((first | refine sR ?_ ?_ | refine sC ?_ ?_) <;> (intro hb; (try rw [hb]); (try simp only [bb] at hb); (try (exfalso; first | omega | exact hb trivial)))) | (apply endS trivial; rotate_left; (· exact eva); (· rfl); try refine ⟨?_, rfl⟩) | fail)
    (apply EvR.aCall h2.at_; (· exact eva); (· exact  h2.ok.2 _ b n R (k + sp.length + ls.length) (by rw [List.getElem?_append_left lb]; exact hb0) (fun p hp => by have h3 := hown p (.inr (.inr hp)); rw [List.getElem?_append_left (List.getElem?_eq_some_iff.1 h3).1]; exact h3) hR hn3 hsm (by omega) (by omega) (by omega)); (rintro _ _ ⟨rfl, rfl⟩; refine EvR.nrm ?_))
    repeat' (first | refine ff ?_ | ((first | refine sR ?_ ?_ | refine sC ?_ ?_) <;> (intro hb; (try rw [hb]); (try simp only [bb] at hb); (try (exfalso; first | omega | exact hb trivial)))) | (apply endS trivial; rotate_left; (· exact eva); (· rfl); try refine ⟨?_, rfl⟩) | fail)
    all_goals simp only [tot, Int.natCast_add, Int.add_assoc]
end Go.Abs

