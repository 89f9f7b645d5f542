/- Laws of functions: films that are copied, compared, marked and held. Conditions: the laws of what they call. -/
import Derived.Test.YtoijdkmkfhefjaaExactStoreFilmL63
import Derived.Test.YtoijdkmkfhefjaaExactStoreFilmL14
namespace Go.Abs

set_option linter.unusedSimpArgs false
set_option linter.unusedVariables false
set_option maxHeartbeats 8000000
set_option maxRecDepth 20000
/- loop.example/g01201/laws.szFilm -/
def laws_szFilm_r0 : List SOper := [
  ⟨(some 2), none, .box (.tmp 0), 0⟩,
  ⟨(some 4), none, .mov (.const (.int .i64 0)), 0⟩]
def laws_szFilm_r1 (i_laws_szSheet : FuncId) : List SOper := [
  ⟨(some 5), none, .fieldAddr 0 (.tmp 2), 0⟩,
  ⟨(some 6), none, .loadN 5 (.tmp 5), 1⟩,
  ⟨(some 7), none, .mov (.tmp 1), 0⟩,
  ⟨(some 8), none, .call (.func i_laws_szSheet) [(.tmp 6), (.tmp 7)], 7⟩,
  ⟨(some 1), none, .mov (.tmp 8), 15⟩]
def laws_szFilm_r2 : List SOper := [
  ⟨(some 9), none, .mov (.tmp 1), 0⟩,
  ⟨(some 10), none, .bin .lss .other (.tmp 9) (.const (.int .i64 0)), 1⟩]
def laws_szFilm_r3 : List SOper := [
  ⟨(some 4), none, .mov (.const (.int .i64 (-1))), 0⟩]
def laws_szFilm_r4 (i_laws_szFieldS : FuncId) : List SOper := [
  ⟨(some 11), none, .fieldAddr 5 (.tmp 2), 0⟩,
  ⟨(some 12), none, .load1 (.tmp 11), 1⟩,
  ⟨(some 13), none, .mov (.tmp 1), 0⟩,
  ⟨(some 14), none, .call (.func i_laws_szFieldS) [(.tmp 12), (.tmp 13)], 7⟩,
  ⟨(some 1), none, .mov (.tmp 14), 15⟩]
def laws_szFilm_r5 : List SOper := [
  ⟨(some 15), none, .mov (.tmp 1), 0⟩,
  ⟨(some 16), none, .bin .lss .other (.tmp 15) (.const (.int .i64 0)), 1⟩]
def laws_szFilm_r6 : List SOper := [
  ⟨(some 4), none, .mov (.const (.int .i64 (-1))), 0⟩]
def laws_szFilm_r7 : List SOper := [
  ⟨(some 17), none, .mov (.tmp 1), 0⟩,
  ⟨(some 4), none, .mov (.tmp 17), 1⟩]
def laws_szFilm (i_laws_szSheet i_laws_szFieldS : FuncId) : SFunc := ⟨18, [.tmp 4], (.kp [0, 1] (.seq (.region laws_szFilm_r0 false) (.kp [1, 2] (.seq (.region (laws_szFilm_r1 i_laws_szSheet) false) (.kp [1, 2] (.seq (.seq (.region laws_szFilm_r2 false) (.kp [1, 2, 10] (.cond (.tmp 10) (.seq (.region laws_szFilm_r3 false) .ret) .skip))) (.kp [1, 2] (.seq (.region (laws_szFilm_r4 i_laws_szFieldS) false) (.kp [1] (.seq (.seq (.region laws_szFilm_r5 false) (.kp [1, 16] (.cond (.tmp 16) (.seq (.region laws_szFilm_r6 false) .ret) .skip))) (.kp [1] (.seq (.region laws_szFilm_r7 false) .ret))))))))))))⟩

/- loop.example/g01201/laws.toFilm -/
def laws_toFilm_r0 : List SOper := [
  ⟨(some 1), none, .box (.tmp 0), 0⟩,
  ⟨(some 2), none, .alloc [(.int .i64 0), (.int .i64 0), (.bool false), (.slice none 0 0), (.slice none 0 0), (.slice none 0 0)], 0⟩]
def laws_toFilm_r1 : List SOper := [
  ⟨(some 3), none, .alloc [(.int .i64 0), (.int .i64 0), (.bool false), (.slice none 0 0), (.slice none 0 0), (.slice none 0 0)], 0⟩]
def laws_toFilm_r2 (i_laws_toSheet : FuncId) : List SOper := [
  ⟨(some 4), none, .fieldAddr 0 (.tmp 1), 0⟩,
  ⟨(some 5), none, .loadN 5 (.tmp 4), 1⟩,
  ⟨(some 6), none, .call (.func i_laws_toSheet) [(.tmp 5)], 3⟩,
  ⟨(some 7), none, .fieldAddr 0 (.tmp 3), 7⟩,
  ⟨none, none, .store 5 (.tmp 7) (.tmp 6), 15⟩]
def laws_toFilm_r3 (i_laws_toFieldS : FuncId) : List SOper := [
  ⟨(some 8), none, .fieldAddr 5 (.tmp 1), 0⟩,
  ⟨(some 9), none, .load1 (.tmp 8), 1⟩,
  ⟨(some 10), none, .call (.func i_laws_toFieldS) [(.tmp 9)], 3⟩,
  ⟨(some 11), none, .fieldAddr 5 (.tmp 3), 7⟩,
  ⟨none, none, .store 1 (.tmp 11) (.tmp 10), 15⟩]
def laws_toFilm_r4 : List SOper := [
  ⟨(some 12), none, .loadN 6 (.tmp 3), 0⟩,
  ⟨none, none, .store 6 (.tmp 2) (.tmp 12), 1⟩]
def laws_toFilm (i_laws_toSheet i_laws_toFieldS : FuncId) : SFunc := ⟨13, [.cellN 2 6], (.kp [0] (.seq (.region laws_toFilm_r0 false) (.kp [1, 2] (.seq (.region laws_toFilm_r1 false) (.kp [1, 2, 3] (.seq (.region (laws_toFilm_r2 i_laws_toSheet) false) (.kp [1, 2, 3] (.seq (.region (laws_toFilm_r3 i_laws_toFieldS) false) (.kp [2, 3] (.seq (.region laws_toFilm_r4 false) .ret))))))))))⟩

/- loop.example/g01201/laws.eqFilm -/
def laws_eqFilm_r0 : List SOper := [
  ⟨(some 2), none, .box (.tmp 0), 0⟩,
  ⟨(some 3), none, .box (.tmp 1), 0⟩,
  ⟨(some 4), none, .mov (.const (.bool false)), 0⟩]
def laws_eqFilm_r1 (i_laws_eqSheet : FuncId) : List SOper := [
  ⟨(some 5), none, .fieldAddr 0 (.tmp 2), 0⟩,
  ⟨(some 6), none, .loadN 5 (.tmp 5), 1⟩,
  ⟨(some 7), none, .fieldAddr 0 (.tmp 3), 0⟩,
  ⟨(some 8), none, .loadN 5 (.tmp 7), 4⟩,
  ⟨(some 9), none, .call (.func i_laws_eqSheet) [(.tmp 6), (.tmp 8)], 15⟩,
  ⟨(some 10), none, .un .not (.tmp 9), 31⟩]
def laws_eqFilm_r2 : List SOper := [
  ⟨(some 4), none, .mov (.const (.bool false)), 0⟩]
def laws_eqFilm_r3 (i_laws_eqFieldS : FuncId) : List SOper := [
  ⟨(some 11), none, .fieldAddr 5 (.tmp 2), 0⟩,
  ⟨(some 12), none, .load1 (.tmp 11), 1⟩,
  ⟨(some 13), none, .fieldAddr 5 (.tmp 3), 0⟩,
  ⟨(some 14), none, .load1 (.tmp 13), 4⟩,
  ⟨(some 15), none, .call (.func i_laws_eqFieldS) [(.tmp 12), (.tmp 14)], 15⟩,
  ⟨(some 16), none, .un .not (.tmp 15), 31⟩]
def laws_eqFilm_r4 : List SOper := [
  ⟨(some 4), none, .mov (.const (.bool false)), 0⟩]
def laws_eqFilm_r5 : List SOper := [
  ⟨(some 4), none, .mov (.const (.bool true)), 0⟩]
def laws_eqFilm (i_laws_eqSheet i_laws_eqFieldS : FuncId) : SFunc := ⟨17, [.tmp 4], (.kp [0, 1] (.seq (.region laws_eqFilm_r0 false) (.kp [2, 3] (.seq (.seq (.region (laws_eqFilm_r1 i_laws_eqSheet) false) (.kp [2, 3, 10] (.cond (.tmp 10) (.seq (.region laws_eqFilm_r2 false) .ret) .skip))) (.kp [2, 3] (.seq (.seq (.region (laws_eqFilm_r3 i_laws_eqFieldS) false) (.kp [16] (.cond (.tmp 16) (.seq (.region laws_eqFilm_r4 false) .ret) .skip))) (.kp [] (.seq (.region laws_eqFilm_r5 false) .ret))))))))⟩

/-- The value of a film. -/
abbrev fmV (w h : Int) (wr : Bool) (sv lv fv : Value) : Value := .agg #[.int .i64 w, .int .i64 h, .bool wr, sv, lv, fv]
/-- A film whose rows are owned. -/
structure FilmO (H : Heap) (lo s l b : Nat) (R : Rws) (sp ls : List Nat) (fs : List Fld) : Prop where
  row : H[b]? = some ⟨R.map slOf, 3, true⟩
  inv : RInv H lo ((s, sp) :: (l, ls) :: R)
  con : R.map Prod.snd = rowsOf fs
  bl : lo ≤ b
  bn : b ∉ s :: l :: R.map Prod.fst
section
variable {H : Heap} {lo s l b : Nat} {R : Rws} {sp ls : List Nat} {fs : List Fld}
theorem FilmO.tail (h : FilmO H lo s l b R sp ls fs) : RInv H lo R := ⟨fun p hp => h.inv.own p (by simp [hp]), fun p hp => h.inv.low p (by simp [hp]), by
  have := h.inv.nod
  simp only [List.map_cons, List.nodup_cons] at this
  exact this.2.2⟩
theorem FilmO.flds (h : FilmO H lo s l b R sp ls fs) : FlsO H lo b R fs := ⟨h.row, h.tail, h.con, h.bl, fun hc => h.bn (by simp only [List.mem_cons]; exact .inr (.inr hc))⟩
theorem FilmO.sheet (h : FilmO H lo s l b R sp ls fs) : ShR H (slV s sp.length) (slV l ls.length) sp ls :=
  ⟨Row.whole (h.inv.own (s, sp) (by simp)) (by omega) (by rw [f32s_length]; omega), Row.whole (h.inv.own (l, ls) (by simp)) (by omega) (by rw [f32s_length]; omega)⟩
theorem FilmO.ext (h : FilmO H lo s l b R sp ls fs) (t : Heap) : FilmO (H ++ t) lo s l b R sp ls fs :=
  ⟨by rw [List.getElem?_append_left (List.getElem?_eq_some_iff.1 h.row).1]; exact h.row, h.inv.ext t, h.con, h.bl, h.bn⟩
theorem FilmO.keep {H' : Heap} (h : FilmO H lo s l b R sp ls fs) (hk : ∀ o, lo ≤ o → o < H.length → H'[o]? = H[o]?) : FilmO H' lo s l b R sp ls fs :=
  ⟨by rw [hk _ h.bl (List.getElem?_eq_some_iff.1 h.row).1]; exact h.row, h.inv.keep hk, h.con, h.bl, h.bn⟩
theorem FilmO.less {lo' : Nat} (h : FilmO H lo s l b R sp ls fs) (hl : lo' ≤ lo) : FilmO H lo' s l b R sp ls fs := ⟨h.row, h.inv.less hl, h.con, Nat.le_trans hl h.bl, h.bn⟩
end
theorem FlsO.keep {H H' : Heap} {lo b : Nat} {R : Rws} {fs : List Fld} (h : FlsO H lo b R fs) (hk : ∀ o, lo ≤ o → o < H.length → H'[o]? = H[o]?) : FlsO H' lo b R fs :=
  ⟨by rw [hk _ h.bl (List.getElem?_eq_some_iff.1 h.row).1]; exact h.row, h.inv.keep hk, h.con, h.bl, h.bn⟩
/-- Two rows and fields, all new. -/
theorem filmO_of {H : Heap} {lo lo2 s l b : Nat} {R : Rws} {sp ls : List Nat} {fs : List Fld} (h : FlsO H lo2 b R fs) (hs : H[s]? = some (rowO sp)) (hl : H[l]? = some (rowO ls)) (h1 : lo ≤ s) (h2 : s < l) (h3 : l < lo2) : FilmO H lo s l b R sp ls fs := by
  have hlow : ∀ x ∈ R.map Prod.fst, lo2 ≤ x := fun x hx => by
    obtain ⟨p, hp, rfl⟩ := List.mem_map.1 hx
    exact h.inv.low p hp
  refine ⟨h.row, ⟨fun p hp => ?_, fun p hp => ?_, ?_⟩, h.con, Nat.le_trans (by omega) h.bl, fun hc => ?_⟩
  · simp only [List.mem_cons] at hp
    rcases hp with rfl | rfl | hp
    · exact hs
    · exact hl
    · exact h.inv.own p hp
  · simp only [List.mem_cons] at hp
    rcases hp with rfl | rfl | hp
    · exact h1
    · dsimp only; omega
    · have := h.inv.low p hp; omega
  · simp only [List.map_cons, List.nodup_cons, List.mem_cons, not_or]
    exact ⟨⟨by omega, fun hc => by have := hlow _ hc; omega⟩, fun hc => by have := hlow _ hc; omega, h.inv.nod⟩
  · have hb := h.bl
    simp only [List.mem_cons] at hc
    rcases hc with rfl | rfl | hc
    · omega
    · omega
    · exact h.bn hc

def szFilm (sp lo : List Nat) (fs : List Fld) (left : Int) : Int := if szSheet sp lo left < 0 then -1 else if szFls fs (szSheet sp lo left) < 0 then -1 else szFls fs (szSheet sp lo left)
def laws_szFilm_ok (c : Contract) : Prop := ∀ (σ : Heap) (w h : Int) (wr : Bool) (sv lv fv : Value) (sp lo : List Nat) (fs : List Fld) (left : Int), ShR σ sv lv sp lo → FlsR σ fv fs → sp.length ≤ 9223372036854775807 → lo.length ≤ 9223372036854775807 → bigF fs → 0 ≤ left → left ≤ 1048576 →
    Ret c [fmV w h wr sv lv fv, .int .i64 left] σ fun v' σ' => v' = .int .i64 (szFilm sp lo fs left) ∧ σ' = σ
theorem laws_szFilm_law {C : Ctab} {i1 i2 : FuncId} {c1 c2 : Contract} (h1 : Has C i1 c1 laws_szSheet_ok) (h2 : Has C i2 c2 laws_szFieldS_ok) : laws_szFilm_ok (gcC C (laws_szFilm i1 i2) true) := by
  intro σ w h wr sv lv fv sp lo fs left ⟨r1, r2⟩ hf hn1 hn2 hbg h0 hle
  have k1 := r1.ok
  have k2 := r2.ok
  have k3 := hf.ok
  obtain ⟨z1, z2, z3⟩ := szSheet_fact sp lo left h0
  unfold szFilm
  by_cases ha : szSheet sp lo left < 0
  · rw [if_pos ha]
    refine ret_gc rfl rfl ?_
    repeat' (first | refine ff ?_ | (apply EvR.aCall h1.at_; (· exact eva); (· apply h1.ok <;> exact sid); (rintro _ _ ⟨rfl, rfl⟩; refine EvR.nrm ?_)) | ((first | refine EvR.aSplB ?_ ?_ | refine Ev.aSplB ?_ ?_) <;> (intro hb; (try rw [hb]); (try simp only [Bool.not_eq_true', Bool.not_eq_false', Bool.not_eq_eq_eq_not, Bool.not_true, Bool.not_false, decide_eq_true_eq, decide_eq_false_iff_not, Bool.and_eq_true, Bool.and_eq_false_iff, Bool.or_eq_true, Bool.or_eq_false_iff] at hb); (try (exfalso; first | omega | exact hb trivial)))) | (apply endS trivial; rotate_left; (· exact eva); (· rfl); try refine ⟨?_, rfl⟩) | fail)
    all_goals (try rfl)
  rw [if_neg ha]
  by_cases hc : szFls fs (szSheet sp lo left) < 0
  · rw [if_pos hc]
    refine ret_gc rfl rfl ?_
    repeat' (first | refine ff ?_ | (apply EvR.aCall h1.at_; (· exact eva); (· apply h1.ok <;> exact sid); (rintro _ _ ⟨rfl, rfl⟩; refine EvR.nrm ?_)) | ((first | refine EvR.aSplB ?_ ?_ | refine Ev.aSplB ?_ ?_) <;> (intro hb; (try rw [hb]); (try simp only [Bool.not_eq_true', Bool.not_eq_false', Bool.not_eq_eq_eq_not, Bool.not_true, Bool.not_false, decide_eq_true_eq, decide_eq_false_iff_not, Bool.and_eq_true, Bool.and_eq_false_iff, Bool.or_eq_true, Bool.or_eq_false_iff] at hb); (try (exfalso; first | omega | exact hb trivial)))) | (apply endS trivial; rotate_left; (· exact eva); (· rfl); try refine ⟨?_, rfl⟩) | fail)
    (apply EvR.aCall h2.at_; (· exact eva); (· exact  h2.ok _ fv fs _ (hf.ext _) hbg (by omega) (by omega)); (rintro _ _ ⟨rfl, rfl⟩; refine EvR.nrm ?_))
    repeat' (first | refine ff ?_ | ((first | refine EvR.aSplB ?_ ?_ | refine Ev.aSplB ?_ ?_) <;> (intro hb; (try rw [hb]); (try simp only [Bool.not_eq_true', Bool.not_eq_false', Bool.not_eq_eq_eq_not, Bool.not_true, Bool.not_false, decide_eq_true_eq, decide_eq_false_iff_not, Bool.and_eq_true, Bool.and_eq_false_iff, Bool.or_eq_true, Bool.or_eq_false_iff] at hb); (try (exfalso; first | omega | exact hb trivial)))) | (apply endS trivial; rotate_left; (· exact eva); (· rfl); try refine ⟨?_, rfl⟩) | fail)
    all_goals (try rfl)
  · rw [if_neg hc]
    refine ret_gc rfl rfl ?_
    repeat' (first | refine ff ?_ | (apply EvR.aCall h1.at_; (· exact eva); (· apply h1.ok <;> exact sid); (rintro _ _ ⟨rfl, rfl⟩; refine EvR.nrm ?_)) | ((first | refine EvR.aSplB ?_ ?_ | refine Ev.aSplB ?_ ?_) <;> (intro hb; (try rw [hb]); (try simp only [Bool.not_eq_true', Bool.not_eq_false', Bool.not_eq_eq_eq_not, Bool.not_true, Bool.not_false, decide_eq_true_eq, decide_eq_false_iff_not, Bool.and_eq_true, Bool.and_eq_false_iff, Bool.or_eq_true, Bool.or_eq_false_iff] at hb); (try (exfalso; first | omega | exact hb trivial)))) | (apply endS trivial; rotate_left; (· exact eva); (· rfl); try refine ⟨?_, rfl⟩) | fail)
    (apply EvR.aCall h2.at_; (· exact eva); (· exact  h2.ok _ fv fs _ (hf.ext _) hbg (by omega) (by omega)); (rintro _ _ ⟨rfl, rfl⟩; refine EvR.nrm ?_))
    repeat' (first | refine ff ?_ | ((first | refine EvR.aSplB ?_ ?_ | refine Ev.aSplB ?_ ?_) <;> (intro hb; (try rw [hb]); (try simp only [Bool.not_eq_true', Bool.not_eq_false', Bool.not_eq_eq_eq_not, Bool.not_true, Bool.not_false, decide_eq_true_eq, decide_eq_false_iff_not, Bool.and_eq_true, Bool.and_eq_false_iff, Bool.or_eq_true, Bool.or_eq_false_iff] at hb); (try (exfalso; first | omega | exact hb trivial)))) | (apply endS trivial; rotate_left; (· exact eva); (· rfl); try refine ⟨?_, rfl⟩) | fail)
    all_goals (try rfl)

def laws_toFilm_ok (c : Contract) : Prop := ∀ (σ : Heap) (w h : Int) (wr : Bool) (sv lv fv : Value) (sp lo : List Nat) (fs : List Fld), ShR σ sv lv sp lo → FlsR σ fv fs → sp.length ≤ 1048576 → lo.length ≤ 1048576 → fitsF fs →
    Ret c [fmV w h wr sv lv fv] σ fun v σ' => ∃ τ s l b R, σ' = σ ++ τ ∧ v = fmV w h wr (slV s sp.length) (slV l lo.length) (slV b fs.length) ∧ FilmO σ' σ.length s l b R sp lo fs
theorem laws_toFilm_law {C : Ctab} {i1 i2 : FuncId} {c1 c2 : Contract} (h1 : Has C i1 c1 laws_toSheet_ok) (h2 : Has C i2 c2 laws_toFieldS_ok) : laws_toFilm_ok (bodyC C (laws_toFilm i1 i2) true) := by
  intro σ w h wr sv lv fv sp lo fs ⟨r1, r2⟩ hf hn1 hn2 hb
  have k1 := r1.ok
  have k2 := r2.ok
  have k3 := hf.ok
  refine ret_bd rfl rfl ?_
  repeat' (first | refine ff ?_ | (apply EvR.aCall h1.at_; (· exact eva); (· apply h1.ok <;> exact sid); (rintro _ _ ⟨rfl, rfl⟩; refine EvR.nrm ?_)) | ((first | refine EvR.aSplB ?_ ?_ | refine Ev.aSplB ?_ ?_) <;> (intro hb; (try rw [hb]); (try simp only [Bool.not_eq_true', Bool.not_eq_false', Bool.not_eq_eq_eq_not, Bool.not_true, Bool.not_false, decide_eq_true_eq, decide_eq_false_iff_not, Bool.and_eq_true, Bool.and_eq_false_iff, Bool.or_eq_true, Bool.or_eq_false_iff] at hb); (try (exfalso; first | omega | exact hb trivial)))) | (apply endS trivial; rotate_left; (· exact eva); (· rfl); try refine ⟨?_, rfl⟩) | fail)
  apply EvR.aCall h2.at_; (· exact eva); (· exact h2.ok _ fv fs (hf.ext _) hb); rintro _ _ ⟨τ, b, R, rfl, rfl, ho⟩
  simp only [List.length_append, List.length_cons, List.length_nil, Nat.zero_add, Nat.reduceAdd] at ho
  refine EvR.nrm ?_
  repeat' (first | refine ff ?_ | ((first | refine EvR.aSplB ?_ ?_ | refine Ev.aSplB ?_ ?_) <;> (intro hb; (try rw [hb]); (try simp only [Bool.not_eq_true', Bool.not_eq_false', Bool.not_eq_eq_eq_not, Bool.not_true, Bool.not_false, decide_eq_true_eq, decide_eq_false_iff_not, Bool.and_eq_true, Bool.and_eq_false_iff, Bool.or_eq_true, Bool.or_eq_false_iff] at hb); (try (exfalso; first | omega | exact hb trivial)))) | (apply endS trivial; rotate_left; (· exact eva); (· rfl); try refine ⟨?_, rfl⟩) | fail)
  apply endB trivial
  · exact eva
  · refine ⟨_, σ.length + 3, σ.length + 4, b, R, rfl, rfl, ?_⟩
    refine filmO_of (lo2 := σ.length + 5) (ho.keep fun o h0 _ => ?_) (hget _ _ 3) (hget _ _ 4) (by omega) (by omega) (by omega)
    obtain ⟨j, rfl⟩ : ∃ j, o = σ.length + (j + 5) := ⟨o - σ.length - 5, by omega⟩
    rw [hget, List.append_assoc, hget]
    rfl

def laws_eqFilm_ok (c : Contract) : Prop := ∀ (σ : Heap) (w h : Int) (wr : Bool) (sv lv fv sv' lv' fv' : Value) (sp lo : List Nat) (fs : List Fld), ShR σ sv lv sp lo → FlsR σ fv fs → ShR σ sv' lv' sp lo → FlsR σ fv' fs → sp.length ≤ 1048576 → lo.length ≤ 1048576 → fitsF fs →
    Ret c [fmV w h wr sv lv fv, fmV w h wr sv' lv' fv'] σ fun v σ' => v = .bool true ∧ σ' = σ
theorem laws_eqFilm_law {C : Ctab} {i1 i2 : FuncId} {c1 c2 : Contract} (h1 : Has C i1 c1 laws_eqSheet_ok) (h2 : Has C i2 c2 laws_eqFieldS_ok) : laws_eqFilm_ok (gcC C (laws_eqFilm i1 i2) true) := by
  intro σ w h wr sv lv fv sv' lv' fv' sp lo fs ⟨r1, r2⟩ hf ⟨r3, r4⟩ hf' hn1 hn2 hb
  have k1 := r1.ok
  have k2 := r2.ok
  have k3 := hf.ok
  have k4 := r3.ok
  have k5 := r4.ok
  have k6 := hf'.ok
  refine ret_gc rfl rfl ?_
  repeat' (first | refine ff ?_ | (apply EvR.aCall h1.at_; (· exact eva); (· apply h1.ok <;> exact sid); (rintro _ _ ⟨rfl, rfl⟩; refine EvR.nrm ?_)) | ((first | refine EvR.aSplB ?_ ?_ | refine Ev.aSplB ?_ ?_) <;> (intro hb; (try rw [hb]); (try simp only [Bool.not_eq_true', Bool.not_eq_false', Bool.not_eq_eq_eq_not, Bool.not_true, Bool.not_false, decide_eq_true_eq, decide_eq_false_iff_not, Bool.and_eq_true, Bool.and_eq_false_iff, Bool.or_eq_true, Bool.or_eq_false_iff] at hb); (try (exfalso; first | omega | exact hb trivial)))) | (apply endS trivial; rotate_left; (· exact eva); (· rfl); try refine ⟨?_, rfl⟩) | fail)
  (apply EvR.aCall h2.at_; (· exact eva); (· exact  h2.ok _ fv fv' fs (hf.ext _) (hf'.ext _) hb); (rintro _ _ ⟨rfl, rfl⟩; refine EvR.nrm ?_))
  repeat' (first | refine ff ?_ | ((first | refine EvR.aSplB ?_ ?_ | refine Ev.aSplB ?_ ?_) <;> (intro hb; (try rw [hb]); (try simp only [Bool.not_eq_true', Bool.not_eq_false', Bool.not_eq_eq_eq_not, Bool.not_true, Bool.not_false, decide_eq_true_eq, decide_eq_false_iff_not, Bool.and_eq_true, Bool.and_eq_false_iff, Bool.or_eq_true, Bool.or_eq_false_iff] at hb); (try (exfalso; first | omega | exact hb trivial)))) | (apply endS trivial; rotate_left; (· exact eva); (· rfl); try refine ⟨?_, rfl⟩) | fail)
  all_goals (try rfl)
end Go.Abs

