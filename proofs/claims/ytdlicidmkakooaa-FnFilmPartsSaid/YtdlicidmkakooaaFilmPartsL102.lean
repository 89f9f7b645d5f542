/- Laws of functions: films and fields that bytes choose. Conditions: the laws of what they call. -/
import Derived.Test.YtdlicidmkakooaaFilmPartsL101
import Derived.Test.YtdlicidmkakooaaFilmPartsL48
import Derived.Test.YtdlicidmkakooaaFilmPartsL75
import Derived.Test.YtdlicidmkakooaaFilmPartsL88
namespace Go.Abs

set_option linter.unusedSimpArgs false
set_option linter.unusedVariables false
set_option maxHeartbeats 8000000
set_option maxRecDepth 20000
/- loop.example/g01201/spec.R8Film -/
def spec_R8Film_r0 : List SOper := [
  ⟨(some 2), none, .alloc [(.int .i64 0), (.int .i64 0), (.bool false), (.slice none 0 0), (.slice none 0 0), (.slice none 0 0)], 0⟩]
def spec_R8Film_r1 (i_spec_l00From : FuncId) : List SOper := [
  ⟨(some 4), none, .mov (.tmp 0), 0⟩,
  ⟨(some 5), none, .call (.func i_spec_l00From) [(.tmp 4)], 1⟩,
  ⟨(some 3), none, .mov (.tmp 5), 3⟩]
def spec_R8Film_r2 (i_spec_l10DrawOk : FuncId) : List SOper := [
  ⟨(some 6), none, .mov (.tmp 3), 0⟩,
  ⟨(some 7), none, .call (.func i_spec_l10DrawOk) [(.tmp 6)], 1⟩,
  ⟨none, none, .store 6 (.tmp 2) (.tmp 7), 3⟩]
def spec_R8Film (i_spec_l00From i_spec_l10DrawOk : FuncId) : SFunc := ⟨8, [.cellN 2 6], (.kp [0] (.seq (.region spec_R8Film_r0 false) (.kp [0, 2] (.seq (.region (spec_R8Film_r1 i_spec_l00From) false) (.kp [2, 3] (.seq (.region (spec_R8Film_r2 i_spec_l10DrawOk) false) .ret))))))⟩

/- loop.example/g01201/spec.R8Wild -/
def spec_R8Wild_r0 : List SOper := [
  ⟨(some 3), none, .box (.tmp 1), 0⟩,
  ⟨(some 4), none, .alloc [(.slice none 0 0), (.slice none 0 0), (.slice none 0 0)], 0⟩]
def spec_R8Wild_r1 (i_spec_l00From : FuncId) : List SOper := [
  ⟨(some 6), none, .mov (.tmp 0), 0⟩,
  ⟨(some 7), none, .call (.func i_spec_l00From) [(.tmp 6)], 1⟩,
  ⟨(some 5), none, .mov (.tmp 7), 3⟩]
def spec_R8Wild_r2 (i_spec_l02DrawField : FuncId) : List SOper := [
  ⟨(some 8), none, .mov (.tmp 5), 0⟩,
  ⟨(some 9), none, .call (.func i_spec_l02DrawField) [(.tmp 8), (.tmp 3)], 1⟩,
  ⟨none, none, .store 3 (.tmp 4) (.tmp 9), 3⟩]
def spec_R8Wild (i_spec_l00From i_spec_l02DrawField : FuncId) : SFunc := ⟨10, [.cellN 4 3], (.kp [0, 1] (.seq (.region spec_R8Wild_r0 false) (.kp [0, 3, 4] (.seq (.region (spec_R8Wild_r1 i_spec_l00From) false) (.kp [3, 4, 5] (.seq (.region (spec_R8Wild_r2 i_spec_l02DrawField) false) .ret))))))⟩


theorem take_drop_app {α : Type} {A B : List α} {n : Nat} (h : B.take n = A) : B = A ++ B.drop n := by rw [← h, List.take_append_drop]
def spec_R8Film_ok (c : Contract) : Prop := ∀ (σ : Heap) (cv : Value) (code : List UInt8), Row σ 1 cv code.length (b8s code) → code.length ≤ 1000000 →
    Ret c [cv] σ fun v σ' => ∃ (W H : Nat) (wr : Bool) (sp lo : List Nat) (fs : List Fld) (s l fb : Nat) (R : Rws) (τ : Heap), isFilm W H wr sp lo fs = true ∧ fs.length ≤ 3 ∧ lowF fs ∧ in32 sp ∧ in32 lo ∧
      v = fmV W H wr (slV s sp.length) (slV l lo.length) (slV fb fs.length) ∧ σ' = σ ++ τ ∧ FilmO σ' σ.length s l fb R sp lo fs
theorem spec_R8Film_law {C : Ctab} {i1 i2 : FuncId} {c1 c2 : Contract} (h1 : Has C i1 c1 spec_l00From_ok) (h2 : HasW C i2 c2 spec_l10DrawOk_ok) : spec_R8Film_ok (bodyC C (spec_R8Film i1 i2) true) := by
  intro σ cv code hr hc
  have k1 := hr.ok
  refine ret_bd rfl rfl ?_
  repeat' (first | refine ff ?_ | ((first | refine EvR.aSplB ?_ ?_ | refine Ev.aSplB ?_ ?_) <;> (intro hb; (try rw [hb]); (try simp only [Bool.not_eq_true', Bool.not_eq_false', Bool.not_eq_eq_eq_not, Bool.not_true, Bool.not_false, decide_eq_true_eq, decide_eq_false_iff_not, Bool.and_eq_true, Bool.and_eq_false_iff, Bool.or_eq_true, Bool.or_eq_false_iff] at hb); (try (exfalso; first | omega | exact hb trivial)))) | (apply endS trivial; rotate_left; (· exact eva); (· rfl); try refine ⟨?_, rfl⟩) | fail)
  (apply EvR.aCall h1.at_; (· exact eva); (· exact  h1.ok _ cv k1); (rintro _ _ ⟨rfl, rfl⟩; refine EvR.nrm ?_))
  repeat' (first | refine ff ?_ | ((first | refine EvR.aSplB ?_ ?_ | refine Ev.aSplB ?_ ?_) <;> (intro hb; (try rw [hb]); (try simp only [Bool.not_eq_true', Bool.not_eq_false', Bool.not_eq_eq_eq_not, Bool.not_true, Bool.not_false, decide_eq_true_eq, decide_eq_false_iff_not, Bool.and_eq_true, Bool.and_eq_false_iff, Bool.or_eq_true, Bool.or_eq_false_iff] at hb); (try (exfalso; first | omega | exact hb trivial)))) | (apply endS trivial; rotate_left; (· exact eva); (· rfl); try refine ⟨?_, rfl⟩) | fail)
  apply EvR.aCall h2.at_; (· exact eva); (· exact h2.ok _ (σ.length + 1) cv code 0 0 ⟨hget _ _ 1, hr.ext _⟩ (by omega) (by omega) hc)
  rintro _ T ⟨W, H, wr, sp, lo, fs, s, l, fb, R, p', d', hI, hlen, lF, w1, w2, rfl, ht, hle, ho⟩
  obtain ⟨X, hX⟩ : ∃ X, T = σ ++ (⟨[.int .i64 0, .int .i64 0, .bool false, .slice none 0 0, .slice none 0 0, .slice none 0 0], 0, true⟩ :: X) := by
    have h1 := take_drop_app ht
    refine ⟨srcO cv p' d' :: T.drop (σ ++ [(⟨[.int .i64 0, .int .i64 0, .bool false, .slice none 0 0, .slice none 0 0, .slice none 0 0], 0, true⟩ : AObj), srcO cv 0 0]).length, ?_⟩
    conv => lhs; rw [h1]
    rw [set_app]
    simp
  have hl2 : (σ ++ [(⟨[.int .i64 0, .int .i64 0, .bool false, .slice none 0 0, .slice none 0 0, .slice none 0 0], 0, true⟩ : AObj), srcO cv 0 0]).length = σ.length + 2 := by simp
  rw [hl2] at ho
  clear ht hle
  subst hX
  have hv2 : (σ ++ ((⟨[.int .i64 0, .int .i64 0, .bool false, .slice none 0 0, .slice none 0 0, .slice none 0 0], 0, true⟩ : AObj) :: X))[σ.length + 0]? = some ⟨[.int .i64 0, .int .i64 0, .bool false, .slice none 0 0, .slice none 0 0, .slice none 0 0], 0, true⟩ := hget _ _ 0
  have ho2 := (ho.keep (H' := σ ++ ((⟨[.int .i64 W, .int .i64 H, .bool wr, slV s sp.length, slV l lo.length, slV fb fs.length], 0, true⟩ : AObj) :: X)) fun o h1 h2 => by
    obtain ⟨j, rfl⟩ : ∃ j, o = σ.length + (j + 1) := ⟨o - σ.length - 1, by omega⟩
    rw [hget, hget]; rfl).less (show σ.length ≤ σ.length + 2 by omega)
  refine EvR.nrm ?_
  repeat' (first | refine ff ?_ | ((first | refine EvR.aSplB ?_ ?_ | refine Ev.aSplB ?_ ?_) <;> (intro hb; (try rw [hb]); (try simp only [Bool.not_eq_true', Bool.not_eq_false', Bool.not_eq_eq_eq_not, Bool.not_true, Bool.not_false, decide_eq_true_eq, decide_eq_false_iff_not, Bool.and_eq_true, Bool.and_eq_false_iff, Bool.or_eq_true, Bool.or_eq_false_iff] at hb); (try (exfalso; first | omega | exact hb trivial)))) | (apply endS trivial; rotate_left; (· exact eva); (· rfl); try refine ⟨?_, rfl⟩) | fail)
  apply endB trivial
  · exact eva
  · exact ⟨W, H, wr, sp, lo, fs, s, l, fb, R, _, hI, hlen, lF, w1, w2, rfl, rfl, ho2⟩

def spec_R8Wild_ok (c : Contract) : Prop := ∀ (σ : Heap) (cv : Value) (code : List UInt8) (W H : Nat) (wr : Bool) (sv lv : Value) (sp lo : List Nat), Row σ 1 cv code.length (b8s code) → code.length ≤ 1000000 → ShR σ sv lv sp lo → isSheet W H sp lo = true →
    Ret c [cv, shV W H wr sv lv] σ fun v σ' => ∃ (f : Fld) (e x y : Nat) (τ : Heap), isField W H wr sp lo f.e f.x f.y = true ∧ lowF1 f ∧ v = fV (slV e f.e.length) (slV x f.x.length) (slV y f.y.length) ∧ σ' = σ ++ τ ∧ FlN σ' σ.length e x y f
theorem spec_R8Wild_law {C : Ctab} {i1 i2 : FuncId} {c1 c2 : Contract} (h1 : Has C i1 c1 spec_l00From_ok) (h2 : HasW C i2 c2 spec_l02DrawField_ok) : spec_R8Wild_ok (bodyC C (spec_R8Wild i1 i2) true) := by
  intro σ cv code W H wr sv lv sp lo hr hc ⟨r1, r2⟩ hsh
  have k1 := hr.ok
  have k2 := r1.ok
  have k3 := r2.ok
  refine ret_bd rfl rfl ?_
  repeat' (first | refine ff ?_ | ((first | refine EvR.aSplB ?_ ?_ | refine Ev.aSplB ?_ ?_) <;> (intro hb; (try rw [hb]); (try simp only [Bool.not_eq_true', Bool.not_eq_false', Bool.not_eq_eq_eq_not, Bool.not_true, Bool.not_false, decide_eq_true_eq, decide_eq_false_iff_not, Bool.and_eq_true, Bool.and_eq_false_iff, Bool.or_eq_true, Bool.or_eq_false_iff] at hb); (try (exfalso; first | omega | exact hb trivial)))) | (apply endS trivial; rotate_left; (· exact eva); (· rfl); try refine ⟨?_, rfl⟩) | fail)
  (apply EvR.aCall h1.at_; (· exact eva); (· exact  h1.ok _ cv k1); (rintro _ _ ⟨rfl, rfl⟩; refine EvR.nrm ?_))
  repeat' (first | refine ff ?_ | ((first | refine EvR.aSplB ?_ ?_ | refine Ev.aSplB ?_ ?_) <;> (intro hb; (try rw [hb]); (try simp only [Bool.not_eq_true', Bool.not_eq_false', Bool.not_eq_eq_eq_not, Bool.not_true, Bool.not_false, decide_eq_true_eq, decide_eq_false_iff_not, Bool.and_eq_true, Bool.and_eq_false_iff, Bool.or_eq_true, Bool.or_eq_false_iff] at hb); (try (exfalso; first | omega | exact hb trivial)))) | (apply endS trivial; rotate_left; (· exact eva); (· rfl); try refine ⟨?_, rfl⟩) | fail)
  apply EvR.aCall h2.at_; (· exact eva); (· exact h2.ok _ (σ.length + 2) (σ.length + 0) 0 cv code 0 0 W H wr sv lv sp lo ⟨hget _ _ 2, hr.ext _⟩ (PtAt.own rfl) ⟨r1.ext _, r2.ext _⟩ hsh (by omega) (by omega) hc)
  rintro _ _ ⟨f, e, x, y, p', d', rub, hf, lf, u0, u1, rfl, rfl, hN⟩
  simp only [set_app, List.set_cons_succ, List.set_cons_zero, List.append_assoc, List.cons_append, List.nil_append] at hN
  refine EvR.nrm ?_
  repeat' (first | refine ff ?_ | ((first | refine EvR.aSplB ?_ ?_ | refine Ev.aSplB ?_ ?_) <;> (intro hb; (try rw [hb]); (try simp only [Bool.not_eq_true', Bool.not_eq_false', Bool.not_eq_eq_eq_not, Bool.not_true, Bool.not_false, decide_eq_true_eq, decide_eq_false_iff_not, Bool.and_eq_true, Bool.and_eq_false_iff, Bool.or_eq_true, Bool.or_eq_false_iff] at hb); (try (exfalso; first | omega | exact hb trivial)))) | (apply endS trivial; rotate_left; (· exact eva); (· rfl); try refine ⟨?_, rfl⟩) | fail)
  have hl3 : (σ ++ [(⟨[.int .i64 W, .int .i64 H, .bool wr, sv, lv], 0, true⟩ : AObj), ⟨[.slice none 0 0, .slice none 0 0, .slice none 0 0], 0, true⟩, srcO cv 0 0]).length = σ.length + 3 := by simp
  have g : ∀ {A B : AObj} {o : Nat} {z : AObj}, σ.length + 3 ≤ o → (σ ++ (A :: ⟨[.slice none 0 0, .slice none 0 0, .slice none 0 0], 0, true⟩ :: srcO cv p' d' :: rub))[o]? = some z → (σ ++ (A :: B :: srcO cv p' d' :: rub))[o]? = some z := fun {A B o z} h1 h2 => by
    obtain ⟨j, rfl⟩ : ∃ j, o = σ.length + (j + 3) := ⟨o - σ.length - 3, by omega⟩
    rw [hget] at h2 ⊢; exact h2
  have elo := hN.elo
  have ex := hN.ex
  have xy := hN.xy
  try rw [hl3] at elo
  try simp only [List.length_append, List.length_cons, List.length_nil] at elo
  apply endB trivial
  · exact eva
  · exact ⟨f, e, x, y, _, hf, lf, rfl, rfl, ⟨g (by omega) hN.e_, g (by omega) hN.x_, g (by omega) hN.y_, by omega, ex, xy⟩⟩

theorem bitsC_same {xs : List Nat} (h : nums xs) : xs.map bitsC = xs := by
  apply List.ext_getElem?
  intro i
  rw [List.getElem?_map]
  cases hx : xs[i]? with
  | none => rfl
  | some x =>
    have hlt := (List.getElem?_eq_some_iff.1 hx).1
    have := (h i hlt).2
    rw [List.getD_eq_getElem?_getD, hx] at this
    simp only [Option.getD_some] at this
    simp [bitsC, this]
theorem nums_in {xs : List Nat} (h : nums xs) : in32N xs := fun i => by
  rcases Nat.lt_or_ge i xs.length with h' | h'
  · exact (h i h').1
  · rw [List.getD_eq_getElem?_getD, List.getElem?_eq_none h']; simp
theorem SameSheet_of_N {C : Ctab} {i : FuncId} {c : Contract} (h : Has C i c impl_SameSheetN_ok) : Has C i c impl_SameSheet_ok := ⟨h.at_, h.quiet, by
  intro σ w h1 wr sv lv sp lo w' h' wr' sv' lv' sp' lo' r r' n1 n2 n3 n4 u1 u2 u3 u4
  refine (h.ok σ w h1 wr sv lv sp lo w' h' wr' sv' lv' sp' lo' r r' n1 n2 n3 n4 (nums_in u1) (nums_in u2) (nums_in u3) (nums_in u4)).mono fun v σ' hv => ⟨?_, hv.2⟩
  rw [hv.1]
  unfold sameSN sameS sameL
  rw [bitsC_same u1, bitsC_same u2, bitsC_same u3, bitsC_same u4]⟩
abbrev impl_JoinFilmsX_ok := JoinFilms_ok
theorem impl_JoinFilmsX_law {C : Ctab} {i1 i2 i3 i4 i5 : FuncId} {c1 c2 c3 c4 c5 : Contract} (h1 : Has C i1 c1 impl_ValidFilm_ok) (h2 : Has C i2 c2 impl_SameSheetN_ok) (h3 : Has C i3 c3 impl_copySheet_ok) (h4 : Has C i4 c4 impl_copyFields_ok) (h5 : Has C i5 c5 impl_validFilm_ok) : impl_JoinFilmsX_ok (bodyC C (impl_JoinFilms i1 i2 i3 i4 i5) true) :=
  impl_JoinFilms_law h1 (SameSheet_of_N h2) h3 h4 h5
end Go.Abs

