/- Laws of functions: some fields of a film, by the reference. Conditions: the laws of what they call. -/
import Derived.Test.YtoijdkmkfhefjaaExactJoinFilmsL66
namespace Go.Abs

set_option linter.unusedSimpArgs false
set_option linter.unusedVariables false
set_option maxHeartbeats 8000000
set_option maxRecDepth 20000
/- loop.example/g01201/spec.l10Sheet -/
def spec_l10Sheet_r0 : List SOper := [
  ⟨(some 2), none, .alloc [(.int .i64 0), (.int .i64 0), (.bool false), (.slice none 0 0), (.slice none 0 0)], 0⟩]
def spec_l10Sheet_r1 : List SOper := [
  ⟨(some 4), none, .mov (.tmp 0), 0⟩,
  ⟨(some 5), none, .nilCheck (.tmp 4), 1⟩,
  ⟨(some 6), none, .loadN 5 (.tmp 5), 3⟩,
  ⟨(some 3), none, .alloc [(.int .i64 0), (.int .i64 0), (.bool false), (.slice none 0 0), (.slice none 0 0)], 0⟩,
  ⟨none, none, .store 5 (.tmp 3) (.tmp 6), 15⟩]
def spec_l10Sheet_r2 : List SOper := [
  ⟨(some 7), none, .buildSlice 1 0 [] [], 0⟩,
  ⟨(some 8), none, .mov (.tmp 0), 0⟩,
  ⟨(some 9), none, .nilCheck (.tmp 8), 2⟩,
  ⟨(some 10), none, .fieldAddr 3 (.tmp 9), 6⟩,
  ⟨(some 11), none, .load1 (.tmp 10), 14⟩,
  ⟨(some 12), none, .append 1 4 (.tmp 7) (.tmp 11), 31⟩,
  ⟨(some 13), none, .fieldAddr 3 (.tmp 3), 63⟩,
  ⟨none, none, .store 1 (.tmp 13) (.tmp 12), 127⟩]
def spec_l10Sheet_r3 : List SOper := [
  ⟨(some 14), none, .buildSlice 1 0 [] [], 0⟩,
  ⟨(some 15), none, .mov (.tmp 0), 0⟩,
  ⟨(some 16), none, .nilCheck (.tmp 15), 2⟩,
  ⟨(some 17), none, .fieldAddr 4 (.tmp 16), 6⟩,
  ⟨(some 18), none, .load1 (.tmp 17), 14⟩,
  ⟨(some 19), none, .append 1 4 (.tmp 14) (.tmp 18), 31⟩,
  ⟨(some 20), none, .fieldAddr 4 (.tmp 3), 63⟩,
  ⟨none, none, .store 1 (.tmp 20) (.tmp 19), 127⟩]
def spec_l10Sheet_r4 : List SOper := [
  ⟨(some 21), none, .loadN 5 (.tmp 3), 0⟩,
  ⟨none, none, .store 5 (.tmp 2) (.tmp 21), 1⟩]
def spec_l10Sheet : SFunc := ⟨22, [.cellN 2 5], (.kp [0] (.seq (.region spec_l10Sheet_r0 false) (.kp [0, 2] (.seq (.region spec_l10Sheet_r1 false) (.kp [0, 2, 3] (.seq (.region spec_l10Sheet_r2 false) (.kp [0, 2, 3] (.seq (.region spec_l10Sheet_r3 false) (.kp [2, 3] (.seq (.region spec_l10Sheet_r4 false) .ret))))))))))⟩

/- loop.example/g01201/spec.l10Some -/
def spec_l10Some_r0 : List SOper := [
  ⟨(some 6), none, .alloc [(.int .i64 0), (.int .i64 0), (.bool false), (.slice none 0 0), (.slice none 0 0), (.slice none 0 0)], 0⟩]
def spec_l10Some_r1 (i_spec_l10Sheet : FuncId) : List SOper := [
  ⟨(some 9), none, .mov (.tmp 0), 0⟩,
  ⟨(some 10), none, .nilCheck (.tmp 9), 1⟩,
  ⟨(some 11), none, .fieldAddr 0 (.tmp 10), 3⟩,
  ⟨(some 12), none, .call (.func i_spec_l10Sheet) [(.tmp 11)], 7⟩,
  ⟨(some 13), none, .buildSlice 3 0 [] [], 0⟩,
  ⟨(some 14), none, .build [(.int .i64 0), (.int .i64 0), (.bool false), (.slice none 0 0), (.slice none 0 0), (.slice none 0 0)] [(0, 5, (.tmp 12)), (5, 1, (.tmp 13))], 31⟩,
  ⟨(some 7), none, .alloc [(.int .i64 0), (.int .i64 0), (.bool false), (.slice none 0 0), (.slice none 0 0), (.slice none 0 0)], 0⟩,
  ⟨none, none, .store 6 (.tmp 7) (.tmp 14), 127⟩]
def spec_l10Some_r2 : List SOper := [
  ⟨(some 15), none, .mov (.tmp 1), 0⟩,
  ⟨(some 8), none, .mov (.tmp 15), 1⟩]
def spec_l10Some_r3 : List SOper := [
  ⟨(some 16), none, .mov (.tmp 8), 0⟩,
  ⟨(some 17), none, .mov (.tmp 1), 0⟩,
  ⟨(some 18), none, .mov (.tmp 2), 0⟩,
  ⟨(some 19), none, .bin .add .other (.tmp 17) (.tmp 18), 6⟩,
  ⟨(some 20), none, .bin .lss .other (.tmp 16) (.tmp 19), 15⟩]
def spec_l10Some_r4 (i_spec_l02Own : FuncId) : List SOper := [
  ⟨(some 23), none, .fieldAddr 5 (.tmp 7), 0⟩,
  ⟨(some 24), none, .load1 (.tmp 23), 1⟩,
  ⟨(some 25), none, .mov (.tmp 0), 0⟩,
  ⟨(some 26), none, .nilCheck (.tmp 25), 4⟩,
  ⟨(some 27), none, .fieldAddr 5 (.tmp 26), 12⟩,
  ⟨(some 28), none, .load1 (.tmp 27), 28⟩,
  ⟨(some 29), none, .mov (.tmp 8), 0⟩,
  ⟨(some 30), none, .indexAddrS 3 (.tmp 28) (.tmp 29), 124⟩,
  ⟨(some 31), none, .call (.func i_spec_l02Own) [(.tmp 30)], 252⟩,
  ⟨(some 32), none, .buildSlice 3 1 [(.slice none 0 0), (.slice none 0 0), (.slice none 0 0)] [(0, 3, (.tmp 31))], 508⟩,
  ⟨(some 33), none, .append 3 72 (.tmp 24) (.tmp 32), 1023⟩,
  ⟨(some 34), none, .fieldAddr 5 (.tmp 7), 2047⟩,
  ⟨none, none, .store 1 (.tmp 34) (.tmp 33), 4095⟩]
def spec_l10Some_r5 : List SOper := [
  ⟨(some 21), none, .mov (.tmp 8), 0⟩,
  ⟨(some 22), none, .bin .add .other (.tmp 21) (.const (.int .i64 1)), 1⟩,
  ⟨(some 8), none, .mov (.tmp 22), 3⟩]
def spec_l10Some_l6 (i_spec_l02Own : FuncId) : SCode := (.kp [0, 1, 2, 6, 7, 8] (.seq (.seq (.region spec_l10Some_r3 false) (.kp [0, 1, 2, 6, 7, 8, 20] (.cond (.tmp 20) .skip (.exit 0)))) (.kp [0, 1, 2, 6, 7, 8] (.seq (.block 1 (.region (spec_l10Some_r4 i_spec_l02Own) true)) (.kp [0, 1, 2, 6, 7, 8] (.region spec_l10Some_r5 false))))))
def spec_l10Some_r7 : List SOper := [
  ⟨(some 35), none, .loadN 6 (.tmp 7), 0⟩,
  ⟨none, none, .store 6 (.tmp 6) (.tmp 35), 1⟩]
def spec_l10Some (i_spec_l10Sheet i_spec_l02Own : FuncId) : SFunc := ⟨36, [.cellN 6 6], (.kp [0, 1, 2] (.seq (.region spec_l10Some_r0 false) (.kp [0, 1, 2, 6] (.seq (.region (spec_l10Some_r1 i_spec_l10Sheet) false) (.kp [0, 1, 2, 6, 7] (.seq (.seq (.region spec_l10Some_r2 false) (.kp [0, 1, 2, 6, 7, 8] (.block 0 (.loop (spec_l10Some_l6 i_spec_l02Own))))) (.kp [6, 7] (.seq (.region spec_l10Some_r7 false) .ret))))))))⟩
theorem spec_l10Some_r4_dr {i_spec_l02Own : FuncId} : drawOkW wStat (spec_l10Some_r4 i_spec_l02Own) = true := by kernel_rfl
attribute [push_cast] spec_l10Some_r4_dr
def spec_l02OwnE_ok (c : Contract) : Prop := ∀ (σ : Heap) (p q c' : Nat) (ev xv yv : Value) (e x y : List Nat), PtE σ p q c' [ev, xv, yv] → FlR σ ev xv yv e x y → e.length ≤ 1048576 → x.length ≤ 1048576 → y.length ≤ 1048576 →
    Ret c [.pointer (some ⟨p, q, some c'⟩)] σ fun v σ' => v = fV (slV σ.length e.length) (slV (σ.length + 1) x.length) (slV (σ.length + 2) y.length) ∧ σ' = σ ++ [rowO e, rowO x, rowO y]
theorem spec_l02OwnE_law {C : Ctab} : spec_l02OwnE_ok (gcC C spec_l02Own true) := by
  intro σ p q c' ev xv yv e x y hp hr hn1 hn2 hn3
  obtain ⟨r1, r2, r3⟩ := hr
  refine ret_gc rfl rfl ?_
  repeat' (first | refine ff ?_ | ((first | refine EvR.aSplB ?_ ?_ | refine Ev.aSplB ?_ ?_) <;> (intro hb; (try rw [hb]); (try simp only [Bool.not_eq_true', Bool.not_eq_false', Bool.not_eq_eq_eq_not, Bool.not_true, Bool.not_false, decide_eq_true_eq, decide_eq_false_iff_not, Bool.and_eq_true, Bool.and_eq_false_iff, Bool.or_eq_true, Bool.or_eq_false_iff] at hb); (try (exfalso; first | omega | exact hb trivial)))) | (apply endS trivial; rotate_left; (· exact eva); (· rfl); try refine ⟨?_, rfl⟩) | fail)
  (apply endR [1, 3, 4] trivial ⟨rfl, rfl⟩; (· exact eva); (· simp [gcTop, gcVal, gcLeaf, gcLeaves, gcVals, constOk, gc_lt, gc_lt0]); (· rfl); (· decide); (· simp [allConst, f32s, i64s, b8s, bools, constOk]))

def spec_l10Sheet_ok (c : Contract) : Prop := ∀ (σ : Heap) (p o : Nat) (w h : Int) (wr : Bool) (sv lv : Value) (sp lo : List Nat), PtAt σ p o [.int .i64 w, .int .i64 h, .bool wr, sv, lv] → ShR σ sv lv sp lo → sp.length ≤ 1048576 → lo.length ≤ 1048576 →
    Ret c [.pointer (some ⟨p, o, none⟩)] σ fun v σ' => v = shV w h wr (slV σ.length sp.length) (slV (σ.length + 1) lo.length) ∧ σ' = σ ++ [rowO sp, rowO lo]
theorem spec_l10Sheet_law {C : Ctab} : spec_l10Sheet_ok (gcC C spec_l10Sheet true) := by
  intro σ p o w h wr sv lv sp lo hp ⟨r1, r2⟩ hn1 hn2
  have k1 := r1.ok
  have k2 := r2.ok
  refine ret_gc rfl rfl ?_
  repeat' (first | refine ff ?_ | ((first | refine EvR.aSplB ?_ ?_ | refine Ev.aSplB ?_ ?_) <;> (intro hb; (try rw [hb]); (try simp only [Bool.not_eq_true', Bool.not_eq_false', Bool.not_eq_eq_eq_not, Bool.not_true, Bool.not_false, decide_eq_true_eq, decide_eq_false_iff_not, Bool.and_eq_true, Bool.and_eq_false_iff, Bool.or_eq_true, Bool.or_eq_false_iff] at hb); (try (exfalso; first | omega | exact hb trivial)))) | (apply endS trivial; rotate_left; (· exact eva); (· rfl); try refine ⟨?_, rfl⟩) | fail)
  (apply endR [2, 3] trivial ⟨rfl, rfl⟩; (· exact eva); (· simp [gcTop, gcVal, gcLeaf, gcLeaves, gcVals, constOk, gc_lt, gc_lt0]); (· rfl); (· decide); (· simp [allConst, f32s, i64s, b8s, bools, constOk]))

def spec_l10Some_ok (c : Contract) : Prop := ∀ (σ : Heap) (p : Nat) (w h : Int) (wr : Bool) (sv lv fv : Value) (sp lo : List Nat) (fs : List Fld) (from_ count : Nat), PtAt σ p 0 [.int .i64 w, .int .i64 h, .bool wr, sv, lv, fv] → ShR σ sv lv sp lo → FlsR σ fv fs → sp.length ≤ 1048576 → lo.length ≤ 1048576 → fitsF fs → from_ + count ≤ fs.length →
    Ret c [.pointer (some ⟨p, 0, none⟩), .int .i64 from_, .int .i64 count] σ fun v σ' => ∃ τ s l b R, σ' = σ ++ τ ∧ v = fmV w h wr (slV s sp.length) (slV l lo.length) (slV b count) ∧ FilmO σ' σ.length s l b R sp lo ((fs.drop from_).take count)
theorem spec_l10Some_law {C : Ctab} {i1 i2 : FuncId} {c1 c2 : Contract} (h1 : Has C i1 c1 spec_l10Sheet_ok) (h2 : Has C i2 c2 spec_l02OwnE_ok) : spec_l10Some_ok (bodyC C (spec_l10Some i1 i2) true) := by
  intro σ p w h wr sv lv fv sp lo fs a n hp ⟨r1, r2⟩ hf n1 n2 ⟨hn, hfit⟩ han
  obtain ⟨cs, hrow, hcs⟩ := hf.ex
  have hp5 : Unit → PtAt σ p 0 [.int .i64 w, .int .i64 h, .bool wr, sv, lv] := fun _ => PtAt.first (ds := [fv]) hp
  obtain ⟨gs, hgs⟩ : ∃ gs, gs = (fs.drop a).take n := ⟨_, rfl⟩
  have hgl : gs.length = n := by rw [hgs, List.length_take, List.length_drop]; omega
  rw [← hgs]
  refine ret_bd rfl rfl ?_
  repeat' (first | refine ff ?_ | ((first | refine EvR.aSplB ?_ ?_ | refine Ev.aSplB ?_ ?_) <;> (intro hb; (try rw [hb]); (try simp only [Bool.not_eq_true', Bool.not_eq_false', Bool.not_eq_eq_eq_not, Bool.not_true, Bool.not_false, decide_eq_true_eq, decide_eq_false_iff_not, Bool.and_eq_true, Bool.and_eq_false_iff, Bool.or_eq_true, Bool.or_eq_false_iff] at hb); (try (exfalso; first | omega | exact hb trivial)))) | (apply endS trivial; rotate_left; (· exact eva); (· rfl); try refine ⟨?_, rfl⟩) | fail)
  (apply EvR.aCall h1.at_; (· exact eva); (· exact  h1.ok _ p 0 w h wr sv lv sp lo ((hp5 ()).ext _) ⟨r1.ext _, r2.ext _⟩ n1 n2); (rintro _ _ ⟨rfl, rfl⟩; refine EvR.nrm ?_))
  repeat' (first | refine ff ?_ | ((first | refine EvR.aSplB ?_ ?_ | refine Ev.aSplB ?_ ?_) <;> (intro hb; (try rw [hb]); (try simp only [Bool.not_eq_true', Bool.not_eq_false', Bool.not_eq_eq_eq_not, Bool.not_true, Bool.not_false, decide_eq_true_eq, decide_eq_false_iff_not, Bool.and_eq_true, Bool.and_eq_false_iff, Bool.or_eq_true, Bool.or_eq_false_iff] at hb); (try (exfalso; first | omega | exact hb trivial)))) | (apply endS trivial; rotate_left; (· exact eva); (· rfl); try refine ⟨?_, rfl⟩) | fail)
  refine Ev.whlH (S := Nat × Rws × Heap) (fun st => n - st.1) (fun st => [(8, .int .i64 ((a + st.1 : Nat) : Int))]) (fun st => σ ++ (⟨[.int .i64 0, .int .i64 0, .bool false, .slice none 0 0, .slice none 0 0, .slice none 0 0], 0, true⟩ :: rowO sp :: rowO lo :: ⟨st.2.1.map slOf, 3, true⟩ :: ⟨[.int .i64 w, .int .i64 h, .bool wr, slV (σ.length + 1) sp.length, slV (σ.length + 2) lo.length, slV (σ.length + 3) st.1], 0, true⟩ :: st.2.2))
    (fun st => st.1 ≤ n ∧ st.2.1.map Prod.snd = rowsOf (gs.take st.1) ∧ ∀ X Y, RInv (σ ++ (⟨[.int .i64 0, .int .i64 0, .bool false, .slice none 0 0, .slice none 0 0, .slice none 0 0], 0, true⟩ :: rowO sp :: rowO lo :: X :: Y :: st.2.2)) (σ.length + 5) st.2.1) (0, [], []) (by (simp only [List.cons_append, List.nil_append, ↓fget_cons, push_cast, Nat.reduceEqDiff, reduceIte] <;> rfl)) rfl ⟨Nat.zero_le _, rfl, fun X Y => RInv.nil _ _⟩ ?_
  rintro ⟨i, R, rub⟩ F hF ⟨hi, hcon, hinv⟩
  dsimp only at hF hi hcon hinv ⊢
  (simp only [List.cons_append, List.nil_append, ↓fget_cons, fkeep_cons, fkeep_nil, Nat.reduceEqDiff, reduceIte] at hF; subst hF)
  have hRl : R.length = i * 3 := by
    have := congrArg List.length hcon
    rw [List.length_map, rowsOf_length, List.length_take] at this
    omega
  by_cases hlt : i < n
  · obtain ⟨f, hf2⟩ : ∃ f, gs[i]? = some f := ⟨_, List.getElem?_eq_getElem (by omega)⟩
    have hf : fs[a + i]? = some f := by rw [hgs, List.getElem?_take, if_pos hlt, List.getElem?_drop] at hf2; exact hf2
    obtain ⟨u, v, z, hc, g3, g4, g5⟩ := hcs.get hf
    obtain ⟨pb, po, pn, he, hpe⟩ := hrow.elem (by omega) hc
    obtain ⟨f1, f2, f3⟩ := hfit f (List.mem_of_getElem? hf)
    have hlen : (R.map slOf).length = i * 3 := by rw [List.length_map, hRl]
    repeat' (first | refine ff ?_ | ((first | refine EvR.aSplB ?_ ?_ | refine Ev.aSplB ?_ ?_) <;> (intro hb; (try rw [hb]); (try simp only [Bool.not_eq_true', Bool.not_eq_false', Bool.not_eq_eq_eq_not, Bool.not_true, Bool.not_false, decide_eq_true_eq, decide_eq_false_iff_not, Bool.and_eq_true, Bool.and_eq_false_iff, Bool.or_eq_true, Bool.or_eq_false_iff] at hb); (try (exfalso; first | omega | exact hb trivial)))) | (apply endS trivial; rotate_left; (· exact eva); (· rfl); try refine ⟨?_, rfl⟩) | fail)
    apply EvR.aCall h2.at_; (· exact eva); (· rw [he]; exact h2.ok _ pb po pn u v z f.e f.x f.y (hpe.ext _) ⟨g3.ext _, g4.ext _, g5.ext _⟩ f1 f2 f3); (rintro _ _ ⟨rfl, rfl⟩; refine EvR.nrm ?_)
    repeat' (first | refine ff ?_ | ((first | refine EvR.aSplB ?_ ?_ | refine Ev.aSplB ?_ ?_) <;> (intro hb; (try rw [hb]); (try simp only [Bool.not_eq_true', Bool.not_eq_false', Bool.not_eq_eq_eq_not, Bool.not_true, Bool.not_false, decide_eq_true_eq, decide_eq_false_iff_not, Bool.and_eq_true, Bool.and_eq_false_iff, Bool.or_eq_true, Bool.or_eq_false_iff] at hb); (try (exfalso; first | omega | exact hb trivial)))) | (apply endS trivial; rotate_left; (· exact eva); (· rfl); try refine ⟨?_, rfl⟩) | fail)
    refine ⟨(i + 1, R ++ [(σ.length + (rub.length + 5), f.e), (σ.length + (rub.length + 6), f.x), (σ.length + (rub.length + 7), f.y)], rub ++ [rowO f.e, rowO f.x, rowO f.y, ⟨[slV (σ.length + (rub.length + 5)) f.e.length, slV (σ.length + (rub.length + 6)) f.x.length, slV (σ.length + (rub.length + 7)) f.y.length], 3, true⟩]), by dsimp only; omega, ?_, ?_, by dsimp only; omega, ?_, fun X Y => ?_⟩
    · dsimp only
      rw [show ((a + (i + 1) : Nat) : Int) = ((a + i : Nat) : Int) + 1 from by omega]
      (simp only [List.cons_append, List.nil_append, ↓fget_cons, push_cast, Nat.reduceEqDiff, reduceIte] <;> rfl)
    · dsimp only; rw [List.map_append] <;> rfl
    · dsimp only; rw [List.map_append, hcon, rowsOf_take hf2] <;> rfl
    · have := (hinv X Y).snoc3 (by simp only [List.length_append, List.length_cons]; omega) f [⟨[slV (σ.length + (rub.length + 5)) f.e.length, slV (σ.length + (rub.length + 6)) f.x.length, slV (σ.length + (rub.length + 7)) f.y.length], 3, true⟩]
      simpa [List.append_assoc, Nat.add_assoc] using this
  · obtain rfl : i = n := by omega
    rw [List.take_of_length_le (by omega)] at hcon
    repeat' (first | refine ff ?_ | ((first | refine EvR.aSplB ?_ ?_ | refine Ev.aSplB ?_ ?_) <;> (intro hb; (try rw [hb]); (try simp only [Bool.not_eq_true', Bool.not_eq_false', Bool.not_eq_eq_eq_not, Bool.not_true, Bool.not_false, decide_eq_true_eq, decide_eq_false_iff_not, Bool.and_eq_true, Bool.and_eq_false_iff, Bool.or_eq_true, Bool.or_eq_false_iff] at hb); (try (exfalso; first | omega | exact hb trivial)))) | (apply endS trivial; rotate_left; (· exact eva); (· rfl); try refine ⟨?_, rfl⟩) | fail)
    apply endB trivial
    · exact eva
    · refine ⟨_, σ.length + 1, σ.length + 2, σ.length + 3, R, rfl, rfl, filmO_of (lo2 := σ.length + 3) ⟨hget _ _ 3, RInv.less (lo := σ.length + 5) (RInv.keep (hinv ⟨[], 0, true⟩ ⟨[], 0, true⟩) fun o h0 _ => ?_) (by omega), hcon, by omega, fun hc => ?_⟩ (hget _ _ 1) (hget _ _ 2) (by omega) (by omega) (by omega)⟩
      · obtain ⟨j, rfl⟩ : ∃ j, o = σ.length + (j + 5) := ⟨o - σ.length - 5, by omega⟩
        rw [hget, hget]
        rfl
      · obtain ⟨q, hq, heq⟩ := List.mem_map.1 hc
        have := (hinv ⟨[], 0, true⟩ ⟨[], 0, true⟩).low q hq
        omega
end Go.Abs

