/- Law of a row's function: bytes of changes. Conditions: the laws of what it calls. -/
import Derived.Test.YtnibmlgdnhiglaaExactChangeBytesL38
namespace Go.Abs

set_option linter.unusedSimpArgs false
set_option linter.unusedVariables false
set_option maxHeartbeats 8000000
set_option maxRecDepth 20000
/- loop.example/g01201/laws.FnExactChangeBytes -/
def laws_FnExactChangeBytes_r0 : List SOper := [
  ⟨(some 4), none, .mov (.const (.bool false)), 0⟩]
def laws_FnExactChangeBytes_r1 : List SOper := [
  ⟨(some 11), none, .mov (.tmp 0), 0⟩,
  ⟨(some 12), none, .len false (.tmp 11), 1⟩,
  ⟨(some 13), none, .bin .gtr .other (.tmp 12) (.const (.int .i64 1048576)), 3⟩]
def laws_FnExactChangeBytes_r2 : List SOper := [
  ⟨(some 4), none, .mov (.const (.bool true)), 0⟩]
def laws_FnExactChangeBytes_r3 : List SOper := [
  ⟨(some 14), none, .mov (.tmp 1), 0⟩,
  ⟨(some 15), none, .len false (.tmp 14), 1⟩,
  ⟨(some 16), none, .bin .gtr .other (.tmp 15) (.const (.int .i64 1048576)), 3⟩]
def laws_FnExactChangeBytes_r4 : List SOper := [
  ⟨(some 4), none, .mov (.const (.bool true)), 0⟩]
def laws_FnExactChangeBytes_r5 (i_laws_toFloat32S i_spec_ChangeBytes : FuncId) : List SOper := [
  ⟨(some 18), none, .mov (.tmp 0), 0⟩,
  ⟨(some 19), none, .call (.func i_laws_toFloat32S) [(.tmp 18)], 1⟩,
  ⟨(some 20), none, .mov (.tmp 1), 0⟩,
  ⟨(some 21), none, .call (.func i_laws_toFloat32S) [(.tmp 20)], 7⟩,
  ⟨(some 22), none, .call (.func i_spec_ChangeBytes) [(.tmp 19), (.tmp 21)], 15⟩,
  ⟨(some 17), none, .mov (.tmp 22), 31⟩,
  ⟨(some 23), none, .extract (.tmp 17) 0, 63⟩,
  ⟨(some 24), none, .extract (.tmp 17) 1, 63⟩,
  ⟨(some 5), none, .mov (.tmp 23), 127⟩,
  ⟨(some 6), none, .mov (.tmp 24), 511⟩]
def laws_FnExactChangeBytes_r6 (i_laws_toFloat32S : FuncId) : List SOper := [
  ⟨(some 25), none, .mov (.tmp 0), 0⟩,
  ⟨(some 26), none, .call (.func i_laws_toFloat32S) [(.tmp 25)], 1⟩,
  ⟨(some 7), none, .mov (.tmp 26), 3⟩]
def laws_FnExactChangeBytes_r7 (i_laws_toFloat32S : FuncId) : List SOper := [
  ⟨(some 27), none, .mov (.tmp 1), 0⟩,
  ⟨(some 28), none, .call (.func i_laws_toFloat32S) [(.tmp 27)], 1⟩,
  ⟨(some 8), none, .mov (.tmp 28), 3⟩]
def laws_FnExactChangeBytes_r8 (i_impl_ChangeBytes : FuncId) : List SOper := [
  ⟨(some 30), none, .mov (.tmp 7), 0⟩,
  ⟨(some 31), none, .mov (.tmp 8), 0⟩,
  ⟨(some 32), none, .call (.func i_impl_ChangeBytes) [(.tmp 30), (.tmp 31)], 3⟩,
  ⟨(some 29), none, .mov (.tmp 32), 7⟩,
  ⟨(some 33), none, .extract (.tmp 29) 0, 15⟩,
  ⟨(some 34), none, .extract (.tmp 29) 1, 15⟩,
  ⟨(some 9), none, .mov (.tmp 33), 31⟩,
  ⟨(some 10), none, .mov (.tmp 34), 127⟩]
def laws_FnExactChangeBytes_r9 : List SOper := [
  ⟨(some 35), none, .mov (.tmp 9), 0⟩,
  ⟨(some 36), none, .mov (.tmp 5), 0⟩,
  ⟨(some 37), none, .bin .neq .other (.tmp 35) (.tmp 36), 3⟩,
  ⟨(some 38), none, .mov (.tmp 37), 7⟩,
  ⟨(some 39), (some (38, false)), .mov (.tmp 10), 15⟩,
  ⟨(some 40), (some (38, false)), .mov (.tmp 6), 15⟩,
  ⟨(some 41), (some (38, false)), .bin .neq .bool (.tmp 39) (.tmp 40), 63⟩,
  ⟨(some 42), none, .pick (.tmp 38) (.const (.bool true)) (.tmp 41), 127⟩]
def laws_FnExactChangeBytes_r10 : List SOper := [
  ⟨(some 4), none, .mov (.const (.bool false)), 0⟩]
def laws_FnExactChangeBytes_r11 (i_laws_toFloat32S i_laws_eqFloat32S : FuncId) : List SOper := [
  ⟨(some 43), none, .mov (.tmp 7), 0⟩,
  ⟨(some 44), none, .mov (.tmp 0), 0⟩,
  ⟨(some 45), none, .call (.func i_laws_toFloat32S) [(.tmp 44)], 2⟩,
  ⟨(some 46), none, .call (.func i_laws_eqFloat32S) [(.tmp 43), (.tmp 45)], 7⟩,
  ⟨(some 47), none, .un .not (.tmp 46), 15⟩]
def laws_FnExactChangeBytes_r12 : List SOper := [
  ⟨(some 4), none, .mov (.const (.bool false)), 0⟩]
def laws_FnExactChangeBytes_r13 (i_laws_toFloat32S i_laws_eqFloat32S : FuncId) : List SOper := [
  ⟨(some 48), none, .mov (.tmp 8), 0⟩,
  ⟨(some 49), none, .mov (.tmp 1), 0⟩,
  ⟨(some 50), none, .call (.func i_laws_toFloat32S) [(.tmp 49)], 2⟩,
  ⟨(some 51), none, .call (.func i_laws_eqFloat32S) [(.tmp 48), (.tmp 50)], 7⟩,
  ⟨(some 52), none, .un .not (.tmp 51), 15⟩]
def laws_FnExactChangeBytes_r14 : List SOper := [
  ⟨(some 4), none, .mov (.const (.bool false)), 0⟩]
def laws_FnExactChangeBytes_r15 : List SOper := [
  ⟨(some 4), none, .mov (.const (.bool true)), 0⟩]
def laws_FnExactChangeBytes (i_laws_toFloat32S i_spec_ChangeBytes i_impl_ChangeBytes i_laws_eqFloat32S : FuncId) : SFunc := ⟨53, [.tmp 4], (.kp [0, 1] (.seq (.region laws_FnExactChangeBytes_r0 false) (.kp [0, 1] (.seq (.seq (.region laws_FnExactChangeBytes_r1 false) (.kp [0, 1, 13] (.cond (.tmp 13) (.seq (.region laws_FnExactChangeBytes_r2 false) .ret) .skip))) (.kp [0, 1] (.seq (.seq (.region laws_FnExactChangeBytes_r3 false) (.kp [0, 1, 16] (.cond (.tmp 16) (.seq (.region laws_FnExactChangeBytes_r4 false) .ret) .skip))) (.kp [0, 1] (.seq (.region (laws_FnExactChangeBytes_r5 i_laws_toFloat32S i_spec_ChangeBytes) false) (.kp [0, 1, 5, 6] (.seq (.region (laws_FnExactChangeBytes_r6 i_laws_toFloat32S) false) (.kp [0, 1, 5, 6, 7] (.seq (.region (laws_FnExactChangeBytes_r7 i_laws_toFloat32S) false) (.kp [0, 1, 5, 6, 7, 8] (.seq (.region (laws_FnExactChangeBytes_r8 i_impl_ChangeBytes) false) (.kp [0, 1, 5, 6, 7, 8, 9, 10] (.seq (.seq (.region laws_FnExactChangeBytes_r9 false) (.kp [0, 1, 7, 8, 42] (.cond (.tmp 42) (.seq (.region laws_FnExactChangeBytes_r10 false) .ret) .skip))) (.kp [0, 1, 7, 8] (.seq (.seq (.region (laws_FnExactChangeBytes_r11 i_laws_toFloat32S i_laws_eqFloat32S) false) (.kp [1, 8, 47] (.cond (.tmp 47) (.seq (.region laws_FnExactChangeBytes_r12 false) .ret) .skip))) (.kp [1, 8] (.seq (.seq (.region (laws_FnExactChangeBytes_r13 i_laws_toFloat32S i_laws_eqFloat32S) false) (.kp [52] (.cond (.tmp 52) (.seq (.region laws_FnExactChangeBytes_r14 false) .ret) .skip))) (.kp [] (.seq (.region laws_FnExactChangeBytes_r15 false) .ret))))))))))))))))))))))⟩


theorem chRes_f (t : List UInt8) : chRes false t = .tuple #[.string (str []), .bool false] := rfl
theorem chRes_t (t : List UInt8) : chRes true t = .tuple #[.string (str t), .bool true] := rfl
abbrev floatsK : Bool × List CK := (false, [.rowF .f32])
theorem floats_abs {σ : Heap} {v : Value} (h : argAbs σ false [.rowF .f32] v) : ∃ xs : List Nat, Row σ 1 v xs.length (f32s xs) ∧ xs.length ≤ 9223372036854775807 ∧ lows xs := by
  obtain ⟨cs, h1, h2⟩ := h
  obtain ⟨_, _, rfl, ⟨xs, hs, hs2, hs3⟩, g1⟩ := absAll_cons h1
  cases absAll_nil g1
  rw [maxLen_eq] at hs2
  simp only [Bool.false_eq_true, if_false, List.cons.injEq, and_true] at h2
  subst h2
  exact ⟨xs, hs, hs2, lows_of fun x hx => wf32 (hs3 x hx)⟩

def laws_FnExactChangeBytes_ok (c : Contract) : Prop := AlwaysTrue [floatsK, floatsK] c
theorem laws_FnExactChangeBytes_law {C : Ctab} {i1 i2 i3 i4 : FuncId} {c1 c2 c3 c4 : Contract} (h1 : Has C i1 c1 laws_toFloat32S_ok) (h2 : Has C i2 c2 spec_ChangeBytes_ok) (h3 : Has C i3 c3 impl_ChangeBytes_ok) (h4 : Has C i4 c4 laws_eqFloat32S_ok) : laws_FnExactChangeBytes_ok (gcC C (laws_FnExactChangeBytes i1 i2 i3 i4) true) := by
  intro σ avs h
  match avs, h with
  | [va, vb], ⟨g0, g1, _⟩ =>
    obtain ⟨a, r1, hb1, la⟩ := floats_abs g0
    obtain ⟨b, r2, hb2, lb⟩ := floats_abs g1
    by_cases m1 : a.length ≤ 1048576
    · by_cases m2 : b.length ≤ 1048576
      · cases hok : chOk a b
        · refine ret_gc rfl rfl ?_
          repeat' (first | apply Ev.sq | apply Ev.rg | refine Ev.aKp ?_ | apply thenQ.n | apply thenQ.e | apply thenQ.r | apply blkQ.n | apply blkQ.e | refine blkQ.x ?_ rfl | apply blkQ.r | refine Ev.aT ?_ | refine Ev.aF ?_ | apply Ev.skip | apply Ev.exit | apply Ev.ret | apply Ev.bk | refine EvR.mv ?_ | refine EvR.fa ?_ | refine EvR.l1 ?_ | refine EvR.aNotSF ?_ | refine EvR.aNotST ?_ | refine EvR.aMetT ?_ | refine EvR.aMetF ?_ | refine EvR.aUS ?_ | refine EvR.mvc ?_ | refine EvR.lv ?_ | refine EvR.lp ?_ | refine EvR.lNp ?_ | refine EvR.pkT ?_ | refine EvR.pkF ?_ | refine EvR.lN ?_ | refine EvR.ix ?_ | refine EvR.le ?_ | refine EvR.ixo ?_ | refine EvR.l1o ?_ | refine EvR.lei ?_ | refine EvR.leb ?_ | refine EvR.lnr ?_ | refine EvR.lns ?_ | refine EvR.nt ?_ | refine EvR.lt ?_ | refine EvR.le_ ?_ | refine EvR.gt ?_ | refine EvR.ge ?_ | refine EvR.eqi ?_ | refine EvR.nei ?_ | refine EvR.add ?_ | refine EvR.sub ?_ | refine EvR.mul ?_ | refine EvR.rem ?_ | refine EvR.quo ?_ | refine EvR.nc ?_ | refine EvR.ex ?_ | refine EvR.f1 ?_ | refine EvR.fadd ?_ | refine EvR.fsub ?_ | refine EvR.fmul ?_ | refine EvR.fquo ?_ | refine EvR.flt_ ?_ | refine EvR.fle_ ?_ | refine EvR.fgt_ ?_ | refine EvR.fge_ ?_ | refine EvR.feq_ ?_ | refine EvR.fne_ ?_ | refine EvR.cv ?_ | refine EvR.cvu ?_ | refine EvR.cvf ?_ | refine EvR.cvw ?_ | refine EvR.bx ?_ | refine EvR.aNotNT ?_ | refine EvR.aNotNF ?_ | refine EvR.aUN ?_ | refine EvR.nl ?_ | refine EvR.so ?_ | (apply EvR.aCall h1.at_; (· exact eva); (· apply h1.ok <;> exact sid); (rintro _ _ ⟨rfl, rfl⟩; refine EvR.nrm ?_; try simp only [hok, chRes_f, slV])) | (apply EvR.aCall h2.at_; (· exact eva); (· apply h2.ok <;> exact sid); (rintro _ _ ⟨rfl, rfl⟩; refine EvR.nrm ?_; try simp only [hok, chRes_f, slV])) | (apply EvR.aCall h3.at_; (· exact eva); (· apply h3.ok <;> exact sid); (rintro _ _ ⟨rfl, rfl⟩; refine EvR.nrm ?_; try simp only [hok, chRes_f, slV])) | (apply EvR.aCall h4.at_; (· exact eva); (· apply h4.ok <;> exact sid); (rintro _ _ ⟨rfl, rfl⟩; refine EvR.nrm ?_; try simp only [hok, chRes_f, slV])) | (apply Ev.regionQ drk; (· exact quie)) | (apply Ev.regionN0 drk; (· exact quie)) | (apply Ev.regionA drk (by assumption); (· exact quie)) | (apply Ev.regionNA drk (by assumption); (· exact quie)) | (apply Ev.regionS0 drk; (· exact quie)) | (refine EvR.aSplB ?_ ?_ <;> (intro hb; rw [hb]; (try simp only [Bool.not_eq_true', Bool.not_eq_false', Bool.not_eq_eq_eq_not, Bool.not_true, Bool.not_false, decide_eq_true_eq, decide_eq_false_iff_not, Bool.and_eq_true, Bool.and_eq_false_iff, Bool.or_eq_true, Bool.or_eq_false_iff] at hb); (try (exfalso; omega)))) | (refine Ev.aSplB ?_ ?_ <;> (intro hb; (try rw [hb]); (try simp only [Bool.not_eq_true', Bool.not_eq_false', Bool.not_eq_eq_eq_not, Bool.not_true, Bool.not_false, decide_eq_true_eq, decide_eq_false_iff_not, Bool.and_eq_true, Bool.and_eq_false_iff, Bool.or_eq_true, Bool.or_eq_false_iff] at hb); (try (exfalso; omega)))) | (apply EvR.aS0; (· exact evc)) | (apply EvR.aN0; (· exact evc)) | (apply endS trivial; rotate_left; (· exact eva); (· rfl); try refine ⟨?_, rfl⟩) | fail)
          all_goals rfl
        · refine ret_gc rfl rfl ?_
          repeat' (first | apply Ev.sq | apply Ev.rg | refine Ev.aKp ?_ | apply thenQ.n | apply thenQ.e | apply thenQ.r | apply blkQ.n | apply blkQ.e | refine blkQ.x ?_ rfl | apply blkQ.r | refine Ev.aT ?_ | refine Ev.aF ?_ | apply Ev.skip | apply Ev.exit | apply Ev.ret | apply Ev.bk | refine EvR.mv ?_ | refine EvR.fa ?_ | refine EvR.l1 ?_ | refine EvR.aNotSF ?_ | refine EvR.aNotST ?_ | refine EvR.aMetT ?_ | refine EvR.aMetF ?_ | refine EvR.aUS ?_ | refine EvR.mvc ?_ | refine EvR.lv ?_ | refine EvR.lp ?_ | refine EvR.lNp ?_ | refine EvR.pkT ?_ | refine EvR.pkF ?_ | refine EvR.lN ?_ | refine EvR.ix ?_ | refine EvR.le ?_ | refine EvR.ixo ?_ | refine EvR.l1o ?_ | refine EvR.lei ?_ | refine EvR.leb ?_ | refine EvR.lnr ?_ | refine EvR.lns ?_ | refine EvR.nt ?_ | refine EvR.lt ?_ | refine EvR.le_ ?_ | refine EvR.gt ?_ | refine EvR.ge ?_ | refine EvR.eqi ?_ | refine EvR.nei ?_ | refine EvR.add ?_ | refine EvR.sub ?_ | refine EvR.mul ?_ | refine EvR.rem ?_ | refine EvR.quo ?_ | refine EvR.nc ?_ | refine EvR.ex ?_ | refine EvR.f1 ?_ | refine EvR.fadd ?_ | refine EvR.fsub ?_ | refine EvR.fmul ?_ | refine EvR.fquo ?_ | refine EvR.flt_ ?_ | refine EvR.fle_ ?_ | refine EvR.fgt_ ?_ | refine EvR.fge_ ?_ | refine EvR.feq_ ?_ | refine EvR.fne_ ?_ | refine EvR.cv ?_ | refine EvR.cvu ?_ | refine EvR.cvf ?_ | refine EvR.cvw ?_ | refine EvR.bx ?_ | refine EvR.aNotNT ?_ | refine EvR.aNotNF ?_ | refine EvR.aUN ?_ | refine EvR.nl ?_ | refine EvR.so ?_ | (apply EvR.aCall h1.at_; (· exact eva); (· apply h1.ok <;> exact sid); (rintro _ _ ⟨rfl, rfl⟩; refine EvR.nrm ?_; try simp only [hok, chRes_t, slV])) | (apply EvR.aCall h2.at_; (· exact eva); (· apply h2.ok <;> exact sid); (rintro _ _ ⟨rfl, rfl⟩; refine EvR.nrm ?_; try simp only [hok, chRes_t, slV])) | (apply EvR.aCall h3.at_; (· exact eva); (· apply h3.ok <;> exact sid); (rintro _ _ ⟨rfl, rfl⟩; refine EvR.nrm ?_; try simp only [hok, chRes_t, slV])) | (apply EvR.aCall h4.at_; (· exact eva); (· apply h4.ok <;> exact sid); (rintro _ _ ⟨rfl, rfl⟩; refine EvR.nrm ?_; try simp only [hok, chRes_t, slV])) | (apply Ev.regionQ drk; (· exact quie)) | (apply Ev.regionN0 drk; (· exact quie)) | (apply Ev.regionA drk (by assumption); (· exact quie)) | (apply Ev.regionNA drk (by assumption); (· exact quie)) | (apply Ev.regionS0 drk; (· exact quie)) | (refine EvR.aSplB ?_ ?_ <;> (intro hb; rw [hb]; (try simp only [Bool.not_eq_true', Bool.not_eq_false', Bool.not_eq_eq_eq_not, Bool.not_true, Bool.not_false, decide_eq_true_eq, decide_eq_false_iff_not, Bool.and_eq_true, Bool.and_eq_false_iff, Bool.or_eq_true, Bool.or_eq_false_iff] at hb); (try (exfalso; omega)))) | (refine Ev.aSplB ?_ ?_ <;> (intro hb; (try rw [hb]); (try simp only [Bool.not_eq_true', Bool.not_eq_false', Bool.not_eq_eq_eq_not, Bool.not_true, Bool.not_false, decide_eq_true_eq, decide_eq_false_iff_not, Bool.and_eq_true, Bool.and_eq_false_iff, Bool.or_eq_true, Bool.or_eq_false_iff] at hb); (try (exfalso; omega)))) | (apply EvR.aS0; (· exact evc)) | (apply EvR.aN0; (· exact evc)) | (apply endS trivial; rotate_left; (· exact eva); (· rfl); try refine ⟨?_, rfl⟩) | fail)
          all_goals rfl
      · refine ret_gc rfl rfl ?_
        repeat' (first | apply Ev.sq | apply Ev.rg | refine Ev.aKp ?_ | apply thenQ.n | apply thenQ.e | apply thenQ.r | apply blkQ.n | apply blkQ.e | refine blkQ.x ?_ rfl | apply blkQ.r | refine Ev.aT ?_ | refine Ev.aF ?_ | apply Ev.skip | apply Ev.exit | apply Ev.ret | apply Ev.bk | refine EvR.mv ?_ | refine EvR.fa ?_ | refine EvR.l1 ?_ | refine EvR.aNotSF ?_ | refine EvR.aNotST ?_ | refine EvR.aMetT ?_ | refine EvR.aMetF ?_ | refine EvR.aUS ?_ | refine EvR.mvc ?_ | refine EvR.lv ?_ | refine EvR.lp ?_ | refine EvR.lNp ?_ | refine EvR.pkT ?_ | refine EvR.pkF ?_ | refine EvR.lN ?_ | refine EvR.ix ?_ | refine EvR.le ?_ | refine EvR.ixo ?_ | refine EvR.l1o ?_ | refine EvR.lei ?_ | refine EvR.leb ?_ | refine EvR.lnr ?_ | refine EvR.lns ?_ | refine EvR.nt ?_ | refine EvR.lt ?_ | refine EvR.le_ ?_ | refine EvR.gt ?_ | refine EvR.ge ?_ | refine EvR.eqi ?_ | refine EvR.nei ?_ | refine EvR.add ?_ | refine EvR.sub ?_ | refine EvR.mul ?_ | refine EvR.rem ?_ | refine EvR.quo ?_ | refine EvR.nc ?_ | refine EvR.ex ?_ | refine EvR.f1 ?_ | refine EvR.fadd ?_ | refine EvR.fsub ?_ | refine EvR.fmul ?_ | refine EvR.fquo ?_ | refine EvR.flt_ ?_ | refine EvR.fle_ ?_ | refine EvR.fgt_ ?_ | refine EvR.fge_ ?_ | refine EvR.feq_ ?_ | refine EvR.fne_ ?_ | refine EvR.cv ?_ | refine EvR.cvu ?_ | refine EvR.cvf ?_ | refine EvR.cvw ?_ | refine EvR.bx ?_ | refine EvR.aNotNT ?_ | refine EvR.aNotNF ?_ | refine EvR.aUN ?_ | refine EvR.nl ?_ | refine EvR.so ?_ | (apply Ev.regionQ drk; (· exact quie)) | (apply Ev.regionN0 drk; (· exact quie)) | (apply Ev.regionA drk (by assumption); (· exact quie)) | (apply Ev.regionNA drk (by assumption); (· exact quie)) | (apply Ev.regionS0 drk; (· exact quie)) | (refine EvR.aSplB ?_ ?_ <;> (intro hb; rw [hb]; (try simp only [Bool.not_eq_true', Bool.not_eq_false', Bool.not_eq_eq_eq_not, Bool.not_true, Bool.not_false, decide_eq_true_eq, decide_eq_false_iff_not, Bool.and_eq_true, Bool.and_eq_false_iff, Bool.or_eq_true, Bool.or_eq_false_iff] at hb); (try (exfalso; omega)))) | (refine Ev.aSplB ?_ ?_ <;> (intro hb; (try rw [hb]); (try simp only [Bool.not_eq_true', Bool.not_eq_false', Bool.not_eq_eq_eq_not, Bool.not_true, Bool.not_false, decide_eq_true_eq, decide_eq_false_iff_not, Bool.and_eq_true, Bool.and_eq_false_iff, Bool.or_eq_true, Bool.or_eq_false_iff] at hb); (try (exfalso; omega)))) | (apply EvR.aS0; (· exact evc)) | (apply EvR.aN0; (· exact evc)) | (apply endS trivial; rotate_left; (· exact eva); (· rfl); try refine ⟨?_, rfl⟩) | fail)
        all_goals rfl
    · refine ret_gc rfl rfl ?_
      repeat' (first | apply Ev.sq | apply Ev.rg | refine Ev.aKp ?_ | apply thenQ.n | apply thenQ.e | apply thenQ.r | apply blkQ.n | apply blkQ.e | refine blkQ.x ?_ rfl | apply blkQ.r | refine Ev.aT ?_ | refine Ev.aF ?_ | apply Ev.skip | apply Ev.exit | apply Ev.ret | apply Ev.bk | refine EvR.mv ?_ | refine EvR.fa ?_ | refine EvR.l1 ?_ | refine EvR.aNotSF ?_ | refine EvR.aNotST ?_ | refine EvR.aMetT ?_ | refine EvR.aMetF ?_ | refine EvR.aUS ?_ | refine EvR.mvc ?_ | refine EvR.lv ?_ | refine EvR.lp ?_ | refine EvR.lNp ?_ | refine EvR.pkT ?_ | refine EvR.pkF ?_ | refine EvR.lN ?_ | refine EvR.ix ?_ | refine EvR.le ?_ | refine EvR.ixo ?_ | refine EvR.l1o ?_ | refine EvR.lei ?_ | refine EvR.leb ?_ | refine EvR.lnr ?_ | refine EvR.lns ?_ | refine EvR.nt ?_ | refine EvR.lt ?_ | refine EvR.le_ ?_ | refine EvR.gt ?_ | refine EvR.ge ?_ | refine EvR.eqi ?_ | refine EvR.nei ?_ | refine EvR.add ?_ | refine EvR.sub ?_ | refine EvR.mul ?_ | refine EvR.rem ?_ | refine EvR.quo ?_ | refine EvR.nc ?_ | refine EvR.ex ?_ | refine EvR.f1 ?_ | refine EvR.fadd ?_ | refine EvR.fsub ?_ | refine EvR.fmul ?_ | refine EvR.fquo ?_ | refine EvR.flt_ ?_ | refine EvR.fle_ ?_ | refine EvR.fgt_ ?_ | refine EvR.fge_ ?_ | refine EvR.feq_ ?_ | refine EvR.fne_ ?_ | refine EvR.cv ?_ | refine EvR.cvu ?_ | refine EvR.cvf ?_ | refine EvR.cvw ?_ | refine EvR.bx ?_ | refine EvR.aNotNT ?_ | refine EvR.aNotNF ?_ | refine EvR.aUN ?_ | refine EvR.nl ?_ | refine EvR.so ?_ | (apply Ev.regionQ drk; (· exact quie)) | (apply Ev.regionN0 drk; (· exact quie)) | (apply Ev.regionA drk (by assumption); (· exact quie)) | (apply Ev.regionNA drk (by assumption); (· exact quie)) | (apply Ev.regionS0 drk; (· exact quie)) | (refine EvR.aSplB ?_ ?_ <;> (intro hb; rw [hb]; (try simp only [Bool.not_eq_true', Bool.not_eq_false', Bool.not_eq_eq_eq_not, Bool.not_true, Bool.not_false, decide_eq_true_eq, decide_eq_false_iff_not, Bool.and_eq_true, Bool.and_eq_false_iff, Bool.or_eq_true, Bool.or_eq_false_iff] at hb); (try (exfalso; omega)))) | (refine Ev.aSplB ?_ ?_ <;> (intro hb; (try rw [hb]); (try simp only [Bool.not_eq_true', Bool.not_eq_false', Bool.not_eq_eq_eq_not, Bool.not_true, Bool.not_false, decide_eq_true_eq, decide_eq_false_iff_not, Bool.and_eq_true, Bool.and_eq_false_iff, Bool.or_eq_true, Bool.or_eq_false_iff] at hb); (try (exfalso; omega)))) | (apply EvR.aS0; (· exact evc)) | (apply EvR.aN0; (· exact evc)) | (apply endS trivial; rotate_left; (· exact eva); (· rfl); try refine ⟨?_, rfl⟩) | fail)
      all_goals rfl
end Go.Abs

