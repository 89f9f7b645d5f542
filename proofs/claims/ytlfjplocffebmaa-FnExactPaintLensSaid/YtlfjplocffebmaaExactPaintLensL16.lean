/- Laws of single functions: cells that are painted. Conditions: the laws of what they call. -/
import Derived.Test.YtlfjplocffebmaaExactPaintLensL15
namespace Go.Abs

set_option linter.unusedSimpArgs false
set_option linter.unusedVariables false
set_option maxHeartbeats 8000000

/-- A sheet and whether it is one, as results. -/
def shRes (ok : Bool) (b : Nat) (w h : Int) (wr : Bool) (sp lo : List Nat) : Value := if ok = true then .tuple #[shV w h wr (slV b sp.length) (slV (b + 1) lo.length), .bool true] else .tuple #[noSheet, .bool false]
def shRows (ok : Bool) (sp lo : List Nat) : Heap := if ok = true then [rowO sp, rowO lo] else []
theorem shRes_f (b : Nat) (w h : Int) (wr : Bool) (sp lo : List Nat) : shRes false b w h wr sp lo = .tuple #[noSheet, .bool false] := rfl
theorem shRows_f (sp lo : List Nat) : shRows false sp lo = [] := rfl
theorem shRes_t (b : Nat) (w h : Int) (wr : Bool) (sp lo : List Nat) : shRes true b w h wr sp lo = .tuple #[shV w h wr (slV b sp.length) (slV (b + 1) lo.length), .bool true] := rfl
theorem shRows_t (sp lo : List Nat) : shRows true sp lo = [rowO sp, rowO lo] := rfl

def cellP (P : Int → Int → Bool) (W : Nat) (xs : List Nat) (v : Nat) (i : Nat) : Nat := if P ((i % W : Nat) : Int) ((i / W : Nat) : Int) = true then v else xs.getD i 0
/-- A row of which the first j cells are painted. -/
def preP (P : Int → Int → Bool) (W : Nat) (xs : List Nat) (v : Nat) (j : Nat) : List Nat := (List.range j).map (cellP P W xs v) ++ xs.drop j
def paintP (P : Int → Int → Bool) (W : Nat) (xs : List Nat) (v : Nat) : List Nat := (List.range xs.length).map (cellP P W xs v)
theorem paintP_length (P : Int → Int → Bool) (W : Nat) (xs : List Nat) (v : Nat) : (paintP P W xs v).length = xs.length := by simp [paintP]
theorem preP_length (P : Int → Int → Bool) (W : Nat) (xs : List Nat) (v : Nat) {j : Nat} (h : j ≤ xs.length) : (preP P W xs v j).length = xs.length := by simp [preP]; omega
theorem preP_zero (P : Int → Int → Bool) (W : Nat) (xs : List Nat) (v : Nat) : preP P W xs v 0 = xs := by simp [preP]
theorem preP_end (P : Int → Int → Bool) (W : Nat) (xs : List Nat) (v : Nat) : preP P W xs v xs.length = paintP P W xs v := by simp [preP, paintP]
theorem preP_get (P : Int → Int → Bool) (W : Nat) (xs : List Nat) (v : Nat) {j : Nat} (h : j < xs.length) : (preP P W xs v j).getD j 0 = xs.getD j 0 := by
  unfold preP
  rw [List.getD_eq_getElem?_getD, List.getElem?_append_right (by simp), List.length_map, List.length_range, Nat.sub_self, List.getElem?_drop, Nat.add_zero, ← List.getD_eq_getElem?_getD]
theorem preP_set (P : Int → Int → Bool) (W : Nat) (xs : List Nat) (v : Nat) {j : Nat} (h : j < xs.length) : (preP P W xs v j).set j (cellP P W xs v j) = preP P W xs v (j + 1) := gen_step _ xs j h
theorem set_self {xs : List Nat} {j : Nat} (h : j < xs.length) : xs.set j (xs.getD j 0) = xs := by
  apply List.ext_getElem?
  intro i
  by_cases hi : j = i
  · subst hi; rw [List.getElem?_set_self h, List.getElem?_eq_getElem h, List.getD_eq_getElem?_getD, List.getElem?_eq_getElem h]; rfl
  · rw [List.getElem?_set_ne hi]
theorem preP_skip (P : Int → Int → Bool) (W : Nat) (xs : List Nat) (v : Nat) {j : Nat} (h : j < xs.length) (hp : P ((j % W : Nat) : Int) ((j / W : Nat) : Int) = false) : preP P W xs v j = preP P W xs v (j + 1) := by
  have h1 := preP_set P W xs v h
  have h2 : cellP P W xs v j = (preP P W xs v j).getD j 0 := by rw [preP_get P W xs v h]; unfold cellP; rw [hp]; rfl
  rw [h2, set_self (by rw [preP_length P W xs v (Nat.le_of_lt h)]; exact h)] at h1
  exact h1

def impl_paintedC1_ok (k : FuncId) (ck : Contract) (c : Contract) : Prop := ∀ (σ : Heap) (a p o bs bl : Nat) (capt : Array Value) (s l : Nat) (w h : Int) (wr : Bool) (ys zs : List Nat) (r1 r2 r3 : Bool) (x y : Int) (i n m : Nat) (t : Bool), ys.length = n → zs.length = m →
    σ[a]? = some ⟨[.func (.func k) #[] capt], 0, r1⟩ → σ[p]? = some ⟨[.float .f32 s, .float .f32 l], 0, r2⟩ → σ[o]? = some ⟨[.int .i64 w, .int .i64 h, .bool wr, slV bs n, slV bl m], 0, r3⟩ →
    σ[bs]? = some (rowO ys) → σ[bl]? = some (rowO zs) → bs ≠ bl → i < n → i < m → n ≤ 1048576 → m ≤ 1048576 → Ret ck ([.int .i64 x, .int .i64 y] ++ capt.toList) (σ ++ []) (fun v σ' => v = .bool t ∧ σ' = σ ++ []) →
    Ret c [.int .i64 x, .int .i64 y, .int .i64 i, .pointer (some ⟨a, 0, none⟩), .pointer (some ⟨p, 0, none⟩), .pointer (some ⟨o, 0, none⟩)] σ fun v σ' => v = .tuple #[] ∧ σ' = if t = true then (σ.set bs (rowO (ys.set i s))).set bl (rowO (zs.set i l)) else σ
theorem impl_paintedC1_law {C : Ctab} {k : FuncId} {ck : Contract} (hk : C k = some ck) : impl_paintedC1_ok k ck (gcC C impl_paintedC1 false) := by
  intro σ a p o bs bl capt s l w h wr ys zs r1 r2 r3 x y i n m t hy hz ha hp ho hb1 hb2 hne hi1 hi2 hn hm hr
  have p1 := PtAt.whole ha
  have p2 := PtAt.whole hp
  have p3 := PtAt.whole ho
  refine ret_gc rfl rfl ?_
  repeat' (first | apply Ev.sq | apply Ev.rg | refine Ev.aKp ?_ | apply thenQ.n | apply thenQ.e | apply thenQ.r | apply blkQ.n | apply blkQ.e | refine blkQ.x ?_ rfl | apply blkQ.r | refine Ev.aT ?_ | refine Ev.aF ?_ | apply Ev.skip | apply Ev.exit | apply Ev.ret | apply Ev.bk | refine EvR.mv ?_ | refine EvR.fa ?_ | refine EvR.l1 ?_ | refine EvR.aNotSF ?_ | refine EvR.aNotST ?_ | refine EvR.aMetT ?_ | refine EvR.aMetF ?_ | refine EvR.aUS ?_ | refine EvR.mvc ?_ | refine EvR.lv ?_ | refine EvR.lp ?_ | refine EvR.lNp ?_ | refine EvR.pkT ?_ | refine EvR.pkF ?_ | refine EvR.lN ?_ | refine EvR.ix ?_ | refine EvR.le ?_ | refine EvR.ixo ?_ | refine EvR.l1o ?_ | refine EvR.lei ?_ | refine EvR.leb ?_ | refine EvR.lnr ?_ | refine EvR.lns ?_ | refine EvR.nt ?_ | refine EvR.lt ?_ | refine EvR.le_ ?_ | refine EvR.gt ?_ | refine EvR.ge ?_ | refine EvR.eqi ?_ | refine EvR.nei ?_ | refine EvR.add ?_ | refine EvR.sub ?_ | refine EvR.mul ?_ | refine EvR.rem ?_ | refine EvR.quo ?_ | refine EvR.nc ?_ | refine EvR.ex ?_ | refine EvR.f1 ?_ | refine EvR.fadd ?_ | refine EvR.fsub ?_ | refine EvR.fmul ?_ | refine EvR.fquo ?_ | refine EvR.flt_ ?_ | refine EvR.fle_ ?_ | refine EvR.fgt_ ?_ | refine EvR.fge_ ?_ | refine EvR.feq_ ?_ | refine EvR.fne_ ?_ | refine EvR.cv ?_ | refine EvR.cvu ?_ | refine EvR.cvf ?_ | refine EvR.cvw ?_ | refine EvR.bx ?_ | refine EvR.aNotNT ?_ | refine EvR.aNotNF ?_ | refine EvR.aUN ?_ | refine EvR.nl ?_ | refine EvR.so ?_ | (apply Ev.regionQ drk; (· exact quie)) | (apply Ev.regionN0 drk; (· exact quie)) | (apply Ev.regionA drk (by assumption); (· exact quie)) | (apply Ev.regionNA drk (by assumption); (· exact quie)) | (apply Ev.regionS0 drk; (· exact quie)) | (refine EvR.aSplB ?_ ?_ <;> (intro hb; rw [hb]; (try simp only [Bool.not_eq_true', Bool.not_eq_false', Bool.not_eq_eq_eq_not, Bool.not_true, Bool.not_false, decide_eq_true_eq, decide_eq_false_iff_not, Bool.and_eq_true, Bool.and_eq_false_iff, Bool.or_eq_true, Bool.or_eq_false_iff] at hb); (try (exfalso; omega)))) | (refine Ev.aSplB ?_ ?_ <;> (intro hb; (try rw [hb]); (try simp only [Bool.not_eq_true', Bool.not_eq_false', Bool.not_eq_eq_eq_not, Bool.not_true, Bool.not_false, decide_eq_true_eq, decide_eq_false_iff_not, Bool.and_eq_true, Bool.and_eq_false_iff, Bool.or_eq_true, Bool.or_eq_false_iff] at hb); (try (exfalso; omega)))) | (apply EvR.aS0; (· exact evc)) | (apply EvR.aN0; (· exact evc)) | (apply endS trivial; rotate_left; (· exact eva); (· rfl); try refine ⟨?_, rfl⟩) | fail)
  (apply EvR.aDyn hk; (· exact rfl); (· exact eva); (· exact  hr); (rintro _ _ ⟨rfl, rfl⟩; refine EvR.nrm ?_))
  cases t
  · repeat' (first | apply Ev.sq | apply Ev.rg | refine Ev.aKp ?_ | apply thenQ.n | apply thenQ.e | apply thenQ.r | apply blkQ.n | apply blkQ.e | refine blkQ.x ?_ rfl | apply blkQ.r | refine Ev.aT ?_ | refine Ev.aF ?_ | apply Ev.skip | apply Ev.exit | apply Ev.ret | apply Ev.bk | refine EvR.mv ?_ | refine EvR.fa ?_ | refine EvR.l1 ?_ | refine EvR.aNotSF ?_ | refine EvR.aNotST ?_ | refine EvR.aMetT ?_ | refine EvR.aMetF ?_ | refine EvR.aUS ?_ | refine EvR.mvc ?_ | refine EvR.lv ?_ | refine EvR.lp ?_ | refine EvR.lNp ?_ | refine EvR.pkT ?_ | refine EvR.pkF ?_ | refine EvR.lN ?_ | refine EvR.ix ?_ | refine EvR.le ?_ | refine EvR.ixo ?_ | refine EvR.l1o ?_ | refine EvR.lei ?_ | refine EvR.leb ?_ | refine EvR.lnr ?_ | refine EvR.lns ?_ | refine EvR.nt ?_ | refine EvR.lt ?_ | refine EvR.le_ ?_ | refine EvR.gt ?_ | refine EvR.ge ?_ | refine EvR.eqi ?_ | refine EvR.nei ?_ | refine EvR.add ?_ | refine EvR.sub ?_ | refine EvR.mul ?_ | refine EvR.rem ?_ | refine EvR.quo ?_ | refine EvR.nc ?_ | refine EvR.ex ?_ | refine EvR.f1 ?_ | refine EvR.fadd ?_ | refine EvR.fsub ?_ | refine EvR.fmul ?_ | refine EvR.fquo ?_ | refine EvR.flt_ ?_ | refine EvR.fle_ ?_ | refine EvR.fgt_ ?_ | refine EvR.fge_ ?_ | refine EvR.feq_ ?_ | refine EvR.fne_ ?_ | refine EvR.cv ?_ | refine EvR.cvu ?_ | refine EvR.cvf ?_ | refine EvR.cvw ?_ | refine EvR.bx ?_ | refine EvR.aNotNT ?_ | refine EvR.aNotNF ?_ | refine EvR.aUN ?_ | refine EvR.nl ?_ | refine EvR.so ?_ | (apply Ev.regionQ drk; (· exact quie)) | (apply Ev.regionN0 drk; (· exact quie)) | (apply Ev.regionA drk (by assumption); (· exact quie)) | (apply Ev.regionNA drk (by assumption); (· exact quie)) | (apply Ev.regionS0 drk; (· exact quie)) | (refine EvR.aSplB ?_ ?_ <;> (intro hb; rw [hb]; (try simp only [Bool.not_eq_true', Bool.not_eq_false', Bool.not_eq_eq_eq_not, Bool.not_true, Bool.not_false, decide_eq_true_eq, decide_eq_false_iff_not, Bool.and_eq_true, Bool.and_eq_false_iff, Bool.or_eq_true, Bool.or_eq_false_iff] at hb); (try (exfalso; omega)))) | (refine Ev.aSplB ?_ ?_ <;> (intro hb; (try rw [hb]); (try simp only [Bool.not_eq_true', Bool.not_eq_false', Bool.not_eq_eq_eq_not, Bool.not_true, Bool.not_false, decide_eq_true_eq, decide_eq_false_iff_not, Bool.and_eq_true, Bool.and_eq_false_iff, Bool.or_eq_true, Bool.or_eq_false_iff] at hb); (try (exfalso; omega)))) | (apply EvR.aS0; (· exact evc)) | (apply EvR.aN0; (· exact evc)) | (apply endS trivial; rotate_left; (· exact eva); (· rfl); try refine ⟨?_, rfl⟩) | fail)
    simp
  · repeat' (first | apply Ev.sq | apply Ev.rg | refine Ev.aKp ?_ | apply thenQ.n | apply thenQ.e | apply thenQ.r | apply blkQ.n | apply blkQ.e | refine blkQ.x ?_ rfl | apply blkQ.r | refine Ev.aT ?_ | refine Ev.aF ?_ | apply Ev.skip | apply Ev.exit | apply Ev.ret | apply Ev.bk | refine EvR.mv ?_ | refine EvR.fa ?_ | refine EvR.l1 ?_ | refine EvR.aNotSF ?_ | refine EvR.aNotST ?_ | refine EvR.aMetT ?_ | refine EvR.aMetF ?_ | refine EvR.aUS ?_ | refine EvR.mvc ?_ | refine EvR.lv ?_ | refine EvR.lp ?_ | refine EvR.lNp ?_ | refine EvR.pkT ?_ | refine EvR.pkF ?_ | refine EvR.lN ?_ | refine EvR.ix ?_ | refine EvR.le ?_ | refine EvR.ixo ?_ | refine EvR.l1o ?_ | refine EvR.lei ?_ | refine EvR.leb ?_ | refine EvR.lnr ?_ | refine EvR.lns ?_ | refine EvR.nt ?_ | refine EvR.lt ?_ | refine EvR.le_ ?_ | refine EvR.gt ?_ | refine EvR.ge ?_ | refine EvR.eqi ?_ | refine EvR.nei ?_ | refine EvR.add ?_ | refine EvR.sub ?_ | refine EvR.mul ?_ | refine EvR.rem ?_ | refine EvR.quo ?_ | refine EvR.nc ?_ | refine EvR.ex ?_ | refine EvR.f1 ?_ | refine EvR.fadd ?_ | refine EvR.fsub ?_ | refine EvR.fmul ?_ | refine EvR.fquo ?_ | refine EvR.flt_ ?_ | refine EvR.fle_ ?_ | refine EvR.fgt_ ?_ | refine EvR.fge_ ?_ | refine EvR.feq_ ?_ | refine EvR.fne_ ?_ | refine EvR.cv ?_ | refine EvR.cvu ?_ | refine EvR.cvf ?_ | refine EvR.cvw ?_ | refine EvR.bx ?_ | refine EvR.aNotNT ?_ | refine EvR.aNotNF ?_ | refine EvR.aUN ?_ | refine EvR.nl ?_ | refine EvR.so ?_ | (apply Ev.regionQ drk; (· exact quie)) | (apply Ev.regionN0 drk; (· exact quie)) | (apply Ev.regionA drk (by assumption); (· exact quie)) | (apply Ev.regionNA drk (by assumption); (· exact quie)) | (apply Ev.regionS0 drk; (· exact quie)) | (refine EvR.aSplB ?_ ?_ <;> (intro hb; rw [hb]; (try simp only [Bool.not_eq_true', Bool.not_eq_false', Bool.not_eq_eq_eq_not, Bool.not_true, Bool.not_false, decide_eq_true_eq, decide_eq_false_iff_not, Bool.and_eq_true, Bool.and_eq_false_iff, Bool.or_eq_true, Bool.or_eq_false_iff] at hb); (try (exfalso; omega)))) | (refine Ev.aSplB ?_ ?_ <;> (intro hb; (try rw [hb]); (try simp only [Bool.not_eq_true', Bool.not_eq_false', Bool.not_eq_eq_eq_not, Bool.not_true, Bool.not_false, decide_eq_true_eq, decide_eq_false_iff_not, Bool.and_eq_true, Bool.and_eq_false_iff, Bool.or_eq_true, Bool.or_eq_false_iff] at hb); (try (exfalso; omega)))) | (apply EvR.aS0; (· exact evc)) | (apply EvR.aN0; (· exact evc)) | (apply endS trivial; rotate_left; (· exact eva); (· rfl); try refine ⟨?_, rfl⟩) | fail)
    have hbl1 : bs < σ.length := (List.getElem?_eq_some_iff.1 hb1).1
    have f2 := load1_at hp []
    have f3 := load1_at ho []
    have e1 : ∀ τ : Heap, τ[bs]? = some (rowO ys) → aIndexAddrS τ 1 (slV bs n) (.int .i64 i) = some (.pointer (some ⟨bs, i, some n⟩)) := by
      intro τ hτ
      have := idx_obj (k := .i64) (j := i) hτ (off := 0) (cap := n) (len := n) (by rw [f32s_length]; omega) (by omega) (by omega) (by omega) (Nat.le_refl _)
      simpa using this
    have e2 : ∀ τ : Heap, τ[bl]? = some (rowO zs) → aIndexAddrS τ 1 (slV bl m) (.int .i64 i) = some (.pointer (some ⟨bl, i, some m⟩)) := by
      intro τ hτ
      have := idx_obj (k := .i64) (j := i) hτ (off := 0) (cap := m) (len := m) (by rw [f32s_length]; omega) (by omega) (by omega) (by omega) (Nat.le_refl _)
      simpa using this
    have hb1' : (σ ++ [])[bs]? = some (rowO ys) := by rw [List.append_nil]; exact hb1
    have hb2' : ((σ ++ []).set bs (rowO (ys.set i s)))[bl]? = some (rowO zs) := by rw [List.append_nil, List.getElem?_set_ne hne]; exact hb2
    have s1 : aStore (σ ++ []) 1 (.pointer (some ⟨bs, i, some n⟩)) (.float .f32 s) = some ((σ ++ []).set bs (rowO (ys.set i s))) := by
      rw [store1_obj hb1' (by rw [f32s_length]; exact hy) (by omega) hi1 rfl, f32s_set]
    have s2 : aStore ((σ ++ []).set bs (rowO (ys.set i s))) 1 (.pointer (some ⟨bl, i, some m⟩)) (.float .f32 l) = some (((σ ++ []).set bs (rowO (ys.set i s))).set bl (rowO (zs.set i l))) := by
      rw [store1_obj hb2' (by rw [f32s_length]; exact hz) (by omega) hi2 rfl, f32s_set]
    apply Ev.regionV0 drk
    · exact trivial
    · repeat (first | (apply varRun.st; (· exact evc); (· exact rfl); simp only [fput_some, fput_none, fset_eq]) | (apply varRun.st; (· simp only [evOp, eval_tmp, fget_cons, Nat.reduceEqDiff, reduceIte, f2, f3]; exact rfl); (· exact rfl); simp only [fput_some, fput_none, fset_eq]))
      refine varRun.st (by show (aIndexAddrS _ _ (slV bs n) (.int .i64 i)).map _ = _; rw [e1 _ hb1']; rfl) rfl ?_
      refine varRun.st (by show (aStore _ _ (.pointer (some ⟨bs, i, some n⟩)) (.float .f32 s)).map _ = _; rw [s1]; rfl) rfl ?_
      refine varRun.st (by show (aIndexAddrS _ _ (slV bl m) (.int .i64 i)).map _ = _; rw [e2 _ hb2']; rfl) rfl ?_
      refine varRun.st (by show (aStore _ _ (.pointer (some ⟨bl, i, some m⟩)) (.float .f32 l)).map _ = _; rw [s2]; rfl) rfl rfl
    · repeat' (first | apply Ev.sq | apply Ev.rg | refine Ev.aKp ?_ | apply thenQ.n | apply thenQ.e | apply thenQ.r | apply blkQ.n | apply blkQ.e | refine blkQ.x ?_ rfl | apply blkQ.r | refine Ev.aT ?_ | refine Ev.aF ?_ | apply Ev.skip | apply Ev.exit | apply Ev.ret | apply Ev.bk | refine EvR.mv ?_ | refine EvR.fa ?_ | refine EvR.l1 ?_ | refine EvR.aNotSF ?_ | refine EvR.aNotST ?_ | refine EvR.aMetT ?_ | refine EvR.aMetF ?_ | refine EvR.aUS ?_ | refine EvR.mvc ?_ | refine EvR.lv ?_ | refine EvR.lp ?_ | refine EvR.lNp ?_ | refine EvR.pkT ?_ | refine EvR.pkF ?_ | refine EvR.lN ?_ | refine EvR.ix ?_ | refine EvR.le ?_ | refine EvR.ixo ?_ | refine EvR.l1o ?_ | refine EvR.lei ?_ | refine EvR.leb ?_ | refine EvR.lnr ?_ | refine EvR.lns ?_ | refine EvR.nt ?_ | refine EvR.lt ?_ | refine EvR.le_ ?_ | refine EvR.gt ?_ | refine EvR.ge ?_ | refine EvR.eqi ?_ | refine EvR.nei ?_ | refine EvR.add ?_ | refine EvR.sub ?_ | refine EvR.mul ?_ | refine EvR.rem ?_ | refine EvR.quo ?_ | refine EvR.nc ?_ | refine EvR.ex ?_ | refine EvR.f1 ?_ | refine EvR.fadd ?_ | refine EvR.fsub ?_ | refine EvR.fmul ?_ | refine EvR.fquo ?_ | refine EvR.flt_ ?_ | refine EvR.fle_ ?_ | refine EvR.fgt_ ?_ | refine EvR.fge_ ?_ | refine EvR.feq_ ?_ | refine EvR.fne_ ?_ | refine EvR.cv ?_ | refine EvR.cvu ?_ | refine EvR.cvf ?_ | refine EvR.cvw ?_ | refine EvR.bx ?_ | refine EvR.aNotNT ?_ | refine EvR.aNotNF ?_ | refine EvR.aUN ?_ | refine EvR.nl ?_ | refine EvR.so ?_ | (apply Ev.regionQ drk; (· exact quie)) | (apply Ev.regionN0 drk; (· exact quie)) | (apply Ev.regionA drk (by assumption); (· exact quie)) | (apply Ev.regionNA drk (by assumption); (· exact quie)) | (apply Ev.regionS0 drk; (· exact quie)) | (refine EvR.aSplB ?_ ?_ <;> (intro hb; rw [hb]; (try simp only [Bool.not_eq_true', Bool.not_eq_false', Bool.not_eq_eq_eq_not, Bool.not_true, Bool.not_false, decide_eq_true_eq, decide_eq_false_iff_not, Bool.and_eq_true, Bool.and_eq_false_iff, Bool.or_eq_true, Bool.or_eq_false_iff] at hb); (try (exfalso; omega)))) | (refine Ev.aSplB ?_ ?_ <;> (intro hb; (try rw [hb]); (try simp only [Bool.not_eq_true', Bool.not_eq_false', Bool.not_eq_eq_eq_not, Bool.not_true, Bool.not_false, decide_eq_true_eq, decide_eq_false_iff_not, Bool.and_eq_true, Bool.and_eq_false_iff, Bool.or_eq_true, Bool.or_eq_false_iff] at hb); (try (exfalso; omega)))) | (apply EvR.aS0; (· exact evc)) | (apply EvR.aN0; (· exact evc)) | (apply endS trivial; rotate_left; (· exact eva); (· rfl); try refine ⟨?_, rfl⟩) | fail)
      refine EvR.opS (by show (aIndexAddrS _ _ (slV bs n) (.int .i64 i)).map _ = _; rw [e1 _ hb1']; rfl) ?_
      refine EvR.opN (by show (aStore _ _ (.pointer (some ⟨bs, i, some n⟩)) (.float .f32 s)).map _ = _; rw [s1]; rfl) ?_
      refine EvR.opS (by show (aIndexAddrS _ _ (slV bl m) (.int .i64 i)).map _ = _; rw [e2 _ hb2']; rfl) ?_
      refine EvR.opN (by show (aStore _ _ (.pointer (some ⟨bl, i, some m⟩)) (.float .f32 l)).map _ = _; rw [s2]; rfl) ?_
      refine EvR.nil ?_
      apply atEnd_normal (v := .tuple #[])
      · rfl
      rw [List.append_nil, ← List.append_nil (List.set _ _ _)]
      refine end_mod (by simp) (fun o' ho' => ?_) rfl ⟨rfl, by simp⟩
      rcases set_old (σ := σ.set bs (rowO (ys.set i s))) (b := bl) (x := rowO (zs.set i l)) (f32s_const _ _) o' (by simpa using ho') with h1 | h1
      · rcases set_old (σ := σ) (b := bs) (x := rowO (ys.set i s)) (f32s_const _ _) o' ho' with h2 | h2
        · left; rw [h1, h2]
        · right; intro obj ho2; exact h2 obj (by rw [← h1]; exact ho2)
      · exact .inr h1
end Go.Abs

