/- Rules for rows of fields; laws of single functions: fields of films, their sizes, copies and comparisons. Conditions: the laws of what they call. -/
import Derived.Test.YtoijdkmkfhefjaaExactStoreFilmL50
import Derived.Test.YtoijdkmkfhefjaaExactStoreFilmL14
import Derived.Test.YtoijdkmkfhefjaaWvH3
namespace Go.Abs

set_option linter.unusedSimpArgs false
set_option linter.unusedVariables false
set_option maxHeartbeats 8000000
set_option maxRecDepth 20000
/- loop.example/g01201/laws.szFieldS -/
def laws_szFieldS_r0 : List SOper := [
  ⟨(some 4), none, .mov (.const (.int .i64 0)), 0⟩]
def laws_szFieldS_r1 : List SOper := [
  ⟨(some 6), none, .mov (.tmp 1), 0⟩,
  ⟨(some 7), none, .mov (.tmp 0), 0⟩,
  ⟨(some 8), none, .len false (.tmp 7), 2⟩,
  ⟨(some 9), none, .bin .sub .other (.tmp 6) (.tmp 8), 7⟩,
  ⟨(some 1), none, .mov (.tmp 9), 15⟩]
def laws_szFieldS_r2 : List SOper := [
  ⟨(some 10), none, .mov (.tmp 1), 0⟩,
  ⟨(some 11), none, .bin .lss .other (.tmp 10) (.const (.int .i64 0)), 1⟩]
def laws_szFieldS_r3 : List SOper := [
  ⟨(some 4), none, .mov (.const (.int .i64 (-1))), 0⟩]
def laws_szFieldS_r4 : List SOper := [
  ⟨(some 5), none, .mov (.const (.int .i64 0)), 0⟩]
def laws_szFieldS_r5 : List SOper := [
  ⟨(some 12), none, .mov (.tmp 5), 0⟩,
  ⟨(some 13), none, .mov (.tmp 0), 0⟩,
  ⟨(some 14), none, .len false (.tmp 13), 2⟩,
  ⟨(some 15), none, .bin .lss .other (.tmp 12) (.tmp 14), 7⟩]
def laws_szFieldS_r6 (i_laws_szField : FuncId) : List SOper := [
  ⟨(some 18), none, .mov (.tmp 0), 0⟩,
  ⟨(some 19), none, .mov (.tmp 5), 0⟩,
  ⟨(some 20), none, .indexAddrS 3 (.tmp 18) (.tmp 19), 3⟩,
  ⟨(some 21), none, .loadN 3 (.tmp 20), 7⟩,
  ⟨(some 22), none, .mov (.tmp 1), 0⟩,
  ⟨(some 23), none, .call (.func i_laws_szField) [(.tmp 21), (.tmp 22)], 31⟩,
  ⟨(some 1), none, .mov (.tmp 23), 63⟩]
def laws_szFieldS_r7 : List SOper := [
  ⟨(some 24), none, .mov (.tmp 1), 0⟩,
  ⟨(some 25), none, .bin .lss .other (.tmp 24) (.const (.int .i64 0)), 1⟩]
def laws_szFieldS_r8 : List SOper := [
  ⟨(some 4), none, .mov (.const (.int .i64 (-1))), 0⟩]
def laws_szFieldS_r9 : List SOper := [
  ⟨(some 16), none, .mov (.tmp 5), 0⟩,
  ⟨(some 17), none, .bin .add .other (.tmp 16) (.const (.int .i64 1)), 1⟩,
  ⟨(some 5), none, .mov (.tmp 17), 3⟩]
def laws_szFieldS_l10 (i_laws_szField : FuncId) : SCode := (.kp [0, 1, 5] (.seq (.seq (.region laws_szFieldS_r5 false) (.kp [0, 1, 5, 15] (.cond (.tmp 15) .skip (.exit 0)))) (.kp [0, 1, 5] (.seq (.block 1 (.seq (.region (laws_szFieldS_r6 i_laws_szField) false) (.kp [0, 1, 5] (.seq (.region laws_szFieldS_r7 false) (.kp [0, 1, 5, 25] (.cond (.tmp 25) (.seq (.region laws_szFieldS_r8 false) .ret) .skip)))))) (.kp [0, 1, 5] (.region laws_szFieldS_r9 false))))))
def laws_szFieldS_r11 : List SOper := [
  ⟨(some 26), none, .mov (.tmp 1), 0⟩,
  ⟨(some 4), none, .mov (.tmp 26), 1⟩]
def laws_szFieldS (i_laws_szField : FuncId) : SFunc := ⟨27, [.tmp 4], (.kp [0, 1] (.seq (.region laws_szFieldS_r0 false) (.kp [0, 1] (.seq (.region laws_szFieldS_r1 false) (.kp [0, 1] (.seq (.seq (.region laws_szFieldS_r2 false) (.kp [0, 1, 11] (.cond (.tmp 11) (.seq (.region laws_szFieldS_r3 false) .ret) .skip))) (.kp [0, 1] (.seq (.seq (.region laws_szFieldS_r4 false) (.kp [0, 1, 5] (.block 0 (.loop (laws_szFieldS_l10 i_laws_szField))))) (.kp [1] (.seq (.region laws_szFieldS_r11 false) .ret))))))))))⟩


/-! ### Rows whose elements have three cells -/
section
variable {C : Ctab} {F : Frame} {τ l : Heap}
theorem Row.ld3 {v : Value} {m i : Nat} {cs : List Value} {a b c : Value} (hr : Row τ 3 v m cs) (hi : i < m) (hc : (cs.drop (i * 3)).take 3 = [a, b, c]) : aLoadN τ 3 (elemP 3 v i) = some (fV a b c) := by
  unfold Row at hr
  split at hr
  · omega
  · rename_i ad n' cap
    obtain ⟨rfl, h2, obj, h3, h4⟩ := hr
    obtain ⟨g1, g2, g3, g4⟩ := rowAt_spec h3
    have e1 : elemP 3 (.slice (some ad) n' cap) i = .pointer (some ⟨ad.block, ad.off + i * 3, some (ad.off + cap * 3)⟩) := by unfold elemP; rfl
    have e2 : (obj.cells.drop (ad.off + i * 3)).take 3 = [a, b, c] := by
      rw [← hc, h4, List.drop_take, List.drop_drop, List.take_take]
      congr 1
      omega
    rw [e1]
    simp only [aLoadN, g1]
    have hp : ptrOk obj (some (ad.off + cap * 3)) = true := by simp [ptrOk, g2, g3]; rfl
    rw [if_pos (by rw [hp, Bool.true_and, decide_eq_true_eq, g3]; omega), e2]
  · exact hr.elim
/-- An element of a row that may be read. -/
theorem EvR.ld3 {Q} {d n i m : Nat} {rest : List SOper} {x : Operand} {v a b c : Value} {cs : List Value} (hr : Row τ 3 v m cs) (hi : i < m) (hc : (cs.drop (i * 3)).take 3 = [a, b, c]) (h1 : eval F x = elemP 3 v i)
    (h : EvR C rest ((d, fV a b c) :: F) (τ ++ l) Q) : EvR C (⟨some d, none, .loadN 3 x, n⟩ :: rest) F (τ ++ l) Q := by
  refine EvR.opS (evL_ok ?_) h
  rw [evL, h1]
  exact Row.ld3 (hr.ext l) hi hc
abbrev nil3 : List Value := [.slice none 0 0, .slice none 0 0, .slice none 0 0]
/-- A new row of fields that are none. -/
theorem EvR.mk3 {Q} {d n m : Nat} {rest : List SOper} {x y : Operand} {k k' : IntKind} (h1 : eval F x = .int k (m : Nat)) (h2 : eval F y = .int k' (m : Nat)) (hm : m ≤ 1048576)
    (h : EvR C rest ((d, .slice (some ⟨τ.length + l.length, 0, none⟩) m m) :: F) (τ ++ (l ++ [⟨(List.replicate m nil3).flatten, 3, true⟩])) Q) : EvR C (⟨some d, none, .makeSlice 3 72 nil3 x y, n⟩ :: rest) F (τ ++ l) Q := by
  refine EvR.opS (σ' := τ ++ (l ++ [⟨(List.replicate m nil3).flatten, 3, true⟩])) ?_ h
  simp only [evOp, h1, h2, aMakeSlice]
  have h46 : (2 : Int) ^ 46 = 70368744177664 := by decide
  have hmx : maxI = 9223372036854775807 := rfl
  rw [if_pos ⟨by omega, by first | rfl | trivial, by omega, by omega, by omega, by first | rfl | trivial, by first | rfl | trivial⟩]
  simp [newRow, List.append_assoc]
/-- A field is stored in an own row. -/
theorem EvR.so3 {Q} {n k j c : Nat} {rest : List SOper} {x y : Operand} {a b d : Value} {cells : List Value} (h1 : eval F x = .pointer (some ⟨τ.length + k, j * 3, some (c * 3)⟩)) (h2 : l[k]? = some ⟨cells, 3, true⟩) (h3 : cells.length = c * 3) (h4 : j < c)
    (h5 : eval F y = fV a b d) (ha : cellOk a = true) (hb : cellOk b = true) (hd : cellOk d = true) (h : EvR C rest F (τ ++ l.set k ⟨splice cells (j * 3) [a, b, d], 3, true⟩) Q) : EvR C (⟨none, none, .store 3 x y, n⟩ :: rest) F (τ ++ l) Q := by
  refine EvR.opN (v := undef) (σ' := τ ++ l.set k ⟨splice cells (j * 3) [a, b, d], 3, true⟩) ?_ h
  have e : (τ ++ l)[τ.length + k]? = some ⟨cells, 3, true⟩ := by rw [hget]; exact h2
  simp only [evOp, h1, h5, aStore, e]
  have hp : ptrOk ⟨cells, 3, true⟩ (some (c * 3)) = true := by simp [ptrOk, h3]; rfl
  rw [if_pos (by rw [hp]; simp [h3, Value.cells, ha, hb, hd]; omega), set_app]
  rfl
end

/-! ### Fields one after another -/
def rowsOf (fs : List Fld) : List (List Nat) := fs.flatMap fun f => [f.e, f.x, f.y]
theorem rowsOf_cons (f : Fld) (fs : List Fld) : rowsOf (f :: fs) = f.e :: f.x :: f.y :: rowsOf fs := rfl
theorem rowsOf_append (a b : List Fld) : rowsOf (a ++ b) = rowsOf a ++ rowsOf b := by simp [rowsOf]
theorem rowsOf_length (fs : List Fld) : (rowsOf fs).length = fs.length * 3 := by
  induction fs with
  | nil => rfl
  | cons f fs ih => rw [rowsOf_cons]; simp only [List.length_cons, ih]; omega
/-- Cells that tell of fields. -/
def FlsC (σ : Heap) : List Fld → List Value → Prop
  | [], [] => True
  | f :: fs, a :: b :: c :: cs => FlR σ a b c f.e f.x f.y ∧ FlsC σ fs cs
  | _, _ => False
theorem FlsC.ext {σ : Heap} (τ : Heap) : ∀ {fs : List Fld} {cs : List Value}, FlsC σ fs cs → FlsC (σ ++ τ) fs cs
  | [], [], h => h
  | _ :: _, _ :: _ :: _ :: _, h => ⟨h.1.ext τ, FlsC.ext τ h.2⟩
  | [], _ :: _, h => False.elim h
  | _ :: _, [], h => False.elim h
  | _ :: _, [_], h => False.elim h
  | _ :: _, [_, _], h => False.elim h
theorem FlsC.get {σ : Heap} : ∀ {fs : List Fld} {cs : List Value} {i : Nat} {f : Fld}, FlsC σ fs cs → fs[i]? = some f → ∃ a b c, (cs.drop (i * 3)).take 3 = [a, b, c] ∧ FlR σ a b c f.e f.x f.y
  | g :: fs, a :: b :: c :: cs, 0, f, h, hf => by simp at hf; subst hf; exact ⟨a, b, c, rfl, h.1⟩
  | g :: fs, a :: b :: c :: cs, i + 1, f, h, hf => by
    obtain ⟨a', b', c', h1, h2⟩ := FlsC.get (i := i) h.2 (by simpa using hf)
    refine ⟨a', b', c', ?_, h2⟩
    rw [← h1, show (i + 1) * 3 = i * 3 + 3 by omega]
    rfl
  | [], [], _, _, _, hf => by simp at hf
  | [], _ :: _, _, _, h, _ => False.elim h
  | _ :: _, [], _, _, h, _ => False.elim h
  | _ :: _, [_], _, _, h, _ => False.elim h
  | _ :: _, [_, _], _, _, h, _ => False.elim h
/-- A row of fields that may be read. -/
structure FlsR (σ : Heap) (v : Value) (fs : List Fld) : Prop where
  ex : ∃ cs, Row σ 3 v fs.length cs ∧ FlsC σ fs cs
theorem FlsR.ext {σ : Heap} {v : Value} {fs : List Fld} (h : FlsR σ v fs) (τ : Heap) : FlsR (σ ++ τ) v fs := by
  obtain ⟨cs, h1, h2⟩ := h.ex
  exact ⟨cs, h1.ext τ, h2.ext τ⟩
theorem FlsR.ok {σ : Heap} {v : Value} {fs : List Fld} (h : FlsR σ v fs) : cellOk v = true := by
  obtain ⟨cs, h1, h2⟩ := h.ex
  exact h1.ok
def fitF (f : Fld) : Prop := f.e.length ≤ 1048576 ∧ f.x.length ≤ 1048576 ∧ f.y.length ≤ 1048576

/-! ### Sizes -/
def szGo : List Fld → Int → Int
  | [], l => l
  | f :: fs, l => if szAll [f.e.length, f.x.length, f.y.length] l < 0 then -1 else szGo fs (szAll [f.e.length, f.x.length, f.y.length] l)
def szFls (fs : List Fld) (left : Int) : Int := if left - fs.length < 0 then -1 else szGo fs (left - fs.length)
def bigF (fs : List Fld) : Prop := fs.length ≤ 9223372036854775807 ∧ ∀ f ∈ fs, f.e.length ≤ 9223372036854775807 ∧ f.x.length ≤ 9223372036854775807 ∧ f.y.length ≤ 9223372036854775807
def laws_szFieldS_ok (c : Contract) : Prop := ∀ (σ : Heap) (v : Value) (fs : List Fld) (left : Int), FlsR σ v fs → bigF fs → 0 ≤ left → left ≤ 1048576 → Ret c [v, .int .i64 left] σ fun v' σ' => v' = .int .i64 (szFls fs left) ∧ σ' = σ
theorem laws_szFieldS_law {C : Ctab} {i1 : FuncId} {c1 : Contract} (h1 : Has C i1 c1 laws_szField_ok) : laws_szFieldS_ok (gcC C (laws_szFieldS i1) true) := by
  intro σ v fs left hr hb h0 hle
  obtain ⟨cs, hrow, hcs⟩ := hr.ex
  obtain ⟨hb1, hb2⟩ := hb
  have k1 := hrow.ok
  unfold szFls
  by_cases hn : left - (fs.length : Int) < 0
  · rw [if_pos hn]
    refine ret_gc rfl rfl ?_
    repeat' (first | refine ff ?_ | ((first | refine EvR.aSplB ?_ ?_ | refine Ev.aSplB ?_ ?_) <;> (intro hb; (try rw [hb]); (try simp only [Bool.not_eq_true', Bool.not_eq_false', Bool.not_eq_eq_eq_not, Bool.not_true, Bool.not_false, decide_eq_true_eq, decide_eq_false_iff_not, Bool.and_eq_true, Bool.and_eq_false_iff, Bool.or_eq_true, Bool.or_eq_false_iff] at hb); (try (exfalso; first | omega | exact hb trivial)))) | (apply endS trivial; rotate_left; (· exact eva); (· rfl); try refine ⟨?_, rfl⟩) | fail)
    all_goals (try rfl)
  rw [if_neg hn]
  obtain ⟨T, hT⟩ : ∃ T, szGo fs (left - fs.length) = T := ⟨_, rfl⟩
  rw [hT]
  refine ret_gc rfl rfl ?_
  repeat' (first | refine ff ?_ | ((first | refine EvR.aSplB ?_ ?_ | refine Ev.aSplB ?_ ?_) <;> (intro hb; (try rw [hb]); (try simp only [Bool.not_eq_true', Bool.not_eq_false', Bool.not_eq_eq_eq_not, Bool.not_true, Bool.not_false, decide_eq_true_eq, decide_eq_false_iff_not, Bool.and_eq_true, Bool.and_eq_false_iff, Bool.or_eq_true, Bool.or_eq_false_iff] at hb); (try (exfalso; first | omega | exact hb trivial)))) | (apply endS trivial; rotate_left; (· exact eva); (· rfl); try refine ⟨?_, rfl⟩) | fail)
  refine Ev.whlC (S := Nat × Int) (fun st => fs.length - st.1) (fun st => [(1, .int .i64 st.2), (5, .int .i64 st.1)]) (fun st => st.1 ≤ fs.length ∧ szGo (fs.drop st.1) st.2 = T ∧ 0 ≤ st.2 ∧ st.2 ≤ 1048576) (0, left - fs.length) (by (simp only [List.cons_append, List.nil_append, ↓fget_cons, push_cast, Nat.reduceEqDiff, reduceIte] <;> rfl)) ⟨Nat.zero_le _, hT, by dsimp only; omega, by dsimp only; omega⟩ ?_
  rintro ⟨i, m⟩ F hF ⟨hi, hg, m0, m1⟩
  dsimp only at hF hi hg m0 m1 ⊢
  (simp only [List.cons_append, List.nil_append, ↓fget_cons, fkeep_cons, fkeep_nil, Nat.reduceEqDiff, reduceIte] at hF; subst hF)
  by_cases hlt : i < fs.length
  · obtain ⟨f, hf⟩ : ∃ f, fs[i]? = some f := ⟨_, List.getElem?_eq_getElem hlt⟩
    obtain ⟨a, b, c, hc, r1, r2, r3⟩ := hcs.get hf
    have hd : fs.drop i = f :: fs.drop (i + 1) := by rw [List.drop_eq_getElem_cons hlt]; congr 1; exact (List.getElem?_eq_some_iff.1 hf).2
    have hbf := hb2 f (List.mem_of_getElem? hf)
    obtain ⟨z1, z2, z3⟩ := szField_fact f.e f.x f.y m (by omega)
    rw [hd, szGo] at hg
    by_cases hz : szAll [f.e.length, f.x.length, f.y.length] m < 0
    · rw [if_pos hz] at hg
      repeat' (first | refine ff ?_ | ((first | refine EvR.aSplB ?_ ?_ | refine Ev.aSplB ?_ ?_) <;> (intro hb; (try rw [hb]); (try simp only [Bool.not_eq_true', Bool.not_eq_false', Bool.not_eq_eq_eq_not, Bool.not_true, Bool.not_false, decide_eq_true_eq, decide_eq_false_iff_not, Bool.and_eq_true, Bool.and_eq_false_iff, Bool.or_eq_true, Bool.or_eq_false_iff] at hb); (try (exfalso; first | omega | exact hb trivial)))) | (apply endS trivial; rotate_left; (· exact eva); (· rfl); try refine ⟨?_, rfl⟩) | fail)
      refine EvR.ld3 hrow hlt hc rfl ?_
      repeat' (first | refine ff ?_ | ((first | refine EvR.aSplB ?_ ?_ | refine Ev.aSplB ?_ ?_) <;> (intro hb; (try rw [hb]); (try simp only [Bool.not_eq_true', Bool.not_eq_false', Bool.not_eq_eq_eq_not, Bool.not_true, Bool.not_false, decide_eq_true_eq, decide_eq_false_iff_not, Bool.and_eq_true, Bool.and_eq_false_iff, Bool.or_eq_true, Bool.or_eq_false_iff] at hb); (try (exfalso; first | omega | exact hb trivial)))) | (apply endS trivial; rotate_left; (· exact eva); (· rfl); try refine ⟨?_, rfl⟩) | fail)
      (apply EvR.aCall h1.at_; (· exact eva); (· exact  h1.ok _ a b c f.e f.x f.y m ⟨r1.ext _, r2.ext _, r3.ext _⟩ hbf.1 hbf.2.1 hbf.2.2 m0 m1); (rintro _ _ ⟨rfl, rfl⟩; refine EvR.nrm ?_))
      repeat' (first | refine ff ?_ | ((first | refine EvR.aSplB ?_ ?_ | refine Ev.aSplB ?_ ?_) <;> (intro hb; (try rw [hb]); (try simp only [Bool.not_eq_true', Bool.not_eq_false', Bool.not_eq_eq_eq_not, Bool.not_true, Bool.not_false, decide_eq_true_eq, decide_eq_false_iff_not, Bool.and_eq_true, Bool.and_eq_false_iff, Bool.or_eq_true, Bool.or_eq_false_iff] at hb); (try (exfalso; first | omega | exact hb trivial)))) | (apply endS trivial; rotate_left; (· exact eva); (· rfl); try refine ⟨?_, rfl⟩) | fail)
      all_goals (rw [← hg])
    · rw [if_neg hz] at hg
      repeat' (first | refine ff ?_ | ((first | refine EvR.aSplB ?_ ?_ | refine Ev.aSplB ?_ ?_) <;> (intro hb; (try rw [hb]); (try simp only [Bool.not_eq_true', Bool.not_eq_false', Bool.not_eq_eq_eq_not, Bool.not_true, Bool.not_false, decide_eq_true_eq, decide_eq_false_iff_not, Bool.and_eq_true, Bool.and_eq_false_iff, Bool.or_eq_true, Bool.or_eq_false_iff] at hb); (try (exfalso; first | omega | exact hb trivial)))) | (apply endS trivial; rotate_left; (· exact eva); (· rfl); try refine ⟨?_, rfl⟩) | fail)
      refine EvR.ld3 hrow hlt hc rfl ?_
      repeat' (first | refine ff ?_ | ((first | refine EvR.aSplB ?_ ?_ | refine Ev.aSplB ?_ ?_) <;> (intro hb; (try rw [hb]); (try simp only [Bool.not_eq_true', Bool.not_eq_false', Bool.not_eq_eq_eq_not, Bool.not_true, Bool.not_false, decide_eq_true_eq, decide_eq_false_iff_not, Bool.and_eq_true, Bool.and_eq_false_iff, Bool.or_eq_true, Bool.or_eq_false_iff] at hb); (try (exfalso; first | omega | exact hb trivial)))) | (apply endS trivial; rotate_left; (· exact eva); (· rfl); try refine ⟨?_, rfl⟩) | fail)
      (apply EvR.aCall h1.at_; (· exact eva); (· exact  h1.ok _ a b c f.e f.x f.y m ⟨r1.ext _, r2.ext _, r3.ext _⟩ hbf.1 hbf.2.1 hbf.2.2 m0 m1); (rintro _ _ ⟨rfl, rfl⟩; refine EvR.nrm ?_))
      repeat' (first | refine ff ?_ | ((first | refine EvR.aSplB ?_ ?_ | refine Ev.aSplB ?_ ?_) <;> (intro hb; (try rw [hb]); (try simp only [Bool.not_eq_true', Bool.not_eq_false', Bool.not_eq_eq_eq_not, Bool.not_true, Bool.not_false, decide_eq_true_eq, decide_eq_false_iff_not, Bool.and_eq_true, Bool.and_eq_false_iff, Bool.or_eq_true, Bool.or_eq_false_iff] at hb); (try (exfalso; first | omega | exact hb trivial)))) | (apply endS trivial; rotate_left; (· exact eva); (· rfl); try refine ⟨?_, rfl⟩) | fail)
      exact ⟨(i + 1, szAll [f.e.length, f.x.length, f.y.length] m), by dsimp only; omega, by (simp only [List.cons_append, List.nil_append, ↓fget_cons, push_cast, Nat.reduceEqDiff, reduceIte] <;> rfl), rfl, by dsimp only; omega, hg, by dsimp only; omega, by dsimp only; omega⟩
  · obtain rfl : i = fs.length := by omega
    rw [List.drop_length, szGo] at hg
    subst hg
    repeat' (first | refine ff ?_ | ((first | refine EvR.aSplB ?_ ?_ | refine Ev.aSplB ?_ ?_) <;> (intro hb; (try rw [hb]); (try simp only [Bool.not_eq_true', Bool.not_eq_false', Bool.not_eq_eq_eq_not, Bool.not_true, Bool.not_false, decide_eq_true_eq, decide_eq_false_iff_not, Bool.and_eq_true, Bool.and_eq_false_iff, Bool.or_eq_true, Bool.or_eq_false_iff] at hb); (try (exfalso; first | omega | exact hb trivial)))) | (apply endS trivial; rotate_left; (· exact eva); (· rfl); try refine ⟨?_, rfl⟩) | fail)
    all_goals (try rfl)
end Go.Abs

