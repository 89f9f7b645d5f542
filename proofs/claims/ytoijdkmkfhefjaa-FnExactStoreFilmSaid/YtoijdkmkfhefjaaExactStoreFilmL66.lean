/- Laws of functions: whether a film is one, by the reference; elements of rows told by their places. Conditions: the laws of what they call. -/
import Derived.Test.YtoijdkmkfhefjaaExactStoreFilmL65
import Derived.Test.YtoijdkmkfhefjaaExactStoreFilmL57
namespace Go.Abs

set_option linter.unusedSimpArgs false
set_option linter.unusedVariables false
set_option maxHeartbeats 8000000
set_option maxRecDepth 20000
/- loop.example/g01201/spec.l10Is -/
def spec_l10Is_r0 : List SOper := [
  ⟨(some 2), none, .mov (.const (.bool false)), 0⟩]
def spec_l10Is_r1 (i_spec_l02Is : FuncId) : List SOper := [
  ⟨(some 4), none, .mov (.tmp 0), 0⟩,
  ⟨(some 5), none, .nilCheck (.tmp 4), 1⟩,
  ⟨(some 6), none, .fieldAddr 0 (.tmp 5), 3⟩,
  ⟨(some 7), none, .call (.func i_spec_l02Is) [(.tmp 6)], 7⟩,
  ⟨(some 8), none, .un .not (.tmp 7), 15⟩,
  ⟨(some 9), none, .mov (.tmp 8), 31⟩,
  ⟨(some 10), (some (9, false)), .mov (.tmp 0), 63⟩,
  ⟨(some 11), (some (9, false)), .nilCheck (.tmp 10), 127⟩,
  ⟨(some 12), (some (9, false)), .fieldAddr 5 (.tmp 11), 255⟩,
  ⟨(some 13), (some (9, false)), .load1 (.tmp 12), 511⟩,
  ⟨(some 14), (some (9, false)), .len false (.tmp 13), 1023⟩,
  ⟨(some 15), (some (9, false)), .bin .gtr .other (.tmp 14) (.const (.int .i64 16)), 2047⟩,
  ⟨(some 16), none, .pick (.tmp 9) (.const (.bool true)) (.tmp 15), 4095⟩]
def spec_l10Is_r2 : List SOper := [
  ⟨(some 2), none, .mov (.const (.bool false)), 0⟩]
def spec_l10Is_r3 : List SOper := [
  ⟨(some 3), none, .mov (.const (.int .i64 0)), 0⟩]
def spec_l10Is_r4 : List SOper := [
  ⟨(some 17), none, .mov (.tmp 3), 0⟩,
  ⟨(some 18), none, .mov (.tmp 0), 0⟩,
  ⟨(some 19), none, .nilCheck (.tmp 18), 2⟩,
  ⟨(some 20), none, .fieldAddr 5 (.tmp 19), 6⟩,
  ⟨(some 21), none, .load1 (.tmp 20), 14⟩,
  ⟨(some 22), none, .len false (.tmp 21), 30⟩,
  ⟨(some 23), none, .bin .lss .other (.tmp 17) (.tmp 22), 63⟩]
def spec_l10Is_r5 (i_spec_l02Fits : FuncId) : List SOper := [
  ⟨(some 26), none, .mov (.tmp 0), 0⟩,
  ⟨(some 27), none, .nilCheck (.tmp 26), 1⟩,
  ⟨(some 28), none, .fieldAddr 0 (.tmp 27), 3⟩,
  ⟨(some 29), none, .mov (.tmp 0), 0⟩,
  ⟨(some 30), none, .nilCheck (.tmp 29), 8⟩,
  ⟨(some 31), none, .fieldAddr 5 (.tmp 30), 24⟩,
  ⟨(some 32), none, .load1 (.tmp 31), 56⟩,
  ⟨(some 33), none, .mov (.tmp 3), 0⟩,
  ⟨(some 34), none, .indexAddrS 3 (.tmp 32) (.tmp 33), 248⟩,
  ⟨(some 35), none, .call (.func i_spec_l02Fits) [(.tmp 28), (.tmp 34)], 511⟩,
  ⟨(some 36), none, .un .not (.tmp 35), 1023⟩]
def spec_l10Is_r6 : List SOper := [
  ⟨(some 2), none, .mov (.const (.bool false)), 0⟩]
def spec_l10Is_r7 : List SOper := [
  ⟨(some 24), none, .mov (.tmp 3), 0⟩,
  ⟨(some 25), none, .bin .add .other (.tmp 24) (.const (.int .i64 1)), 1⟩,
  ⟨(some 3), none, .mov (.tmp 25), 3⟩]
def spec_l10Is_l8 (i_spec_l02Fits : FuncId) : SCode := (.kp [0, 3] (.seq (.seq (.region spec_l10Is_r4 false) (.kp [0, 3, 23] (.cond (.tmp 23) .skip (.exit 0)))) (.kp [0, 3] (.seq (.block 1 (.seq (.region (spec_l10Is_r5 i_spec_l02Fits) true) (.kp [0, 3, 36] (.cond (.tmp 36) (.seq (.region spec_l10Is_r6 false) .ret) .skip)))) (.kp [0, 3] (.region spec_l10Is_r7 false))))))
def spec_l10Is_r9 : List SOper := [
  ⟨(some 2), none, .mov (.const (.bool true)), 0⟩]
def spec_l10Is (i_spec_l02Is i_spec_l02Fits : FuncId) : SFunc := ⟨37, [.tmp 2], (.kp [0] (.seq (.region spec_l10Is_r0 false) (.kp [0] (.seq (.seq (.region (spec_l10Is_r1 i_spec_l02Is) false) (.kp [0, 16] (.cond (.tmp 16) (.seq (.region spec_l10Is_r2 false) .ret) .skip))) (.kp [0] (.seq (.seq (.region spec_l10Is_r3 false) (.kp [0, 3] (.block 0 (.loop (spec_l10Is_l8 i_spec_l02Fits))))) (.kp [] (.seq (.region spec_l10Is_r9 false) .ret))))))))⟩
theorem spec_l10Is_r5_dr {i_spec_l02Fits : FuncId} : drawOkW wStat (spec_l10Is_r5 i_spec_l02Fits) = true := by kernel_rfl
attribute [push_cast] spec_l10Is_r5_dr
/-- The place of an element of a row. -/
def PtE (σ : Heap) (b o c : Nat) (cs : List Value) : Prop := ∃ cells e r, σ[b]? = some (⟨cells, e, r⟩ : AObj) ∧ e ≠ 0 ∧ cells.length = c ∧ (cells.drop o).take cs.length = cs
theorem PtE.ext {σ : Heap} {b o c : Nat} {cs : List Value} (h : PtE σ b o c cs) (t : Heap) : PtE (σ ++ t) b o c cs := by
  obtain ⟨cells, e, r, h1, h2⟩ := h
  exact ⟨cells, e, r, by rw [List.getElem?_append_left (List.getElem?_eq_some_iff.1 h1).1]; exact h1, h2⟩
theorem PtE.load1R {σ : Heap} {b o c k : Nat} {cs : List Value} {l : Heap} (h : PtE σ b o c cs) (hk : k < cs.length) : aLoad1 (σ ++ l) (.pointer (some ⟨b, o + k, some c⟩)) = cs[k]? := by
  obtain ⟨cells, e, r, h1, h2, h3, h4⟩ := h.ext l
  rw [load1_obj h1 h3 h2, ← h4, List.getElem?_take, if_pos hk, List.getElem?_drop]
theorem PtE.loadNR {σ : Heap} {b o c n : Nat} {cs : List Value} {l : Heap} (h : PtE σ b o c cs) (hk : cs.length = n) (hn : 0 < n) : aLoadN (σ ++ l) n (.pointer (some ⟨b, o, some c⟩)) = some (.agg cs.toArray) := by
  obtain ⟨cells, e, r, h1, h2, h3, h4⟩ := h.ext l
  subst hk
  have hlen : o + cs.length ≤ cells.length := by
    have := congrArg List.length h4
    rw [List.length_take, List.length_drop] at this
    omega
  simp only [aLoadN, h1]
  rw [if_pos (by simp [ptrOk, h3, h2]; exact ⟨by cases e with | zero => exact absurd rfl h2 | succ n => rfl, by omega⟩), h4]
attribute [push_cast] PtE.load1R PtE.loadNR
/-- An element's place. -/
theorem Row.elem {σ : Heap} {v : Value} {m i : Nat} {cs : List Value} {a b c : Value} (hr : Row σ 3 v m cs) (hi : i < m) (hc : (cs.drop (i * 3)).take 3 = [a, b, c]) : ∃ p o n, elemP 3 v i = .pointer (some ⟨p, o, some n⟩) ∧ PtE σ p o n [a, b, c] := by
  unfold Row at hr
  split at hr
  · omega
  · rename_i ad n' cap
    obtain ⟨rfl, h2, obj, h3, h4⟩ := hr
    obtain ⟨g1, g2, g3, g4⟩ := rowAt_spec h3
    refine ⟨ad.block, ad.off + i * 3, ad.off + cap * 3, by unfold elemP; rfl, obj.cells, obj.esz, obj.rw, g1, by omega, g3, ?_⟩
    show List.take 3 _ = _
    rw [← hc, h4, List.drop_take, List.drop_drop, List.take_take]
    congr 1
    omega
  · exact hr.elim

def spec_l02FitsE_ok (c : Contract) : Prop := ∀ (σ : Heap) (b o p q c' : Nat) (W H : Nat) (wr : Bool) (sv lv ev xv yv : Value) (e x y : List Nat), PtAt σ b o [.int .i64 W, .int .i64 H, .bool wr, sv, lv] → PtE σ p q c' [ev, xv, yv] → FlR σ ev xv yv e x y →
    e.length ≤ 1048576 → x.length ≤ 1048576 → y.length ≤ 1048576 → 3 ≤ W → W ≤ 16 → 3 ≤ H → H ≤ 16 → (W : Int) * (H : Int) ≤ 256 →
    Ret c [.pointer (some ⟨b, o, none⟩), .pointer (some ⟨p, q, some c'⟩)] σ fun v σ' => v = .bool (fits W H wr e x y) ∧ σ' = σ
theorem spec_l02FitsE_law {C : Ctab} {i : FuncId} {c : Contract} (h1 : Has C i c spec_l02Border_ok) : spec_l02FitsE_ok (gcC C (spec_l02Fits i) true) := by
  intro σ b o p q c' W H wr sv lv ev xv yv e fx fy hp1 hp2 hf hm1 hm2 hm3 a1 a2 a3 a4 a5
  obtain ⟨r3, r4, r5⟩ := hf
  have hWH : ((W * H : Nat) : Int) = (W : Int) * (H : Int) := Int.natCast_mul _ _
  refine ret_gc rfl rfl ?_
  repeat' (first | refine ff ?_ | ((first | refine EvR.aSplB ?_ ?_ | refine Ev.aSplB ?_ ?_) <;> (intro hb; (try rw [hb]); (try simp only [Bool.not_eq_true', Bool.not_eq_false', Bool.not_eq_eq_eq_not, Bool.not_true, Bool.not_false, decide_eq_true_eq, decide_eq_false_iff_not, Bool.and_eq_true, Bool.and_eq_false_iff, Bool.or_eq_true, Bool.or_eq_false_iff] at hb); (try (exfalso; first | omega | exact hb trivial)))) | (apply endS trivial; rotate_left; (· exact eva); (· rfl); try refine ⟨?_, rfl⟩) | fail)
  all_goals try (rw [fits_len (by omega)]; done)
  refine Ev.whlC (S := Nat) (fun i => H - i) (fun i => [(6, .int .i64 i)]) (fun y => y ≤ H ∧ (wr = false → ∀ j, j < W * y → badC W H false e fx fy ((j : Int) % W) ((j : Int) / W) j = false)) 0 (by (simp only [List.cons_append, List.nil_append, ↓fget_cons, push_cast, Nat.reduceEqDiff, reduceIte] <;> rfl)) ⟨Nat.zero_le _, fun _ j hj => by omega⟩ ?_
  rintro y F hF ⟨hi, hp⟩
  (simp only [List.cons_append, List.nil_append, ↓fget_cons, fkeep_cons, fkeep_nil, Nat.reduceEqDiff, reduceIte] at hF; subst hF)
  by_cases hlt : y < H
  · cases wr
    · repeat' (first | refine ff ?_ | ((first | refine EvR.aSplB ?_ ?_ | refine Ev.aSplB ?_ ?_) <;> (intro hb; (try rw [hb]); (try simp only [Bool.not_eq_true', Bool.not_eq_false', Bool.not_eq_eq_eq_not, Bool.not_true, Bool.not_false, decide_eq_true_eq, decide_eq_false_iff_not, Bool.and_eq_true, Bool.and_eq_false_iff, Bool.or_eq_true, Bool.or_eq_false_iff] at hb); (try (exfalso; first | omega | exact hb trivial)))) | (apply endS trivial; rotate_left; (· exact eva); (· rfl); try refine ⟨?_, rfl⟩) | fail)
      refine Ev.whlC (S := Nat) (fun x => W - x) (fun x => [(7, .int .i64 x)]) (fun x => x ≤ W ∧ ∀ j, j < W * y + x → badC W H false e fx fy ((j : Int) % W) ((j : Int) / W) j = false) 0 (by (simp only [List.cons_append, List.nil_append, ↓fget_cons, push_cast, Nat.reduceEqDiff, reduceIte] <;> rfl)) ⟨Nat.zero_le _, fun j hj => hp rfl j (by omega)⟩ ?_
      rintro x F hF ⟨hi2, hp2⟩
      (simp only [List.cons_append, List.nil_append, ↓fget_cons, fkeep_cons, fkeep_nil, Nat.reduceEqDiff, reduceIte] at hF; subst hF)
      by_cases hlt2 : x < W
      · obtain ⟨c1, c2, c3, c4⟩ := cell_ix hlt2 hlt
        have c5 := cell_lt hlt2 hlt
        repeat' (first | refine ff ?_ | (apply EvR.aCall h1.at_; (· exact eva); (· apply h1.ok <;> exact sid); (rintro _ _ ⟨rfl, rfl⟩; refine EvR.nrm ?_)) | ((first | refine EvR.aSplB ?_ ?_ | refine Ev.aSplB ?_ ?_) <;> (intro hb; (try rw [hb]); (try simp only [Bool.not_eq_true', Bool.not_eq_false', Bool.not_eq_eq_eq_not, Bool.not_true, Bool.not_false, decide_eq_true_eq, decide_eq_false_iff_not, Bool.and_eq_true, Bool.and_eq_false_iff, Bool.or_eq_true, Bool.or_eq_false_iff] at hb); (try (exfalso; first | omega | exact hb trivial)))) | (apply endS trivial; rotate_left; (· exact eva); (· rfl); try refine ⟨?_, rfl⟩) | fail)
        all_goals first
          | (rw [fits_bad c5 (by rw [badC_at hlt2]; unfold badC; grind)]; done)
          | (refine ⟨x + 1, by omega, by (simp only [List.cons_append, List.nil_append, ↓fget_cons, push_cast, Nat.reduceEqDiff, reduceIte] <;> rfl), rfl, by omega, fun j hj => ?_⟩
             rcases Nat.lt_or_ge j (W * y + x) with hji | hji
             · exact hp2 j hji
             · obtain rfl : j = W * y + x := by omega
               rw [badC_at hlt2]; unfold badC; grind)
      · repeat' (first | refine ff ?_ | ((first | refine EvR.aSplB ?_ ?_ | refine Ev.aSplB ?_ ?_) <;> (intro hb; (try rw [hb]); (try simp only [Bool.not_eq_true', Bool.not_eq_false', Bool.not_eq_eq_eq_not, Bool.not_true, Bool.not_false, decide_eq_true_eq, decide_eq_false_iff_not, Bool.and_eq_true, Bool.and_eq_false_iff, Bool.or_eq_true, Bool.or_eq_false_iff] at hb); (try (exfalso; first | omega | exact hb trivial)))) | (apply endS trivial; rotate_left; (· exact eva); (· rfl); try refine ⟨?_, rfl⟩) | fail)
        exact ⟨y + 1, by omega, by (simp only [List.cons_append, List.nil_append, ↓fget_cons, push_cast, Nat.reduceEqDiff, reduceIte] <;> rfl), rfl, by omega, fun _ j hj => hp2 j (by rw [Nat.mul_succ] at hj; omega)⟩
    · repeat' (first | refine ff ?_ | ((first | refine EvR.aSplB ?_ ?_ | refine Ev.aSplB ?_ ?_) <;> (intro hb; (try rw [hb]); (try simp only [Bool.not_eq_true', Bool.not_eq_false', Bool.not_eq_eq_eq_not, Bool.not_true, Bool.not_false, decide_eq_true_eq, decide_eq_false_iff_not, Bool.and_eq_true, Bool.and_eq_false_iff, Bool.or_eq_true, Bool.or_eq_false_iff] at hb); (try (exfalso; first | omega | exact hb trivial)))) | (apply endS trivial; rotate_left; (· exact eva); (· rfl); try refine ⟨?_, rfl⟩) | fail)
      simp only [fits, Bool.true_or, Bool.and_true]
      simp; omega
  · repeat' (first | refine ff ?_ | ((first | refine EvR.aSplB ?_ ?_ | refine Ev.aSplB ?_ ?_) <;> (intro hb; (try rw [hb]); (try simp only [Bool.not_eq_true', Bool.not_eq_false', Bool.not_eq_eq_eq_not, Bool.not_true, Bool.not_false, decide_eq_true_eq, decide_eq_false_iff_not, Bool.and_eq_true, Bool.and_eq_false_iff, Bool.or_eq_true, Bool.or_eq_false_iff] at hb); (try (exfalso; first | omega | exact hb trivial)))) | (apply endS trivial; rotate_left; (· exact eva); (· rfl); try refine ⟨?_, rfl⟩) | fail)
    cases wr
    · obtain rfl : y = H := by omega
      rw [fits_ok (by omega) (by omega) (by omega) (hp rfl)]
    · simp only [fits, Bool.true_or, Bool.and_true]
      simp; omega

theorem isFilm_f {w h : Int} {wr : Bool} {sp lo : List Nat} {fs : List Fld} {f : Fld} (hf : f ∈ fs) (hb : isField w h wr sp lo f.e f.x f.y = false) : isFilm w h wr sp lo fs = false := by
  unfold isFilm
  rw [show (fs.all fun f => isField w h wr sp lo f.e f.x f.y) = false from by rw [List.all_eq_false]; exact ⟨f, hf, by rw [hb]; simp⟩, Bool.and_false]
def spec_l10Is_ok (c : Contract) : Prop := ∀ (σ : Heap) (p : Nat) (w h : Int) (wr : Bool) (sv lv fv : Value) (sp lo : List Nat) (fs : List Fld), PtAt σ p 0 [.int .i64 w, .int .i64 h, .bool wr, sv, lv, fv] → ShR σ sv lv sp lo → FlsR σ fv fs → sp.length ≤ 1048576 → lo.length ≤ 1048576 → fitsF fs →
    Ret c [.pointer (some ⟨p, 0, none⟩)] σ fun v σ' => v = .bool (isFilm w h wr sp lo fs) ∧ σ' = σ
theorem PtAt.first {σ : Heap} {b o : Nat} {cs ds : List Value} (h : PtAt σ b o (cs ++ ds)) : PtAt σ b o cs := by
  obtain ⟨cells, r, h1, h2⟩ := h
  refine ⟨cells, r, h1, ?_⟩
  have := congrArg (List.take cs.length) h2
  rw [List.take_take, List.take_left] at this
  have hl := congrArg List.length h2
  rw [List.length_take, List.length_append, List.length_drop] at hl
  rw [← this]
  congr 1
  rw [List.length_append]
  simp only [List.length_take, List.length_drop]
  omega
theorem spec_l10Is_law {C : Ctab} {i1 i2 : FuncId} {c1 c2 : Contract} (h1 : Has C i1 c1 spec_l02Is_ok) (h2 : Has C i2 c2 spec_l02FitsE_ok) : spec_l10Is_ok (gcC C (spec_l10Is i1 i2) true) := by
  intro σ p w h wr sv lv fv sp lo fs hp ⟨r1, r2⟩ hf n1 n2 ⟨hn, hfit⟩
  obtain ⟨cs, hrow, hcs⟩ := hf.ex
  have hp5 : Unit → PtAt σ p 0 [.int .i64 w, .int .i64 h, .bool wr, sv, lv] := fun _ => PtAt.first (ds := [fv]) hp
  cases hs : isSheet w h sp lo
  · rw [show isFilm w h wr sp lo fs = false from by unfold isFilm; rw [hs]; rfl]
    refine ret_gc rfl rfl ?_
    repeat' (first | refine ff ?_ | ((first | refine EvR.aSplB ?_ ?_ | refine Ev.aSplB ?_ ?_) <;> (intro hb; (try rw [hb]); (try simp only [Bool.not_eq_true', Bool.not_eq_false', Bool.not_eq_eq_eq_not, Bool.not_true, Bool.not_false, decide_eq_true_eq, decide_eq_false_iff_not, Bool.and_eq_true, Bool.and_eq_false_iff, Bool.or_eq_true, Bool.or_eq_false_iff] at hb); (try (exfalso; first | omega | exact hb trivial)))) | (apply endS trivial; rotate_left; (· exact eva); (· rfl); try refine ⟨?_, rfl⟩) | fail)
    (apply EvR.aCall h1.at_; (· exact eva); (· exact  h1.ok _ p 0 w h wr sv lv sp lo ((hp5 ()).ext _) ⟨r1.ext _, r2.ext _⟩ n1 n2); (rintro _ _ ⟨rfl, rfl⟩; refine EvR.nrm ?_))
    rw [hs]
    repeat' (first | refine ff ?_ | ((first | refine EvR.aSplB ?_ ?_ | refine Ev.aSplB ?_ ?_) <;> (intro hb; (try rw [hb]); (try simp only [Bool.not_eq_true', Bool.not_eq_false', Bool.not_eq_eq_eq_not, Bool.not_true, Bool.not_false, decide_eq_true_eq, decide_eq_false_iff_not, Bool.and_eq_true, Bool.and_eq_false_iff, Bool.or_eq_true, Bool.or_eq_false_iff] at hb); (try (exfalso; first | omega | exact hb trivial)))) | (apply endS trivial; rotate_left; (· exact eva); (· rfl); try refine ⟨?_, rfl⟩) | fail)
    all_goals (try rfl)
  by_cases h16 : fs.length ≤ 16
  · obtain ⟨a1, a2, a3, a4, q1, q2⟩ := isSheet_sides hs
    obtain ⟨W, rfl⟩ := Int.eq_ofNat_of_zero_le (show 0 ≤ w by omega)
    obtain ⟨H, rfl⟩ := Int.eq_ofNat_of_zero_le (show 0 ≤ h by omega)
    have hN2 : W * H ≤ 256 := Nat.mul_le_mul (show W ≤ 16 by omega) (show H ≤ 16 by omega)
    have hWH : ((W * H : Nat) : Int) = (W : Int) * (H : Int) := Int.natCast_mul _ _
    refine ret_gc rfl rfl ?_
    repeat' (first | refine ff ?_ | ((first | refine EvR.aSplB ?_ ?_ | refine Ev.aSplB ?_ ?_) <;> (intro hb; (try rw [hb]); (try simp only [Bool.not_eq_true', Bool.not_eq_false', Bool.not_eq_eq_eq_not, Bool.not_true, Bool.not_false, decide_eq_true_eq, decide_eq_false_iff_not, Bool.and_eq_true, Bool.and_eq_false_iff, Bool.or_eq_true, Bool.or_eq_false_iff] at hb); (try (exfalso; first | omega | exact hb trivial)))) | (apply endS trivial; rotate_left; (· exact eva); (· rfl); try refine ⟨?_, rfl⟩) | fail)
    (apply EvR.aCall h1.at_; (· exact eva); (· exact  h1.ok _ p 0 W H wr sv lv sp lo ((hp5 ()).ext _) ⟨r1.ext _, r2.ext _⟩ n1 n2); (rintro _ _ ⟨rfl, rfl⟩; refine EvR.nrm ?_))
    rw [hs]
    repeat' (first | refine ff ?_ | ((first | refine EvR.aSplB ?_ ?_ | refine Ev.aSplB ?_ ?_) <;> (intro hb; (try rw [hb]); (try simp only [Bool.not_eq_true', Bool.not_eq_false', Bool.not_eq_eq_eq_not, Bool.not_true, Bool.not_false, decide_eq_true_eq, decide_eq_false_iff_not, Bool.and_eq_true, Bool.and_eq_false_iff, Bool.or_eq_true, Bool.or_eq_false_iff] at hb); (try (exfalso; first | omega | exact hb trivial)))) | (apply endS trivial; rotate_left; (· exact eva); (· rfl); try refine ⟨?_, rfl⟩) | fail)
    refine Ev.whlC (S := Nat) (fun i => fs.length - i) (fun i => [(3, .int .i64 i)]) (fun i => i ≤ fs.length ∧ ∀ j f, j < i → fs[j]? = some f → isField W H wr sp lo f.e f.x f.y = true) 0 (by (simp only [List.cons_append, List.nil_append, ↓fget_cons, push_cast, Nat.reduceEqDiff, reduceIte] <;> rfl)) ⟨Nat.zero_le _, fun j f hj => by omega⟩ ?_
    rintro i F hF ⟨hi, hg⟩
    (simp only [List.cons_append, List.nil_append, ↓fget_cons, fkeep_cons, fkeep_nil, Nat.reduceEqDiff, reduceIte] at hF; subst hF)
    by_cases hlt : i < fs.length
    · obtain ⟨f, hf⟩ : ∃ f, fs[i]? = some f := ⟨_, List.getElem?_eq_getElem hlt⟩
      obtain ⟨a, b, c, hc, g3, g4, g5⟩ := hcs.get hf
      obtain ⟨pb, po, pn, he, hpe⟩ := hrow.elem hlt hc
      obtain ⟨f1, f2, f3⟩ := hfit f (List.mem_of_getElem? hf)
      have hif := isField_fits (wr := wr) (e := f.e) (x := f.x) (y := f.y) hs
      repeat' (first | refine ff ?_ | ((first | refine EvR.aSplB ?_ ?_ | refine Ev.aSplB ?_ ?_) <;> (intro hb; (try rw [hb]); (try simp only [Bool.not_eq_true', Bool.not_eq_false', Bool.not_eq_eq_eq_not, Bool.not_true, Bool.not_false, decide_eq_true_eq, decide_eq_false_iff_not, Bool.and_eq_true, Bool.and_eq_false_iff, Bool.or_eq_true, Bool.or_eq_false_iff] at hb); (try (exfalso; first | omega | exact hb trivial)))) | (apply endS trivial; rotate_left; (· exact eva); (· rfl); try refine ⟨?_, rfl⟩) | fail)
      apply EvR.aCall h2.at_; (· exact eva); (· rw [he]; exact h2.ok _ p 0 pb po pn W H wr sv lv a b c f.e f.x f.y ((hp5 ()).ext _) (hpe.ext _) ⟨g3.ext _, g4.ext _, g5.ext _⟩ f1 f2 f3 (by omega) (by omega) (by omega) (by omega) (by omega)); (rintro _ _ ⟨rfl, rfl⟩; refine EvR.nrm ?_)
      rw [← hif]
      cases hF2 : isField W H wr sp lo f.e f.x f.y
      · rw [isFilm_f (List.mem_of_getElem? hf) hF2]
        repeat' (first | refine ff ?_ | ((first | refine EvR.aSplB ?_ ?_ | refine Ev.aSplB ?_ ?_) <;> (intro hb; (try rw [hb]); (try simp only [Bool.not_eq_true', Bool.not_eq_false', Bool.not_eq_eq_eq_not, Bool.not_true, Bool.not_false, decide_eq_true_eq, decide_eq_false_iff_not, Bool.and_eq_true, Bool.and_eq_false_iff, Bool.or_eq_true, Bool.or_eq_false_iff] at hb); (try (exfalso; first | omega | exact hb trivial)))) | (apply endS trivial; rotate_left; (· exact eva); (· rfl); try refine ⟨?_, rfl⟩) | fail)
        all_goals (try rfl)
      · repeat' (first | refine ff ?_ | ((first | refine EvR.aSplB ?_ ?_ | refine Ev.aSplB ?_ ?_) <;> (intro hb; (try rw [hb]); (try simp only [Bool.not_eq_true', Bool.not_eq_false', Bool.not_eq_eq_eq_not, Bool.not_true, Bool.not_false, decide_eq_true_eq, decide_eq_false_iff_not, Bool.and_eq_true, Bool.and_eq_false_iff, Bool.or_eq_true, Bool.or_eq_false_iff] at hb); (try (exfalso; first | omega | exact hb trivial)))) | (apply endS trivial; rotate_left; (· exact eva); (· rfl); try refine ⟨?_, rfl⟩) | fail)
        refine ⟨i + 1, by omega, by (simp only [List.cons_append, List.nil_append, ↓fget_cons, push_cast, Nat.reduceEqDiff, reduceIte] <;> rfl), rfl, by omega, fun j g hj hgj => ?_⟩
        rcases Nat.lt_or_ge j i with hji | hji
        · exact hg j g hji hgj
        · obtain rfl : j = i := by omega
          rw [hf] at hgj
          cases hgj
          exact hF2
    · obtain rfl : i = fs.length := by omega
      rw [show isFilm W H wr sp lo fs = true from by
        unfold isFilm
        rw [hs, decide_eq_true h16, Bool.true_and, Bool.true_and, List.all_eq_true]
        intro f hm
        obtain ⟨j, hj⟩ := List.getElem?_of_mem hm
        exact hg j f (List.getElem?_eq_some_iff.1 hj).1 hj]
      repeat' (first | refine ff ?_ | ((first | refine EvR.aSplB ?_ ?_ | refine Ev.aSplB ?_ ?_) <;> (intro hb; (try rw [hb]); (try simp only [Bool.not_eq_true', Bool.not_eq_false', Bool.not_eq_eq_eq_not, Bool.not_true, Bool.not_false, decide_eq_true_eq, decide_eq_false_iff_not, Bool.and_eq_true, Bool.and_eq_false_iff, Bool.or_eq_true, Bool.or_eq_false_iff] at hb); (try (exfalso; first | omega | exact hb trivial)))) | (apply endS trivial; rotate_left; (· exact eva); (· rfl); try refine ⟨?_, rfl⟩) | fail)
      all_goals (try rfl)
  · rw [show isFilm w h wr sp lo fs = false from by unfold isFilm; rw [decide_eq_false h16]; simp]
    refine ret_gc rfl rfl ?_
    repeat' (first | refine ff ?_ | ((first | refine EvR.aSplB ?_ ?_ | refine Ev.aSplB ?_ ?_) <;> (intro hb; (try rw [hb]); (try simp only [Bool.not_eq_true', Bool.not_eq_false', Bool.not_eq_eq_eq_not, Bool.not_true, Bool.not_false, decide_eq_true_eq, decide_eq_false_iff_not, Bool.and_eq_true, Bool.and_eq_false_iff, Bool.or_eq_true, Bool.or_eq_false_iff] at hb); (try (exfalso; first | omega | exact hb trivial)))) | (apply endS trivial; rotate_left; (· exact eva); (· rfl); try refine ⟨?_, rfl⟩) | fail)
    (apply EvR.aCall h1.at_; (· exact eva); (· exact  h1.ok _ p 0 w h wr sv lv sp lo ((hp5 ()).ext _) ⟨r1.ext _, r2.ext _⟩ n1 n2); (rintro _ _ ⟨rfl, rfl⟩; refine EvR.nrm ?_))
    rw [hs]
    repeat' (first | refine ff ?_ | ((first | refine EvR.aSplB ?_ ?_ | refine Ev.aSplB ?_ ?_) <;> (intro hb; (try rw [hb]); (try simp only [Bool.not_eq_true', Bool.not_eq_false', Bool.not_eq_eq_eq_not, Bool.not_true, Bool.not_false, decide_eq_true_eq, decide_eq_false_iff_not, Bool.and_eq_true, Bool.and_eq_false_iff, Bool.or_eq_true, Bool.or_eq_false_iff] at hb); (try (exfalso; first | omega | exact hb trivial)))) | (apply endS trivial; rotate_left; (· exact eva); (· rfl); try refine ⟨?_, rfl⟩) | fail)
    all_goals (try rfl)
end Go.Abs

