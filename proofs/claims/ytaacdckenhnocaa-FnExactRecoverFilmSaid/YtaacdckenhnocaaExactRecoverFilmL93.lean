/- Laws of functions: the frames of films as bytes. Conditions: the laws of what they call. -/
import Derived.Test.YtaacdckenhnocaaExactRecoverFilmL92
import Derived.Test.YtaacdckenhnocaaExactRecoverFilmL38
import Derived.Test.YtaacdckenhnocaaExactRecoverFilmL72
namespace Go.Abs

set_option linter.unusedSimpArgs false
set_option linter.unusedVariables false
set_option maxHeartbeats 8000000
set_option maxRecDepth 20000
/- loop.example/g01201/impl.withFrame -/
def impl_withFrame_r0 : List SOper := [
 ⟨some 6, none, .mov (.const (.slice none 0 0)), 0⟩]
def impl_withFrame_r1 (i_impl_changeBytes : FuncId) : List SOper := [
 ⟨some 10, none, .mov (.tmp 1), 0⟩,
 ⟨some 11, none, .mov (.tmp 2), 0⟩,
 ⟨some 12, none, .call (.func i_impl_changeBytes) [(.tmp 10), (.tmp 11)], 3⟩,
 ⟨some 7, none, .mov (.tmp 12), 7⟩]
def impl_withFrame_r2 (i_impl_lowBytes : FuncId) : List SOper := [
 ⟨some 13, none, .mov (.tmp 0), 0⟩,
 ⟨some 14, none, .mov (.tmp 7), 0⟩,
 ⟨some 15, none, .len true (.tmp 14), 2⟩,
 ⟨some 16, none, .call (.func i_impl_lowBytes) [(.tmp 15), (.const (.int .i64 2))], 6⟩,
 ⟨some 17, none, .append 1 1 (.tmp 13) (.tmp 16), 15⟩,
 ⟨some 18, none, .mov (.tmp 7), 0⟩,
 ⟨some 19, none, .append 1 1 (.tmp 17) (.tmp 18), 63⟩,
 ⟨some 0, none, .mov (.tmp 19), 127⟩]
def impl_withFrame_r3 (i_impl_CheckOf : FuncId) : List SOper := [
 ⟨some 21, none, .mov (.tmp 0), 0⟩,
 ⟨some 22, none, .conv .toStr (.tmp 21), 1⟩,
 ⟨some 23, none, .call (.func i_impl_CheckOf) [(.const (.int .i64 0)), (.tmp 22)], 3⟩,
 ⟨some 20, none, .mov (.tmp 23), 7⟩,
 ⟨some 24, none, .extract (.tmp 20) 0, 15⟩,
 ⟨some 25, none, .extract (.tmp 20) 1, 15⟩,
 ⟨some 8, none, .mov (.tmp 24), 31⟩,
 ⟨some 9, none, .mov (.tmp 25), 127⟩]
def impl_withFrame_r4 (i_impl_lowBytes : FuncId) : List SOper := [
 ⟨some 26, none, .mov (.tmp 0), 0⟩,
 ⟨some 27, none, .mov (.tmp 8), 0⟩,
 ⟨some 28, none, .call (.func i_impl_lowBytes) [(.tmp 27), (.const (.int .i64 2))], 2⟩,
 ⟨some 29, none, .append 1 1 (.tmp 26) (.tmp 28), 7⟩,
 ⟨some 6, none, .mov (.tmp 29), 15⟩]
def impl_withFrame (i_impl_changeBytes i_impl_lowBytes i_impl_CheckOf : FuncId) : SFunc := ⟨30, [.tmp 6], (.kp [0,1,2] (.seq (.region impl_withFrame_r0 false) (.kp [0,1,2] (.seq (.region (impl_withFrame_r1 i_impl_changeBytes) false) (.kp [0,7] (.seq (.region (impl_withFrame_r2 i_impl_lowBytes) false) (.kp [0] (.seq (.region (impl_withFrame_r3 i_impl_CheckOf) false) (.kp [0,8] (.seq (.region (impl_withFrame_r4 i_impl_lowBytes) false) .ret))))))))))⟩

/- loop.example/g01201/spec.l10Frame -/
def spec_l10Frame_r0 : List SOper := [
 ⟨some 6, none, .mov (.const (.string ⟨#[]⟩)), 0⟩]
def spec_l10Frame_r1 (i_spec_l10Change : FuncId) : List SOper := [
 ⟨some 9, none, .mov (.tmp 1), 0⟩,
 ⟨some 10, none, .mov (.tmp 2), 0⟩,
 ⟨some 11, none, .call (.func i_spec_l10Change) [(.tmp 9), (.tmp 10)], 3⟩,
 ⟨some 7, none, .mov (.tmp 11), 7⟩]
def spec_l10Frame_r2 (i_spec_l10Word : FuncId) : List SOper := [
 ⟨some 12, none, .mov (.tmp 7), 0⟩,
 ⟨some 13, none, .len true (.tmp 12), 1⟩,
 ⟨some 14, none, .call (.func i_spec_l10Word) [(.tmp 13), (.const (.int .i64 2))], 3⟩,
 ⟨some 15, none, .mov (.tmp 7), 0⟩,
 ⟨some 16, none, .bin .add .other (.tmp 14) (.tmp 15), 15⟩,
 ⟨some 8, none, .mov (.tmp 16), 31⟩]
def spec_l10Frame_r3 (i_spec_l01Check i_spec_l10Word : FuncId) : List SOper := [
 ⟨some 17, none, .mov (.tmp 8), 0⟩,
 ⟨some 18, none, .mov (.tmp 0), 0⟩,
 ⟨some 19, none, .mov (.tmp 8), 0⟩,
 ⟨some 20, none, .bin .add .other (.tmp 18) (.tmp 19), 6⟩,
 ⟨some 21, none, .call (.func i_spec_l01Check) [(.const (.int .i64 0)), (.tmp 20)], 14⟩,
 ⟨some 22, none, .call (.func i_spec_l10Word) [(.tmp 21), (.const (.int .i64 2))], 30⟩,
 ⟨some 23, none, .bin .add .other (.tmp 17) (.tmp 22), 63⟩,
 ⟨some 6, none, .mov (.tmp 23), 127⟩]
def spec_l10Frame (i_spec_l10Change i_spec_l10Word i_spec_l01Check : FuncId) : SFunc := ⟨24, [.tmp 6], (.kp [0,1,2] (.seq (.region spec_l10Frame_r0 false) (.kp [0,1,2] (.seq (.region (spec_l10Frame_r1 i_spec_l10Change) false) (.kp [0,7] (.seq (.region (spec_l10Frame_r2 i_spec_l10Word) false) (.kp [0,8] (.seq (.region (spec_l10Frame_r3 i_spec_l01Check i_spec_l10Word) false) .ret))))))))⟩


theorem chg_len (x : Nat → Nat) (n : Nat) : ∀ f a, (chg x n f a).length ≤ 6 * (n - a)
  | 0, a => by simp [chg]
  | f + 1, a => by
    by_cases h : a < n
    · obtain ⟨Z, hZ⟩ : ∃ Z, runZ (isZ x) n 255 a = Z := ⟨_, rfl⟩
      obtain ⟨O, hO⟩ : ∃ O, runZ (notZ x) n 255 (a + Z) = O := ⟨_, rfl⟩
      have hp := run_progress x h
      have b1 := runZ_le (isZ x) n 255 a
      have b2 := runZ_le (notZ x) n 255 (a + Z)
      rw [hZ, hO] at hp
      rw [hZ] at b1
      rw [hO] at b2
      rw [chg_step h hZ hO]
      have := chg_len x n f (a + Z + O)
      simp only [List.length_append, List.length_cons, words_length]
      omega
    · rw [chg_end h]; simp
/-- The bytes of the change of rows. -/
def chB (last list : List Nat) : List UInt8 := chg (xb last list) last.length (last.length + 1) 0
theorem chB_len (last list : List Nat) : (chB last list).length ≤ 6 * last.length := chg_len _ _ _ _
/-- What stands ahead of the check. -/
def frA (last list : List Nat) : List UInt8 := lowB (chB last list).length 2 ++ chB last list
/-- The bytes of a frame behind others. -/
def frameB (out : List UInt8) (last list : List Nat) : List UInt8 := frA last list ++ lowB (ckS 0 (out ++ frA last list)) 2
theorem frA_len (last list : List Nat) : (frA last list).length = (chB last list).length + 2 := by unfold frA; rw [List.length_append, lowB_length]; omega
theorem frameB_len (out : List UInt8) (last list : List Nat) : (frameB out last list).length ≤ 6 * last.length + 4 := by
  unfold frameB
  have := chB_len last list
  rw [List.length_append, lowB_length, frA_len]
  omega
/-- A row that stood there gets more bytes. -/
theorem EvR.apW {C : Ctab} {F : Frame} {σ l : Heap} {Q} {d n b m k : Nat} {rest : List SOper} {x y : Operand} {cells ys : List Value} {yv : Value} (h2 : σ[b]? = some ⟨cells, 1, true⟩) (h3 : cells.length = m) (h1 : eval F x = .slice (some ⟨b, 0, none⟩) m m) (h4 : eval F y = yv)
    (hx : appCells (σ ++ l) 1 yv = some (ys, k)) (hm : m + k ≤ 1048576) (ha : ys.all cellOk = true) (h : EvR C rest ((d, .slice (some ⟨b, 0, none⟩) (m + k) (m + k)) :: F) (σ.set b ⟨cells ++ ys, 1, true⟩ ++ l) Q) :
    EvR C (⟨some d, none, .append 1 1 x y, n⟩ :: rest) F (σ ++ l) Q := by
  have hlt := (List.getElem?_eq_some_iff.1 h2).1
  have hrow : rowAt (σ ++ l) 1 ⟨b, 0, none⟩ m = some ⟨cells, 1, true⟩ := rowAt_mk (by rw [List.getElem?_append_left hlt]; exact h2) rfl (by simp [h3]) (by omega)
  have h44 : (2 : Nat) ^ 44 = 17592186044416 := by decide
  refine EvR.opS (σ' := σ.set b ⟨cells ++ ys, 1, true⟩ ++ l) ?_ h
  simp only [evOp, h1, h4, aAppend, hx, hrow]
  rw [if_pos ⟨trivial, trivial, trivial, by omega, by omega, ha⟩, List.set_append_left _ _ hlt]
theorem appCells_str {σ : Heap} (bs : List UInt8) : appCells σ 1 (.string (str bs)) = some (b8s bs, bs.length) := by
  simp only [appCells, if_pos]
  rfl
def impl_withFrame_ok (c : Contract) : Prop := ∀ (σ : Heap) (b : Nat) (out : List UInt8) (va vb : Value) (last list : List Nat), σ[b]? = some ⟨b8s out, 1, true⟩ → Row σ 1 va last.length (f32s last) → Row σ 1 vb list.length (f32s list) → list.length = last.length → last.length ≤ 768 → lows last → lows list → out.length ≤ 200000 →
    Ret c [slV b out.length, va, vb] σ fun v σ' => v = slV b (out ++ frameB out last list).length ∧ ∃ t, σ' = σ.set b ⟨b8s (out ++ frameB out last list), 1, true⟩ ++ t
theorem impl_withFrame_law {C : Ctab} {i1 i2 i3 : FuncId} {c1 c2 c3 : Contract} (h1 : Has C i1 c1 impl_changeBytes_ok) (h2 : Has C i2 c2 impl_lowBytes_ok) (h3 : Has C i3 c3 impl_CheckOf_ok) : impl_withFrame_ok (bodyC C (impl_withFrame i1 i2 i3) false) := by
  intro σ b out va vb last list hb0 r1 r2 hll hn l1 l2 ho
  have k1 := r1.ok
  have k2 := r2.ok
  obtain ⟨ch, hch⟩ : ∃ ch, ch = chB last list := ⟨_, rfl⟩
  have hcl : ch.length ≤ 4608 := by have := chB_len last list; rw [← hch] at this; omega
  have hfa : frA last list = lowB ch.length 2 ++ ch := by unfold frA; rw [hch]
  unfold frameB
  rw [hfa]
  have hlw := lowB_length ch.length 2
  refine ret_bx rfl rfl ?_
  repeat' (first | refine ff ?_ | ((first | refine sR ?_ ?_ | refine sC ?_ ?_) <;> (intro hb; (try rw [hb]); (try simp only [bb] at hb); (try (exfalso; first | omega | exact hb trivial)))) | (apply endS trivial; rotate_left; (· exact eva); (· rfl); try refine ⟨?_, rfl⟩) | fail)
  (apply EvR.aCall h1.at_; (· exact eva); (· exact  h1.ok _ va vb last list (r1.ext _) (r2.ext _) hll hn l1 l2); (rintro _ _ ⟨rfl, rfl⟩; refine EvR.nrm ?_))
  rw [show chg (xb last list) last.length (last.length + 1) 0 = ch from hch.symm]
  repeat' (first | refine ff ?_ | ((first | refine sR ?_ ?_ | refine sC ?_ ?_) <;> (intro hb; (try rw [hb]); (try simp only [bb] at hb); (try (exfalso; first | omega | exact hb trivial)))) | (apply endS trivial; rotate_left; (· exact eva); (· rfl); try refine ⟨?_, rfl⟩) | fail)
  (apply EvR.aCall h2.at_; (· exact eva); (· exact  h2.ok _ ch.length 2 (by omega) (by omega)); (rintro _ _ ⟨rfl, rfl⟩; refine EvR.nrm ?_))
  repeat' (first | refine ff ?_ | ((first | refine sR ?_ ?_ | refine sC ?_ ?_) <;> (intro hb; (try rw [hb]); (try simp only [bb] at hb); (try (exfalso; first | omega | exact hb trivial)))) | (apply endS trivial; rotate_left; (· exact eva); (· rfl); try refine ⟨?_, rfl⟩) | fail)
  have hbl := (List.getElem?_eq_some_iff.1 hb0).1
  refine EvR.apW (b := b) (m := out.length) (k := 2) (ys := b8s (lowB ch.length 2)) hb0 (b8s_length _) rfl rfl (Row.own rfl (by omega) (by rw [b8s_length, hlw])).app (by omega) (b8s_ok _) ?_
  rw [b8s_append]
  obtain ⟨σ1, hs1⟩ : ∃ s, s = σ.set b (⟨b8s (out ++ lowB ch.length 2), 1, true⟩ : AObj) := ⟨_, rfl⟩
  have hb1 : σ1[b]? = some ⟨b8s (out ++ lowB ch.length 2), 1, true⟩ := by rw [hs1, List.getElem?_set_self hbl]
  rw [← hs1]
  repeat' (first | refine ff ?_ | ((first | refine sR ?_ ?_ | refine sC ?_ ?_) <;> (intro hb; (try rw [hb]); (try simp only [bb] at hb); (try (exfalso; first | omega | exact hb trivial)))) | (apply endS trivial; rotate_left; (· exact eva); (· rfl); try refine ⟨?_, rfl⟩) | fail)
  refine EvR.apW (b := b) (m := out.length + 2) (k := ch.length) (ys := b8s ch) hb1 (by rw [b8s_length, List.length_append, hlw]) rfl rfl (appCells_str ch) (by omega) (b8s_ok _) ?_
  rw [b8s_append, List.append_assoc]
  obtain ⟨o2, ho2⟩ : ∃ o, o = out ++ (lowB ch.length 2 ++ ch) := ⟨_, rfl⟩
  have hol : o2.length = out.length + 2 + ch.length := by rw [ho2, List.length_append, List.length_append, hlw]; omega
  rw [← ho2]
  obtain ⟨σ2, hs2⟩ : ∃ s, s = σ1.set b (⟨b8s o2, 1, true⟩ : AObj) := ⟨_, rfl⟩
  have hbl1 := (List.getElem?_eq_some_iff.1 hb1).1
  have hb2 : σ2[b]? = some ⟨b8s o2, 1, true⟩ := by rw [hs2, List.getElem?_set_self hbl1]
  have hbl2 := (List.getElem?_eq_some_iff.1 hb2).1
  rw [← hs2, ← hol]
  have hR2 : Row σ2 1 (.slice (some ⟨b, 0, none⟩) o2.length o2.length) o2.length (b8s o2) := Row.whole hb2 (by omega) (by rw [b8s_length]; omega)
  have hR2' : Row σ2 1 (slV b o2.length) o2.length (b8s o2) := hR2
  repeat' (first | refine ff ?_ | ((first | refine sR ?_ ?_ | refine sC ?_ ?_) <;> (intro hb; (try rw [hb]); (try simp only [bb] at hb); (try (exfalso; first | omega | exact hb trivial)))) | (apply endS trivial; rotate_left; (· exact eva); (· rfl); try refine ⟨?_, rfl⟩) | fail)
  (apply EvR.aCall h3.at_; (· exact eva); (· exact  h3.ok _ o2 (by omega)); (rintro _ _ ⟨rfl, rfl⟩; refine EvR.nrm ?_))
  have h65 := ckS_lt o2 0 (by omega)
  have hl2 := lowB_length (ckS 0 o2) 2
  rw [show out ++ (lowB ch.length 2 ++ ch ++ lowB (ckS 0 o2) 2) = o2 ++ lowB (ckS 0 o2) 2 from by rw [ho2]; simp only [List.append_assoc]]
  generalize ckS 0 o2 = ck at *
  repeat' (first | refine ff ?_ | ((first | refine sR ?_ ?_ | refine sC ?_ ?_) <;> (intro hb; (try rw [hb]); (try simp only [bb] at hb); (try (exfalso; first | omega | exact hb trivial)))) | (apply endS trivial; rotate_left; (· exact eva); (· rfl); try refine ⟨?_, rfl⟩) | fail)
  (apply EvR.aCall h2.at_; (· exact eva); (· exact  h2.ok _ ck 2 (by omega) (by omega)); (rintro _ _ ⟨rfl, rfl⟩; refine EvR.nrm ?_))
  repeat' (first | refine ff ?_ | ((first | refine sR ?_ ?_ | refine sC ?_ ?_) <;> (intro hb; (try rw [hb]); (try simp only [bb] at hb); (try (exfalso; first | omega | exact hb trivial)))) | (apply endS trivial; rotate_left; (· exact eva); (· rfl); try refine ⟨?_, rfl⟩) | fail)
  refine EvR.apW (b := b) (m := o2.length) (k := 2) (ys := b8s (lowB ck 2)) hb2 (b8s_length _) rfl rfl (Row.own rfl (by omega) (by rw [b8s_length, hl2])).app (by omega) (b8s_ok _) ?_
  rw [b8s_append]
  repeat' (first | refine ff ?_ | ((first | refine sR ?_ ?_ | refine sC ?_ ?_) <;> (intro hb; (try rw [hb]); (try simp only [bb] at hb); (try (exfalso; first | omega | exact hb trivial)))) | (apply endS trivial; rotate_left; (· exact eva); (· rfl); try refine ⟨?_, rfl⟩) | fail)
  apply atEnd_ret
  · exact eva
  · exact ⟨by rw [List.length_append, hl2], _, by rw [hs2, hs1, List.set_set, List.set_set]⟩
def spec_l10Frame_ok (c : Contract) : Prop := ∀ (σ : Heap) (out : List UInt8) (va vb : Value) (last list : List Nat), Row σ 1 va last.length (f32s last) → Row σ 1 vb list.length (f32s list) → list.length = last.length → last.length ≤ 768 → lows last → lows list → out.length ≤ 200000 →
    Ret c [.string (str out), va, vb] σ fun v σ' => v = .string (str (frameB out last list)) ∧ σ' = σ
theorem spec_l10Frame_law {C : Ctab} {i1 i2 i3 : FuncId} {c1 c2 c3 : Contract} (h1 : Has C i1 c1 spec_l10Change_ok) (h2 : Has C i2 c2 spec_l10Word_ok) (h3 : Has C i3 c3 spec_l01Check_ok) : spec_l10Frame_ok (gcC C (spec_l10Frame i1 i2 i3) true) := by
  intro σ out va vb last list r1 r2 hll hn l1 l2 ho
  have k1 := r1.ok
  have k2 := r2.ok
  obtain ⟨ch, hch⟩ : ∃ ch, ch = chB last list := ⟨_, rfl⟩
  have hcl : ch.length ≤ 4608 := by have := chB_len last list; rw [← hch] at this; omega
  have hfa : frA last list = lowB ch.length 2 ++ ch := by unfold frA; rw [hch]
  unfold frameB
  rw [hfa]
  have hlw := lowB_length ch.length 2
  refine ret_gc rfl rfl ?_
  repeat' (first | refine ff ?_ | ((first | refine sR ?_ ?_ | refine sC ?_ ?_) <;> (intro hb; (try rw [hb]); (try simp only [bb] at hb); (try (exfalso; first | omega | exact hb trivial)))) | (apply endS trivial; rotate_left; (· exact eva); (· rfl); try refine ⟨?_, rfl⟩) | fail)
  (apply EvR.aCall h1.at_; (· exact eva); (· exact  h1.ok _ va vb last list (r1.ext _) (r2.ext _) hll hn l1 l2); (rintro _ _ ⟨rfl, rfl⟩; refine EvR.nrm ?_))
  rw [show chg (xb last list) last.length (last.length + 1) 0 = ch from hch.symm]
  repeat' (first | refine ff ?_ | ((first | refine sR ?_ ?_ | refine sC ?_ ?_) <;> (intro hb; (try rw [hb]); (try simp only [bb] at hb); (try (exfalso; first | omega | exact hb trivial)))) | (apply endS trivial; rotate_left; (· exact eva); (· rfl); try refine ⟨?_, rfl⟩) | fail)
  (apply EvR.aCall h2.at_; (· exact eva); (· exact  h2.ok _ ch.length 2 (by omega) (by omega)); (rintro _ _ ⟨rfl, rfl⟩; refine EvR.nrm ?_))
  repeat' (first | refine ff ?_ | ((first | refine sR ?_ ?_ | refine sC ?_ ?_) <;> (intro hb; (try rw [hb]); (try simp only [bb] at hb); (try (exfalso; first | omega | exact hb trivial)))) | (apply endS trivial; rotate_left; (· exact eva); (· rfl); try refine ⟨?_, rfl⟩) | fail)
  have hfl : (out ++ (lowB ch.length 2 ++ ch)).length ≤ 1048576 := by simp only [List.length_append]; omega
  (apply EvR.aCall h3.at_; (· exact eva); (· exact  h3.ok _ (out ++ (lowB ch.length 2 ++ ch)) hfl); (rintro _ _ ⟨rfl, rfl⟩; refine EvR.nrm ?_))
  have h65 := ckS_lt (out ++ (lowB ch.length 2 ++ ch)) 0 (by omega)
  have hl2 := lowB_length (ckS 0 (out ++ (lowB ch.length 2 ++ ch))) 2
  generalize ckS 0 (out ++ (lowB ch.length 2 ++ ch)) = ck at *
  repeat' (first | refine ff ?_ | ((first | refine sR ?_ ?_ | refine sC ?_ ?_) <;> (intro hb; (try rw [hb]); (try simp only [bb] at hb); (try (exfalso; first | omega | exact hb trivial)))) | (apply endS trivial; rotate_left; (· exact eva); (· rfl); try refine ⟨?_, rfl⟩) | fail)
  (apply EvR.aCall h2.at_; (· exact eva); (· exact  h2.ok _ ck 2 (by omega) (by omega)); (rintro _ _ ⟨rfl, rfl⟩; refine EvR.nrm ?_))
  repeat' (first | refine ff ?_ | ((first | refine sR ?_ ?_ | refine sC ?_ ?_) <;> (intro hb; (try rw [hb]); (try simp only [bb] at hb); (try (exfalso; first | omega | exact hb trivial)))) | (apply endS trivial; rotate_left; (· exact eva); (· rfl); try refine ⟨?_, rfl⟩) | fail)
  all_goals (try rfl)
end Go.Abs

