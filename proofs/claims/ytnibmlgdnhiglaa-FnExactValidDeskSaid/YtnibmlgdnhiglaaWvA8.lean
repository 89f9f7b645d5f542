/- The abstract machine: the other operations that write no memory. No condition. -/
import Derived.Test.YtnibmlgdnhiglaaWvA7
namespace Go.Abs

theorem lrel_take {β : Inj} {σ : Heap} {xs cs : List Value} (h : LRel β σ xs cs) (n : Nat) : LRel β σ (xs.take n) (cs.take n) := by
  refine ⟨by simp [h.1], fun i v c hv hc => ?_⟩
  rw [List.getElem?_take] at hv hc
  split at hv
  · rw [if_pos (by assumption)] at hc; exact h.2 i v c hv hc
  · cases hv

theorem lrel_drop {β : Inj} {σ : Heap} {xs cs : List Value} (h : LRel β σ xs cs) (n : Nat) : LRel β σ (xs.drop n) (cs.drop n) := by
  refine ⟨by simp [h.1], fun i v c hv hc => ?_⟩
  rw [List.getElem?_drop] at hv hc
  exact h.2 _ v c hv hc

theorem lrel_append {β : Inj} {σ : Heap} {xs cs ys ds : List Value} (h : LRel β σ xs cs) (k : LRel β σ ys ds) : LRel β σ (xs ++ ys) (cs ++ ds) := by
  refine ⟨by simp [h.1, k.1], fun i v c hv hc => ?_⟩
  rw [List.getElem?_append] at hv hc
  rw [← h.1] at hc
  split at hv
  · rw [if_pos (by assumption)] at hc; exact h.2 i v c hv hc
  · rw [if_neg (by assumption)] at hc; exact k.2 _ v c hv hc

theorem lrel_splice {β : Inj} {σ : Heap} {xs cs new new' : List Value} (h : LRel β σ xs cs) (k : LRel β σ new new') (off : Nat) : LRel β σ (splice xs off new) (splice cs off new') := by
  unfold splice
  rw [k.1]
  exact lrel_append (lrel_append (lrel_take h _) k) (lrel_drop h _)

theorem lrel_const {β : Inj} {σ : Heap} {xs : List Value} (h : xs.all constOk = true) : LRel β σ xs xs :=
  ⟨rfl, fun _ v c hv hc => by rw [hv] at hc; cases hc; exact vrel_const ((List.all_eq_true.1 h) _ (List.mem_of_getElem? hv))⟩

theorem lrel_agg {β : Inj} {σ : Heap} {xs cs : List Value} (h : LRel β σ xs cs) : VRel β σ (.agg xs.toArray) (.agg cs.toArray) :=
  .agg _ _ (by simpa using h.1) fun i v v' hv hv' => h.2 i v v' (by simpa using hv) (by simpa using hv')

theorem agg_lrel {β : Inj} {σ : Heap} {x x' : Array Value} (hx : x.size = x'.size) (h1 : ∀ (i : Nat) (v v' : Value), x[i]? = some v → x'[i]? = some v' → VRel β σ v v') : LRel β σ x.toList x'.toList :=
  ⟨by simpa using hx, fun i v c hv hc => h1 i v c (by simpa using hv) (by simpa using hc)⟩

theorem lrel_get {β : Inj} {σ : Heap} {xs cs : List Value} (h : LRel β σ xs cs) {i : Nat} {v : Value} (hv : xs[i]? = some v) : ∃ c, cs[i]? = some c ∧ VRel β σ v c := by
  have hi : i < xs.length := by
    rcases Nat.lt_or_ge i xs.length with h' | h'
    · exact h'
    · rw [List.getElem?_eq_none h'] at hv; cases hv
  have hi' : i < cs.length := by rw [← h.1]; exact hi
  exact ⟨cs[i], by simp [hi'], h.2 i v _ hv (by simp [hi'])⟩

theorem extract_eq (y : Array Value) (off n : Nat) : y.extract off (off + n) = ((y.toList.drop off).take n).toArray := by
  apply Array.toList_inj.1
  rw [Array.toList_extract, List.extract_eq_take_drop, Nat.add_sub_cancel_left]

section
variable {P : Program} {β : Inj} {σ : Heap} {w : World} {o : Oper} {F : Frame} {a : Act} {v : Value}

theorem does_un (hok : InjOk β σ w) (hF : FOk β σ F a.tmps) {op : UnOp} {t : TypeId} {x : Operand} (ho : o.op = .unOp op t x) (h : aUn op (eval F x) = some v) : Does P ((execOp a.eval o).run P w) (Good β σ w v σ) := by
  have hx := eval_sound hF x
  generalize hcx : a.eval x = cx at hx
  unfold aUn at h
  split at h
  · rename_i b he
    cases h; rw [he] at hx; cases hx
    exact .pure_ (c := .bool (!b)) (w' := w) hok (by simp [execOp, ho, hcx, Op.unary]) (.bool _) (.inl rfl)
  · rename_i k n he
    cases h; rw [he] at hx; cases hx
    exact .pure_ (c := .int k (k.wrap (0 - n))) (w' := w) hok (by simp [execOp, ho, hcx, Op.unary, Op.intArith]) (.int _ _) (.inl rfl)
  · rename_i k n he
    cases h; rw [he] at hx
    cases hx with
    | float f =>
      rename_i b
      refine .pure_ (c := .float k (Op.negFloat k b)) (w' := w) hok (by simp [execOp, ho, hcx, Op.unary]) (.float ?_) (.inl rfl)
      rcases f with rfl | ⟨f1, f2⟩
      · exact .inl rfl
      · exact .inr ⟨neg_nan f1, neg_nan f2⟩
  · rename_i k n he
    cases h; rw [he] at hx; cases hx
    exact .pure_ (w' := w) hok (by simp only [execOp, ho, hcx, Op.unary, Op.intBits, Sem.run_bind, Sem.run_pure, Result.andThen_ok]) (.int _ _) (.inl rfl)
  · cases h

theorem f2f_sound {s k : FloatKind} {b b' r : Nat} (hr : FRel s b b') (h : f2f s b k = some r) : ∃ c w', (Conv.floatToFloat s b' k).run P w = .ok (.float k c) w' ∧ FRel k r c ∧ Drew w w' := by
  unfold f2f at h
  by_cases hsk : s = k
  · subst hsk
    refine ⟨b', w, by simp [Conv.floatToFloat], ?_, .inl rfl⟩
    split at h
    · cases h; simpa using hr
    · unfold floatToFloatBits at h; rw [if_pos rfl] at h; cases h; exact hr
  · split at h
    · rename_i hn
      simp only [Option.some.injEq] at h
      subst h
      have hn' : isNaN s b' = true := by
        rcases hr with rfl | ⟨_, h2⟩
        · exact hn
        · exact h2
      obtain ⟨sg, t, hd⟩ := decode_nan hn'
      refine ⟨(Question.nanConv k b').cut (w.tape w.drawn (.nanConv k b')), w.drew, ?_, .inr ⟨isNaN_nanOf k, cut_nanConv _ _ _⟩, .inr rfl⟩
      simp [Conv.floatToFloat, hsk, hd, Question.forced]
    · rename_i hn
      have hb : b = b' := by
        rcases hr with h' | ⟨h1, _⟩
        · exact h'
        · exact absurd h1 hn
      subst hb
      unfold floatToFloatBits at h
      rw [if_neg hsk] at h
      split at h
      · cases h
      · rename_i sg he
        cases h
        exact ⟨_, w, by simp [Conv.floatToFloat, hsk, he], .inl rfl, .inl rfl⟩
      · rename_i sg m e he
        split at h
        · cases h
        · rename_i hinf
          cases h
          exact ⟨_, w, by simp [Conv.floatToFloat, hsk, he, hinf], .inl rfl, .inl rfl⟩

theorem f2i_sound {s : FloatKind} {k : IntKind} {b b' : Nat} {n : Int} (hr : FRel s b b') (h : floatToIntVal s b k = some n) : (Conv.floatToInt s b' k).run P w = .ok (.int k n) w := by
  have hb : b = b' := by
    rcases hr with h' | ⟨h1, _⟩
    · exact h'
    · obtain ⟨sg, t, hd⟩ := decode_nan h1
      unfold floatToIntVal at h
      rw [hd] at h
      simp [Ieee.Datum.toInt, Ieee.Datum.integral] at h
  subst hb
  unfold floatToIntVal at h
  unfold Conv.floatToInt
  split at h
  · rename_i m hm
    split at h
    · rename_i hb
      cases h
      simp [hm, hb.1, hb.2]
    · cases h
  · cases h

theorem does_field1 (hok : InjOk β σ w) (hF : FOk β σ F a.tmps) {t : TypeId} {x : Operand} {f : Nat} {fs : Array Field} {fd : Field} (ho : o.op = .field t x f) (ht : P.underlying t = some (.struct fs)) (hf : fs[f]? = some fd) (hag : aggT P fd.type = some false)
    (h : aField1 fd.offset (eval F x) = some v) : Does P ((execOp a.eval o).run P w) (Good β σ w v σ) := by
  have hx := eval_sound hF x
  generalize hcx : a.eval x = cx at hx
  unfold aField1 at h
  split at h
  · rename_i cs he
    rw [he] at hx
    cases hx with
    | agg y y' hy h1 =>
      obtain ⟨c, hc, hv⟩ := lrel_get (agg_lrel hy h1) h
      refine .pure_ (c := c) (w' := w) hok ?_ hv (.inl rfl)
      have hc' : y'[fd.offset]? = some c := by simpa using hc
      simp [execOp, ho, hcx, Instr.field, run_underlying ht, hf, asAgg, part, run_isAgg hag, hc']
  · cases h

theorem does_fieldN (hok : InjOk β σ w) (hF : FOk β σ F a.tmps) {t : TypeId} {x : Operand} {f n : Nat} {fs : Array Field} {fd : Field} (ho : o.op = .field t x f) (ht : P.underlying t = some (.struct fs)) (hf : fs[f]? = some fd) (hag : aggT P fd.type = some true)
    (hn : sizeOfT P fd.type = some n) (h : aFieldN fd.offset n (eval F x) = some v) : Does P ((execOp a.eval o).run P w) (Good β σ w v σ) := by
  have hx := eval_sound hF x
  generalize hcx : a.eval x = cx at hx
  unfold aFieldN at h
  split at h
  · rename_i cs he
    rw [he] at hx
    split at h
    · cases h
      cases hx with
      | agg y y' hy h1 =>
        have hl := lrel_agg (lrel_take (lrel_drop (agg_lrel hy h1) fd.offset) n)
        refine .pure_ (w' := w) hok ?_ hl (.inl rfl)
        simp [execOp, ho, hcx, Instr.field, run_underlying ht, hf, asAgg, part, run_isAgg hag, run_size hn, extract_eq]
    · cases h
  · cases h

theorem does_fieldAddr (hok : InjOk β σ w) (hF : FOk β σ F a.tmps) {t : TypeId} {x : Operand} {f n : Nat} {fs : Array Field} {fd : Field} (ho : o.op = .fieldAddr t x f) (ht : P.underlying t = some (.struct fs)) (hf : fs[f]? = some fd)
    (hn : sizeOfT P fd.type = some (n + 1)) (h : aFieldAddr fd.offset (eval F x) = some v) : Does P ((execOp a.eval o).run P w) (Good β σ w v σ) := by
  have hx := eval_sound hF x
  generalize hcx : a.eval x = cx at hx
  unfold aFieldAddr at h
  split at h
  · rename_i p he
    cases h
    rw [he] at hx
    cases hx with
    | ptr p obj hσ c hk hh =>
      refine .pure_ (c := .pointer (some (c.add fd.offset))) (w' := w) hok ?_ ?_ (.inl rfl)
      · simp [execOp, ho, hcx, Instr.fieldAt, run_underlying ht, hf, Instr.sureAddr, fieldPlace, run_size hn]
      · refine .ptr ⟨p.block, p.off + fd.offset, p.spot⟩ obj hσ _ hk fun hp => ?_
        obtain ⟨s, hs, rfl⟩ := hh hp
        refine ⟨s, hs, ?_⟩
        unfold Addr.add
        split
        · rename_i h0; simp [h0]
        · simp [Nat.add_assoc]
  · cases h

theorem add_at (b o n : Nat) : (⟨b, o, none⟩ : Addr).add n = ⟨b, o + n, none⟩ := by
  unfold Addr.add; split
  · rename_i h0; subst h0; rfl
  · rfl

theorem rowAt_some {esz cap : Nat} {p : Addr} {obj : AObj} (h : rowAt σ esz p cap = some obj) : σ[p.block]? = some obj ∧ obj.esz = esz ∧ obj.cells.length = p.off + cap * esz ∧ esz ≠ 0 := by
  unfold rowAt at h
  split at h
  · split at h
    · rename_i hc
      cases h
      simp at hc
      exact ⟨by assumption, hc.1.1, hc.1.2, fun h0 => by rw [h0] at hc; exact absurd hc.2 (by decide)⟩
    · cases h
  · cases h

theorem does_indexAddrS (hok : InjOk β σ w) (hF : FOk β σ F a.tmps) {t e : TypeId} {x i : Operand} {esz : Nat} (ho : o.op = .indexAddr t x i) (ht : P.underlying t = some (.slice e)) (hn : sizeOfT P e = some esz)
    (h : aIndexAddrS σ esz (eval F x) (eval F i) = some v) : Does P ((execOp a.eval o).run P w) (Good β σ w v σ) := by
  have hx := eval_sound hF x
  have hi := eval_sound hF i
  generalize hcx : a.eval x = cx at hx
  generalize hci : a.eval i = ci at hi
  unfold aIndexAddrS at h
  split at h
  · rename_i p len cap k j he1 he2
    rw [he1] at hx; rw [he2] at hi
    split at h
    · rename_i obj hrow
      split at h
      · rename_i hb
        cases h
        obtain ⟨hσ, hesz, hlen, hne⟩ := rowAt_some hrow
        cases hi
        cases hx with
        | sl p obj' hσ' len cap c cap' hsz hle hs =>
          rw [hσ] at hσ'; cases hσ'
          have hcap : cap ≠ 0 := by omega
          obtain ⟨s, hs1, rfl, _⟩ := hs (by rw [hesz]; exact hne) (by rw [hesz]; exact hlen) (.inl hcap)
          refine .pure_ (c := .pointer (some ((⟨s.blk, s.base + p.off, none⟩ : Addr).add (j.toNat * esz)))) (w' := w) hok ?_ ?_ (.inl rfl)
          · have h1 : 0 ≤ j := hb.1
            have h2 : j < (len : Int) := hb.2.1
            simp [execOp, ho, hcx, hci, Instr.indexAt, run_underlying ht, asIntOf, h1, h2, run_size hn]
          · rw [add_at]
            refine .ptr ⟨p.block, p.off + j.toNat * esz, some (p.off + cap * esz)⟩ obj hσ _ (fun n hn => ?_) fun _ => ⟨s, hs1, ?_⟩
            · simp at hn; omega
            · simp [Nat.add_assoc]
      · cases h
    · cases h
  · cases h

theorem does_indexAddrA (hok : InjOk β σ w) (hF : FOk β σ F a.tmps) {t e : TypeId} {x i : Operand} {len esz : Nat} (ho : o.op = .indexAddr t x i) (ht : P.underlying t = some (.array len e)) (hn : sizeOfT P e = some esz)
    (h : aIndexAddrA len esz (eval F x) (eval F i) = some v) : Does P ((execOp a.eval o).run P w) (Good β σ w v σ) := by
  have hx := eval_sound hF x
  have hi := eval_sound hF i
  generalize hcx : a.eval x = cx at hx
  generalize hci : a.eval i = ci at hi
  unfold aIndexAddrA at h
  split at h
  · rename_i p k j he1 he2
    rw [he1] at hx; rw [he2] at hi
    split at h
    · rename_i hb
      cases h
      cases hi
      cases hx with
      | ptr p obj hσ c hk hh =>
        refine .pure_ (c := .pointer (some (c.add (j.toNat * esz)))) (w' := w) hok ?_ ?_ (.inl rfl)
        · simp [execOp, ho, hcx, hci, Instr.indexAt, run_underlying ht, asIntOf, Instr.sureAddr, hb.1, hb.2, run_size hn]
        · refine .ptr ⟨p.block, p.off + j.toNat * esz, p.spot⟩ obj hσ _ hk fun hp => ?_
          obtain ⟨s, hs, rfl⟩ := hh hp
          exact ⟨s, hs, by rw [add_at]; simp [Nat.add_assoc]⟩
    · cases h
  · cases h

theorem does_indexStr (hok : InjOk β σ w) (hF : FOk β σ F a.tmps) {t : TypeId} {x i : Operand} (ho : o.op = .index t x i) (ht : P.underlying t = some .string) (h : aIndexStr (eval F x) (eval F i) = some v) : Does P ((execOp a.eval o).run P w) (Good β σ w v σ) := by
  have hx := eval_sound hF x
  have hi := eval_sound hF i
  generalize hcx : a.eval x = cx at hx
  generalize hci : a.eval i = ci at hi
  unfold aIndexStr at h
  split at h
  · rename_i s k j he1 he2
    rw [he1] at hx; rw [he2] at hi
    cases hx; cases hi
    split at h
    · rename_i h0
      cases hb : s.data.toList[j.toNat]? with
      | none => rw [hb] at h; cases h
      | some b =>
        rw [hb] at h; cases h
        refine .pure_ (c := .int .u8 (b.toNat : Int)) (w' := w) hok ?_ (.int _ _) (.inl rfl)
        have hb' : s[j.toNat]? = some b := by
          have : s.data[j.toNat]? = some b := by simpa using hb
          obtain ⟨hlt, he⟩ := Array.getElem?_eq_some_iff.1 this
          exact getElem?_eq_some_iff.2 ⟨hlt, he⟩
        simp [execOp, ho, hcx, hci, Instr.index, run_underlying ht, asIntOf, h0, hb']
    · cases h
  · cases h

theorem does_index1 (hok : InjOk β σ w) (hF : FOk β σ F a.tmps) {t e : TypeId} {x i : Operand} {len : Nat} (ho : o.op = .index t x i) (ht : P.underlying t = some (.array len e)) (hag : aggT P e = some false) (hn : sizeOfT P e = some 1)
    (h : aIndex1 len (eval F x) (eval F i) = some v) : Does P ((execOp a.eval o).run P w) (Good β σ w v σ) := by
  have hx := eval_sound hF x
  have hi := eval_sound hF i
  generalize hcx : a.eval x = cx at hx
  generalize hci : a.eval i = ci at hi
  unfold aIndex1 at h
  split at h
  · rename_i cs k j he1 he2
    rw [he1] at hx; rw [he2] at hi
    cases hi
    split at h
    · rename_i hb
      cases hx with
      | agg y y' hy h1 =>
        obtain ⟨c, hc, hv⟩ := lrel_get (agg_lrel hy h1) h
        have hc' : y'[j.toNat]? = some c := by simpa using hc
        refine .pure_ (c := c) (w' := w) hok ?_ hv (.inl rfl)
        simp [execOp, ho, hcx, hci, Instr.index, run_underlying ht, asIntOf, hb.1, hb.2, run_size hn, part, run_isAgg hag, hc']
    · cases h
  · cases h

theorem does_indexN (hok : InjOk β σ w) (hF : FOk β σ F a.tmps) {t e : TypeId} {x i : Operand} {len esz : Nat} (ho : o.op = .index t x i) (ht : P.underlying t = some (.array len e)) (hag : aggT P e = some true) (hn : sizeOfT P e = some esz)
    (h : aIndexN len esz (eval F x) (eval F i) = some v) : Does P ((execOp a.eval o).run P w) (Good β σ w v σ) := by
  have hx := eval_sound hF x
  have hi := eval_sound hF i
  generalize hcx : a.eval x = cx at hx
  generalize hci : a.eval i = ci at hi
  unfold aIndexN at h
  split at h
  · rename_i cs k j he1 he2
    rw [he1] at hx; rw [he2] at hi
    cases hi
    split at h
    · rename_i hb
      cases h
      cases hx with
      | agg y y' hy h1 =>
        have hl := lrel_agg (lrel_take (lrel_drop (agg_lrel hy h1) (j.toNat * esz)) esz)
        refine .pure_ (w' := w) hok ?_ hl (.inl rfl)
        simp [execOp, ho, hcx, hci, Instr.index, run_underlying ht, asIntOf, hb.1, hb.2.1, run_size hn, part, run_isAgg hag, extract_eq]
    · cases h
  · cases h

theorem does_extract (hok : InjOk β σ w) (hF : FOk β σ F a.tmps) {x : Operand} {i : Nat} (ho : o.op = .extract x i) (h : aExtract (eval F x) i = some v) : Does P ((execOp a.eval o).run P w) (Good β σ w v σ) := by
  have hx := eval_sound hF x
  generalize hcx : a.eval x = cx at hx
  unfold aExtract at h
  split at h
  · rename_i vs he
    rw [he] at hx
    cases hx with
    | tuple y y' hy h1 =>
      obtain ⟨c, hc, hv⟩ := lrel_get (agg_lrel hy h1) h
      have hc' : y'[i]? = some c := by simpa using hc
      exact .pure_ (c := c) (w' := w) hok (by simp [execOp, ho, hcx, Instr.extract, hc']) hv (.inl rfl)
  · cases h

end
end Go.Abs
