/- The abstract machine, a part: texts put together. Conditions: as at each theorem. -/
import Derived.Test.YtdlicidmkakooaaExactTravelFieldWvMA
import Derived.Laws.BytesString
set_option linter.unusedSimpArgs false
set_option linter.unusedVariables false
/- The abstract machine: the other operations that write no memory. No condition. -/
namespace Go.Abs

theorem lrel_take {β : Inj} {σ : Heap} {xs cs : List Value} (h : LRel β σ xs cs) (n : Nat) : LRel β σ (xs.take n) (cs.take n) := by
  refine ⟨by simp [h.1], fun i v c hv hc => ?_⟩
  rw [List.getElem?_take] at hv hc
  split at hv
  · rw [if_pos (by assumption)] at hc; exact h.2 i v c hv hc
  · cases hv

theorem lrel_drop {β : Inj} {σ : Heap} {xs cs : List Value} (h : LRel β σ xs cs) (n : Nat) : LRel β σ (xs.drop n) (cs.drop n) := by
  refine ⟨by simp [h.1], fun i v c hv hc => ?_⟩
  rw [List.getElem?_drop] at hv hc
  exact h.2 _ v c hv hc

theorem lrel_append {β : Inj} {σ : Heap} {xs cs ys ds : List Value} (h : LRel β σ xs cs) (k : LRel β σ ys ds) : LRel β σ (xs ++ ys) (cs ++ ds) := by
  refine ⟨by simp [h.1, k.1], fun i v c hv hc => ?_⟩
  rw [List.getElem?_append] at hv hc
  rw [← h.1] at hc
  split at hv
  · rw [if_pos (by assumption)] at hc; exact h.2 i v c hv hc
  · rw [if_neg (by assumption)] at hc; exact k.2 _ v c hv hc

theorem lrel_splice {β : Inj} {σ : Heap} {xs cs new new' : List Value} (h : LRel β σ xs cs) (k : LRel β σ new new') (off : Nat) : LRel β σ (splice xs off new) (splice cs off new') := by
  unfold splice
  rw [k.1]
  exact lrel_append (lrel_append (lrel_take h _) k) (lrel_drop h _)

theorem lrel_const {β : Inj} {σ : Heap} {xs : List Value} (h : xs.all constOk = true) : LRel β σ xs xs :=
  ⟨rfl, fun _ v c hv hc => by rw [hv] at hc; cases hc; exact vrel_const ((List.all_eq_true.1 h) _ (List.mem_of_getElem? hv))⟩

theorem lrel_agg {β : Inj} {σ : Heap} {xs cs : List Value} (h : LRel β σ xs cs) : VRel β σ (.agg xs.toArray) (.agg cs.toArray) :=
  .agg _ _ (by simpa using h.1) fun i v v' hv hv' => h.2 i v v' (by simpa using hv) (by simpa using hv')

theorem agg_lrel {β : Inj} {σ : Heap} {x x' : Array Value} (hx : x.size = x'.size) (h1 : ∀ (i : Nat) (v v' : Value), x[i]? = some v → x'[i]? = some v' → VRel β σ v v') : LRel β σ x.toList x'.toList :=
  ⟨by simpa using hx, fun i v c hv hc => h1 i v c (by simpa using hv) (by simpa using hc)⟩

theorem lrel_get {β : Inj} {σ : Heap} {xs cs : List Value} (h : LRel β σ xs cs) {i : Nat} {v : Value} (hv : xs[i]? = some v) : ∃ c, cs[i]? = some c ∧ VRel β σ v c := by
  have hi : i < xs.length := by
    rcases Nat.lt_or_ge i xs.length with h' | h'
    · exact h'
    · rw [List.getElem?_eq_none h'] at hv; cases hv
  have hi' : i < cs.length := by rw [← h.1]; exact hi
  exact ⟨cs[i], by simp [hi'], h.2 i v _ hv (by simp [hi'])⟩

theorem extract_eq (y : Array Value) (off n : Nat) : y.extract off (off + n) = ((y.toList.drop off).take n).toArray := by
  apply Array.toList_inj.1
  rw [Array.toList_extract, List.extract_eq_take_drop, Nat.add_sub_cancel_left]

section
variable {P : Program} {β : Inj} {σ : Heap} {w : World} {o : Oper} {F : Frame} {a : Act} {v : Value}

theorem does_un (hok : InjOk β σ w) (hF : FOk β σ F a.tmps) {op : UnOp} {t : TypeId} {x : Operand} (ho : o.op = .unOp op t x) (h : aUn op (eval F x) = some v) : Does P ((execOp a.eval o).run P w) (Good β σ w v σ) := by
  have hx := eval_sound hF x
  generalize hcx : a.eval x = cx at hx
  unfold aUn at h
  split at h
  · rename_i b he
    cases h; rw [he] at hx; cases hx
    exact .pure_ (c := .bool (!b)) (w' := w) hok (by simp [execOp, ho, hcx, Op.unary]) (.bool _) (.inl rfl)
  · rename_i k n he
    cases h; rw [he] at hx; cases hx
    exact .pure_ (c := .int k (k.wrap (0 - n))) (w' := w) hok (by simp [execOp, ho, hcx, Op.unary, Op.intArith]) (.int _ _) (.inl rfl)
  · rename_i k n he
    cases h; rw [he] at hx
    cases hx with
    | float f =>
      rename_i b
      refine .pure_ (c := .float k (Op.negFloat k b)) (w' := w) hok (by simp [execOp, ho, hcx, Op.unary]) (.float ?_) (.inl rfl)
      rcases f with rfl | ⟨f1, f2⟩
      · exact .inl rfl
      · exact .inr ⟨neg_nan f1, neg_nan f2⟩
  · rename_i k n he
    cases h; rw [he] at hx; cases hx
    exact .pure_ (w' := w) hok (by simp only [execOp, ho, hcx, Op.unary, Op.intBits, Sem.run_bind, Sem.run_pure, Result.andThen_ok]) (.int _ _) (.inl rfl)
  · cases h

theorem f2f_sound {s k : FloatKind} {b b' r : Nat} (hr : FRel s b b') (h : f2f s b k = some r) : ∃ c w', (Conv.floatToFloat s b' k).run P w = .ok (.float k c) w' ∧ FRel k r c ∧ Drew w w' := by
  unfold f2f at h
  by_cases hsk : s = k
  · subst hsk
    refine ⟨b', w, by simp [Conv.floatToFloat], ?_, .inl rfl⟩
    split at h
    · cases h; simpa using hr
    · unfold floatToFloatBits at h; rw [if_pos rfl] at h; cases h; exact hr
  · split at h
    · rename_i hn
      simp only [Option.some.injEq] at h
      subst h
      have hn' : isNaN s b' = true := by
        rcases hr with rfl | ⟨_, h2⟩
        · exact hn
        · exact h2
      obtain ⟨sg, t, hd⟩ := decode_nan hn'
      refine ⟨(Question.nanConv k b').cut (w.tape w.drawn (.nanConv k b')), w.drew, ?_, .inr ⟨isNaN_nanOf k, cut_nanConv _ _ _⟩, .inr rfl⟩
      simp [Conv.floatToFloat, hsk, hd, Question.forced]
    · rename_i hn
      have hb : b = b' := by
        rcases hr with h' | ⟨h1, _⟩
        · exact h'
        · exact absurd h1 hn
      subst hb
      unfold floatToFloatBits at h
      rw [if_neg hsk] at h
      split at h
      · cases h
      · rename_i sg he
        cases h
        exact ⟨_, w, by simp [Conv.floatToFloat, hsk, he], .inl rfl, .inl rfl⟩
      · rename_i sg m e he
        split at h
        · cases h
        · rename_i hinf
          cases h
          exact ⟨_, w, by simp [Conv.floatToFloat, hsk, he, hinf], .inl rfl, .inl rfl⟩

theorem f2i_sound {s : FloatKind} {k : IntKind} {b b' : Nat} {n : Int} (hr : FRel s b b') (h : floatToIntVal s b k = some n) : (Conv.floatToInt s b' k).run P w = .ok (.int k n) w := by
  have hb : b = b' := by
    rcases hr with h' | ⟨h1, _⟩
    · exact h'
    · obtain ⟨sg, t, hd⟩ := decode_nan h1
      unfold floatToIntVal at h
      rw [hd] at h
      simp [Ieee.Datum.toInt, Ieee.Datum.integral] at h
  subst hb
  unfold floatToIntVal at h
  unfold Conv.floatToInt
  split at h
  · rename_i m hm
    split at h
    · rename_i hb
      cases h
      simp [hm, hb.1, hb.2]
    · cases h
  · cases h

theorem does_field1 (hok : InjOk β σ w) (hF : FOk β σ F a.tmps) {t : TypeId} {x : Operand} {f : Nat} {fs : Array Field} {fd : Field} (ho : o.op = .field t x f) (ht : P.underlying t = some (.struct fs)) (hf : fs[f]? = some fd) (hag : aggT P fd.type = some false)
    (h : aField1 fd.offset (eval F x) = some v) : Does P ((execOp a.eval o).run P w) (Good β σ w v σ) := by
  have hx := eval_sound hF x
  generalize hcx : a.eval x = cx at hx
  unfold aField1 at h
  split at h
  · rename_i cs he
    rw [he] at hx
    cases hx with
    | agg y y' hy h1 =>
      obtain ⟨c, hc, hv⟩ := lrel_get (agg_lrel hy h1) h
      refine .pure_ (c := c) (w' := w) hok ?_ hv (.inl rfl)
      have hc' : y'[fd.offset]? = some c := by simpa using hc
      simp [execOp, ho, hcx, Instr.field, run_underlying ht, hf, asAgg, part, run_isAgg hag, hc']
  · cases h

theorem does_fieldN (hok : InjOk β σ w) (hF : FOk β σ F a.tmps) {t : TypeId} {x : Operand} {f n : Nat} {fs : Array Field} {fd : Field} (ho : o.op = .field t x f) (ht : P.underlying t = some (.struct fs)) (hf : fs[f]? = some fd) (hag : aggT P fd.type = some true)
    (hn : sizeOfT P fd.type = some n) (h : aFieldN fd.offset n (eval F x) = some v) : Does P ((execOp a.eval o).run P w) (Good β σ w v σ) := by
  have hx := eval_sound hF x
  generalize hcx : a.eval x = cx at hx
  unfold aFieldN at h
  split at h
  · rename_i cs he
    rw [he] at hx
    split at h
    · cases h
      cases hx with
      | agg y y' hy h1 =>
        have hl := lrel_agg (lrel_take (lrel_drop (agg_lrel hy h1) fd.offset) n)
        refine .pure_ (w' := w) hok ?_ hl (.inl rfl)
        simp [execOp, ho, hcx, Instr.field, run_underlying ht, hf, asAgg, part, run_isAgg hag, run_size hn, extract_eq]
    · cases h
  · cases h

theorem does_fieldAddr (hok : InjOk β σ w) (hF : FOk β σ F a.tmps) {t : TypeId} {x : Operand} {f n : Nat} {fs : Array Field} {fd : Field} (ho : o.op = .fieldAddr t x f) (ht : P.underlying t = some (.struct fs)) (hf : fs[f]? = some fd)
    (hn : sizeOfT P fd.type = some (n + 1)) (h : aFieldAddr fd.offset (eval F x) = some v) : Does P ((execOp a.eval o).run P w) (Good β σ w v σ) := by
  have hx := eval_sound hF x
  generalize hcx : a.eval x = cx at hx
  unfold aFieldAddr at h
  split at h
  · rename_i p he
    cases h
    rw [he] at hx
    cases hx with
    | ptr p obj hσ c hk hh =>
      refine .pure_ (c := .pointer (some (c.add fd.offset))) (w' := w) hok ?_ ?_ (.inl rfl)
      · simp [execOp, ho, hcx, Instr.fieldAt, run_underlying ht, hf, Instr.sureAddr, fieldPlace, run_size hn]
      · refine .ptr ⟨p.block, p.off + fd.offset, p.spot⟩ obj hσ _ hk fun hp => ?_
        obtain ⟨s, hs, rfl⟩ := hh hp
        refine ⟨s, hs, ?_⟩
        unfold Addr.add
        split
        · rename_i h0; simp [h0]
        · simp [Nat.add_assoc]
  · cases h

theorem add_at (b o n : Nat) : (⟨b, o, none⟩ : Addr).add n = ⟨b, o + n, none⟩ := by
  unfold Addr.add; split
  · rename_i h0; subst h0; rfl
  · rfl

theorem rowAt_some {esz cap : Nat} {p : Addr} {obj : AObj} (h : rowAt σ esz p cap = some obj) : σ[p.block]? = some obj ∧ obj.esz = esz ∧ obj.cells.length = p.off + cap * esz ∧ esz ≠ 0 := by
  unfold rowAt at h
  split at h
  · split at h
    · rename_i hc
      cases h
      simp at hc
      exact ⟨by assumption, hc.1.1, hc.1.2, fun h0 => by rw [h0] at hc; exact absurd hc.2 (by decide)⟩
    · cases h
  · cases h

theorem does_indexAddrS (hok : InjOk β σ w) (hF : FOk β σ F a.tmps) {t e : TypeId} {x i : Operand} {esz : Nat} (ho : o.op = .indexAddr t x i) (ht : P.underlying t = some (.slice e)) (hn : sizeOfT P e = some esz)
    (h : aIndexAddrS σ esz (eval F x) (eval F i) = some v) : Does P ((execOp a.eval o).run P w) (Good β σ w v σ) := by
  have hx := eval_sound hF x
  have hi := eval_sound hF i
  generalize hcx : a.eval x = cx at hx
  generalize hci : a.eval i = ci at hi
  unfold aIndexAddrS at h
  split at h
  · rename_i p len cap k j he1 he2
    rw [he1] at hx; rw [he2] at hi
    split at h
    · rename_i obj hrow
      split at h
      · rename_i hb
        cases h
        obtain ⟨hσ, hesz, hlen, hne⟩ := rowAt_some hrow
        cases hi
        cases hx with
        | sl p obj' hσ' len cap c cap' hsz hle hs =>
          rw [hσ] at hσ'; cases hσ'
          have hcap : cap ≠ 0 := by omega
          obtain ⟨s, hs1, rfl, _⟩ := hs (by rw [hesz]; exact hne) (by rw [hesz]; exact hlen) (.inl hcap)
          refine .pure_ (c := .pointer (some ((⟨s.blk, s.base + p.off, none⟩ : Addr).add (j.toNat * esz)))) (w' := w) hok ?_ ?_ (.inl rfl)
          · have h1 : 0 ≤ j := hb.1
            have h2 : j < (len : Int) := hb.2.1
            simp [execOp, ho, hcx, hci, Instr.indexAt, run_underlying ht, asIntOf, h1, h2, run_size hn]
          · rw [add_at]
            refine .ptr ⟨p.block, p.off + j.toNat * esz, some (p.off + cap * esz)⟩ obj hσ _ (fun n hn => ?_) fun _ => ⟨s, hs1, ?_⟩
            · simp at hn; omega
            · simp [Nat.add_assoc]
      · cases h
    · cases h
  · cases h

theorem does_indexAddrA (hok : InjOk β σ w) (hF : FOk β σ F a.tmps) {t e : TypeId} {x i : Operand} {len esz : Nat} (ho : o.op = .indexAddr t x i) (ht : P.underlying t = some (.array len e)) (hn : sizeOfT P e = some esz)
    (h : aIndexAddrA len esz (eval F x) (eval F i) = some v) : Does P ((execOp a.eval o).run P w) (Good β σ w v σ) := by
  have hx := eval_sound hF x
  have hi := eval_sound hF i
  generalize hcx : a.eval x = cx at hx
  generalize hci : a.eval i = ci at hi
  unfold aIndexAddrA at h
  split at h
  · rename_i p k j he1 he2
    rw [he1] at hx; rw [he2] at hi
    split at h
    · rename_i hb
      cases h
      cases hi
      cases hx with
      | ptr p obj hσ c hk hh =>
        refine .pure_ (c := .pointer (some (c.add (j.toNat * esz)))) (w' := w) hok ?_ ?_ (.inl rfl)
        · simp [execOp, ho, hcx, hci, Instr.indexAt, run_underlying ht, asIntOf, Instr.sureAddr, hb.1, hb.2, run_size hn]
        · refine .ptr ⟨p.block, p.off + j.toNat * esz, p.spot⟩ obj hσ _ hk fun hp => ?_
          obtain ⟨s, hs, rfl⟩ := hh hp
          exact ⟨s, hs, by rw [add_at]; simp [Nat.add_assoc]⟩
    · cases h
  · cases h

theorem does_indexStr (hok : InjOk β σ w) (hF : FOk β σ F a.tmps) {t : TypeId} {x i : Operand} (ho : o.op = .index t x i) (ht : P.underlying t = some .string) (h : aIndexStr (eval F x) (eval F i) = some v) : Does P ((execOp a.eval o).run P w) (Good β σ w v σ) := by
  have hx := eval_sound hF x
  have hi := eval_sound hF i
  generalize hcx : a.eval x = cx at hx
  generalize hci : a.eval i = ci at hi
  unfold aIndexStr at h
  split at h
  · rename_i s k j he1 he2
    rw [he1] at hx; rw [he2] at hi
    cases hx; cases hi
    split at h
    · rename_i h0
      cases hb : s.data.toList[j.toNat]? with
      | none => rw [hb] at h; cases h
      | some b =>
        rw [hb] at h; cases h
        refine .pure_ (c := .int .u8 (b.toNat : Int)) (w' := w) hok ?_ (.int _ _) (.inl rfl)
        have hb' : s[j.toNat]? = some b := by
          have : s.data[j.toNat]? = some b := by simpa using hb
          obtain ⟨hlt, he⟩ := Array.getElem?_eq_some_iff.1 this
          exact getElem?_eq_some_iff.2 ⟨hlt, he⟩
        simp [execOp, ho, hcx, hci, Instr.index, run_underlying ht, asIntOf, h0, hb']
    · cases h
  · cases h

theorem does_index1 (hok : InjOk β σ w) (hF : FOk β σ F a.tmps) {t e : TypeId} {x i : Operand} {len : Nat} (ho : o.op = .index t x i) (ht : P.underlying t = some (.array len e)) (hag : aggT P e = some false) (hn : sizeOfT P e = some 1)
    (h : aIndex1 len (eval F x) (eval F i) = some v) : Does P ((execOp a.eval o).run P w) (Good β σ w v σ) := by
  have hx := eval_sound hF x
  have hi := eval_sound hF i
  generalize hcx : a.eval x = cx at hx
  generalize hci : a.eval i = ci at hi
  unfold aIndex1 at h
  split at h
  · rename_i cs k j he1 he2
    rw [he1] at hx; rw [he2] at hi
    cases hi
    split at h
    · rename_i hb
      cases hx with
      | agg y y' hy h1 =>
        obtain ⟨c, hc, hv⟩ := lrel_get (agg_lrel hy h1) h
        have hc' : y'[j.toNat]? = some c := by simpa using hc
        refine .pure_ (c := c) (w' := w) hok ?_ hv (.inl rfl)
        simp [execOp, ho, hcx, hci, Instr.index, run_underlying ht, asIntOf, hb.1, hb.2, run_size hn, part, run_isAgg hag, hc']
    · cases h
  · cases h

theorem does_indexN (hok : InjOk β σ w) (hF : FOk β σ F a.tmps) {t e : TypeId} {x i : Operand} {len esz : Nat} (ho : o.op = .index t x i) (ht : P.underlying t = some (.array len e)) (hag : aggT P e = some true) (hn : sizeOfT P e = some esz)
    (h : aIndexN len esz (eval F x) (eval F i) = some v) : Does P ((execOp a.eval o).run P w) (Good β σ w v σ) := by
  have hx := eval_sound hF x
  have hi := eval_sound hF i
  generalize hcx : a.eval x = cx at hx
  generalize hci : a.eval i = ci at hi
  unfold aIndexN at h
  split at h
  · rename_i cs k j he1 he2
    rw [he1] at hx; rw [he2] at hi
    cases hi
    split at h
    · rename_i hb
      cases h
      cases hx with
      | agg y y' hy h1 =>
        have hl := lrel_agg (lrel_take (lrel_drop (agg_lrel hy h1) (j.toNat * esz)) esz)
        refine .pure_ (w' := w) hok ?_ hl (.inl rfl)
        simp [execOp, ho, hcx, hci, Instr.index, run_underlying ht, asIntOf, hb.1, hb.2.1, run_size hn, part, run_isAgg hag, extract_eq]
    · cases h
  · cases h

theorem does_extract (hok : InjOk β σ w) (hF : FOk β σ F a.tmps) {x : Operand} {i : Nat} (ho : o.op = .extract x i) (h : aExtract (eval F x) i = some v) : Does P ((execOp a.eval o).run P w) (Good β σ w v σ) := by
  have hx := eval_sound hF x
  generalize hcx : a.eval x = cx at hx
  unfold aExtract at h
  split at h
  · rename_i vs he
    rw [he] at hx
    cases hx with
    | tuple y y' hy h1 =>
      obtain ⟨c, hc, hv⟩ := lrel_get (agg_lrel hy h1) h
      have hc' : y'[i]? = some c := by simpa using hc
      exact .pure_ (c := c) (w' := w) hok (by simp [execOp, ho, hcx, Instr.extract, hc']) hv (.inl rfl)
  · cases h

end
end Go.Abs

/- The abstract machine: lengths, cuts, conversions, composites. No condition. -/
namespace Go.Abs

section
variable {P : Program} {β : Inj} {σ : Heap} {w : World} {o : Oper} {F : Frame} {a : Act} {v : Value}

theorem does_len (hok : InjOk β σ w) (hF : FOk β σ F a.tmps) {x : Operand} {t : TypeId} {ts : Array TypeId} (ho : o.op = .call { callee := .builtin .len, args := #[x], argTypes := ts }) (hts : ts[0]? = some t) (str : Bool)
    (ht : if str then P.underlying t = some .string else ∃ e, P.underlying t = some (.slice e)) (h : aLen str (eval F x) = some v) :
    Does P ((execOp a.eval o).run P w) (Good β σ w v σ) := by
  have hx := eval_sound hF x
  generalize hcx : a.eval x = cx at hx
  unfold aLen at h
  split at h
  · rename_i s he
    cases h
    rw [he] at hx; cases hx
    simp only [if_true] at ht
    refine .pure_ (c := .int .i64 (s.size : Int)) (w' := w) hok ?_ (.int _ _) (.inl rfl)
    simp [execOp, ho, resolve, invoke, builtin, Builtin.len_, hts, hcx, run_underlying ht, goInt]
  · rename_i p n c he
    cases h
    rw [he] at hx
    simp only [Bool.false_eq_true, if_false] at ht
    obtain ⟨e, hu⟩ := ht
    have : ∃ p' c', cx = .slice p' n c' := by cases hx <;> exact ⟨_, _, rfl⟩
    obtain ⟨p', c', rfl⟩ := this
    refine .pure_ (c := .int .i64 (n : Int)) (w' := w) hok ?_ (.int _ _) (.inl rfl)
    simp [execOp, ho, resolve, invoke, builtin, Builtin.len_, hts, hcx, run_underlying hu, goInt]
  · cases h

theorem does_cap (hok : InjOk β σ w) (hF : FOk β σ F a.tmps) {x : Operand} {t : TypeId} {ts : Array TypeId} (ho : o.op = .call { callee := .builtin .cap, args := #[x], argTypes := ts }) (hts : ts[0]? = some t)
    (ht : ∃ e, P.underlying t = some (.slice e)) (h : aCap (eval F x) = some v) :
    Does P ((execOp a.eval o).run P w) (Good β σ w v σ) := by
  have hx := eval_sound hF x
  generalize hcx : a.eval x = cx at hx
  unfold aCap at h
  split at h
  · rename_i n c he
    cases h
    rw [he] at hx
    obtain ⟨e, hu⟩ := ht
    cases hx
    refine .pure_ (c := .int .i64 (c : Int)) (w' := w) hok ?_ (.int _ _) (.inl rfl)
    simp [execOp, ho, resolve, invoke, builtin, Builtin.cap_, hts, hcx, run_underlying hu, goInt]
  · cases h

theorem run_sliceBound {k : IntKind} {i : Int} {y : Nat} {code : BoundsCode} (h0 : 0 ≤ i) (h1 : i ≤ y) : (Instr.sliceBound (.int k i) y code).run P w = .ok i.toNat w := by
  simp [Instr.sliceBound, asIntOf, h0, h1]

theorem idx_rel {x : Option Operand} {d : Nat} {l : Int} (hF : FOk β σ F a.tmps) (h : idx (x.map (eval F)) d = some l) : (x = none ∧ l = d) ∨ (∃ y k, x = some y ∧ a.eval y = .int k l) := by
  cases x with
  | none => simp [idx] at h; exact .inl ⟨rfl, h.symm⟩
  | some y =>
    right
    have hy := eval_sound hF y
    simp only [idx, Option.map_some] at h
    split at h
    · rename_i he; cases he
    · rename_i k i he
      cases h
      simp only [Option.some.injEq] at he
      rw [he] at hy
      refine ⟨y, k, rfl, ?_⟩
      generalize a.eval y = u at hy
      cases hy; rfl
    · cases h

theorem run_sliceBounds (b : Bool) {lo hi : Option Operand} {len cap : Nat} {l h : Int} (hlo : (lo = none ∧ l = (0 : Nat)) ∨ (∃ y k, lo = some y ∧ a.eval y = .int k l)) (hhi : (hi = none ∧ h = (len : Int)) ∨ (∃ y k, hi = some y ∧ a.eval y = .int k h))
    (h0 : 0 ≤ l) (h1 : l ≤ h) (h2 : h ≤ cap) : (Instr.sliceBounds b len cap (lo.map a.eval) (hi.map a.eval) none).run P w = .ok (l.toNat, h.toNat, cap) w := by
  have hle : l ≤ (h.toNat : Int) := by omega
  rcases hlo with ⟨rfl, rfl⟩ | ⟨y, k, rfl, hy⟩ <;> rcases hhi with ⟨rfl, rfl⟩ | ⟨y', k', rfl, hy'⟩
  · simp [Instr.sliceBounds]
  · simp [Instr.sliceBounds, hy', run_sliceBound (show 0 ≤ h by omega) h2]
  · have : l ≤ (len : Int) := h1
    simp [Instr.sliceBounds, hy, run_sliceBound h0 this]
  · simp [Instr.sliceBounds, hy, hy', run_sliceBound (show 0 ≤ h by omega) h2, run_sliceBound h0 hle]

theorem does_sliceStr (hok : InjOk β σ w) (hF : FOk β σ F a.tmps) {t : TypeId} {x : Operand} {lo hi : Option Operand} (ho : o.op = .slice t x lo hi none) (ht : P.underlying t = some .string)
    (h : aSliceStr (eval F x) (lo.map (eval F)) (hi.map (eval F)) = some v) : Does P ((execOp a.eval o).run P w) (Good β σ w v σ) := by
  have hx := eval_sound hF x
  generalize hcx : a.eval x = cx at hx
  unfold aSliceStr at h
  split at h
  · rename_i s he
    rw [he] at hx; cases hx
    split at h
    · rename_i l h' hl hh
      split at h
      · rename_i hb
        cases h
        have hb2 := run_sliceBounds (P := P) (w := w) false (idx_rel hF hl) (idx_rel hF hh) hb.1 hb.2.1 hb.2.2
        refine .pure_ (c := .string (s.extract l.toNat h'.toNat)) (w' := w) hok ?_ (.string _) (.inl rfl)
        simp [execOp, ho, hcx, Instr.sliceAt, Instr.slice, run_underlying ht, hb2]
      · cases h
    · cases h
  · cases h

theorem does_sliceSl (hok : InjOk β σ w) (hF : FOk β σ F a.tmps) {t e : TypeId} {esz : Nat} {x : Operand} {lo hi : Option Operand} (ho : o.op = .slice t x lo hi none) (ht : P.underlying t = some (.slice e)) (hn : sizeOfT P e = some esz)
    (h : aSliceSl σ esz (eval F x) (lo.map (eval F)) (hi.map (eval F)) = some v) : Does P ((execOp a.eval o).run P w) (Good β σ w v σ) := by
  have hx := eval_sound hF x
  generalize hcx : a.eval x = cx at hx
  unfold aSliceSl at h
  split at h
  · rename_i len cap he
    rw [he] at hx; cases hx
    split at h
    · rename_i l h' hl hh
      split at h
      · rename_i hb
        cases h
        have hb2 := run_sliceBounds (P := P) (w := w) true (idx_rel hF hl) (idx_rel hF hh) hb.1 hb.2.1 hb.2.2
        refine .pure_ (c := .slice none (h' - l).toNat (cap - l.toNat)) (w' := w) hok ?_ (.slNil _ _) (.inl rfl)
        have e1 : h'.toNat - l.toNat = (h' - l).toNat := by omega
        simp [execOp, ho, hcx, Instr.sliceAt, Instr.slice, run_underlying ht, hb2, run_size hn, e1]
      · cases h
    · cases h
  · rename_i p len cap he
    rw [he] at hx
    split at h
    · rename_i obj l h' hrow hl hh
      split at h
      · rename_i hb
        cases h
        obtain ⟨hσ, hesz, hlen, hne⟩ := rowAt_some hrow
        cases hx with
        | sl p obj' hσ' len cap c cap' hsz hcap hs =>
          rw [hσ] at hσ'; cases hσ'
          have hb2 := run_sliceBounds (P := P) (w := w) true (len := len) (cap := cap') (idx_rel hF hl) (idx_rel hF hh) hb.1 hb.2.1 (by omega)
          have e1 : h'.toNat - l.toNat = (h' - l).toNat := by omega
          refine .pure_ (c := .slice (some (if cap' = l.toNat then c else c.add (l.toNat * esz))) (h' - l).toNat (cap' - l.toNat)) (w' := w) hok ?_ ?_ (.inl rfl)
          · simp only [execOp, ho, hcx, Instr.sliceAt, Instr.slice, run_underlying ht, run_size hn, Sem.run_bind, Result.andThen_ok, Sem.run_pure]
            rw [Option.map_none, hb2]
            simp only [Result.andThen_ok, e1]
            split <;> simp
          · have hkey : (cap - l.toNat) * esz + l.toNat * esz = cap * esz := by
              rw [← Nat.add_mul]; congr 1; omega
            refine .sl ⟨p.block, p.off + l.toNat * esz, none⟩ obj hσ _ _ _ _ (fun _ => ?_) (by omega) fun h1 h2 h3 => ?_
            · rw [hesz]; dsimp only; omega
            · dsimp only at h3
              have horig : cap ≠ 0 ∨ p.off = 0 := by
                rcases h3 with h3 | h3
                · left; omega
                · right; omega
              obtain ⟨s, hs1, rfl, hrw⟩ := hs (by rw [hesz]; exact hne) (by rw [hesz]; exact hlen) horig
              refine ⟨s, hs1, ?_, fun hr => ?_⟩
              · split
                · rename_i hcl
                  have h4 : l.toNat * esz = 0 := by
                    rcases h3 with h3 | h3
                    · omega
                    · omega
                  simp [h4]
                · rw [add_at]; simp [Nat.add_assoc]
              · have := hrw hr
                rw [hesz] at this ⊢
                dsimp only
                have h5 : (cap' - l.toNat) * esz + l.toNat * esz = cap' * esz := by
                  rw [← Nat.add_mul]; congr 1; omega
                omega
      · cases h
    · cases h
  · cases h

theorem does_minmax (hok : InjOk β σ w) (hF : FOk β σ F a.tmps) (mx : Bool) {args : Array Operand} {ts : Array TypeId} (ho : o.op = .call { callee := .builtin (if mx then .max else .min), args := args, argTypes := ts })
    (h : aMinMax mx (args.toList.map (eval F)) = some v) : Does P ((execOp a.eval o).run P w) (Good β σ w v σ) := by
  have go : ∀ (xs : List Operand) (k : IntKind) (n : Int) (v : Value), aMinMaxGo mx k n (xs.map (eval F)) = some v → ∃ m, v = .int k m ∧
      ((xs.map a.eval).foldlM (if mx then Builtin.max2 else Builtin.min2) (.int k n)).run P w = .ok (.int k m) w := by
    intro xs
    induction xs with
    | nil => intro k n v h; simp [aMinMaxGo] at h; subst h; exact ⟨n, rfl, by simp⟩
    | cons x xs ih =>
      intro k n v h
      simp only [List.map_cons] at h
      have hx := eval_sound hF x
      unfold aMinMaxGo at h
      split at h
      · rename_i he; cases he
      · rename_i j b rest he
        simp only [List.cons.injEq] at he
        obtain ⟨he1, rfl⟩ := he
        rw [he1] at hx
        have hce : a.eval x = .int j b := by
          generalize a.eval x = u at hx
          cases hx; rfl
        obtain ⟨m, rfl, hm⟩ := ih _ _ _ h
        refine ⟨m, rfl, ?_⟩
        simp only [List.map_cons, List.foldlM_cons, hce, Sem.run_bind]
        cases mx <;> simp_all [Builtin.max2, Builtin.min2]
      · cases h
  unfold aMinMax at h
  split at h
  · rename_i k n rest he
    obtain ⟨x, xs, hargs, hx1, hx2⟩ : ∃ x xs, args.toList = x :: xs ∧ eval F x = .int k n ∧ rest = xs.map (eval F) := by
      cases hl : args.toList with
      | nil => rw [hl] at he; cases he
      | cons x xs => rw [hl] at he; simp at he; exact ⟨x, xs, rfl, he.1, he.2.symm⟩
    subst hx2
    obtain ⟨m, rfl, hm⟩ := go _ _ _ _ h
    have hx := eval_sound hF x
    rw [hx1] at hx
    have hce : a.eval x = .int k n := by
      generalize a.eval x = u at hx
      cases hx; rfl
    refine .pure_ (c := .int k m) (w' := w) hok ?_ (.int _ _) (.inl rfl)
    have hal : (args.map a.eval).toList = .int k n :: xs.map a.eval := by simp [hargs, hce]
    cases mx
    · simp only [Bool.false_eq_true, if_false] at ho hm
      simp only [execOp, ho, resolve, invoke, builtin, Builtin.min_, hal, Sem.run_bind, Sem.run_pure, Result.andThen_ok, hm]
    · simp only [if_true] at ho hm
      simp only [execOp, ho, resolve, invoke, builtin, Builtin.max_, hal, Sem.run_bind, Sem.run_pure, Result.andThen_ok, hm]
  · cases h

theorem does_makeFunc (hok : InjOk β σ w) (hF : FOk β σ F a.tmps) {f : FuncId} {x y : Array Operand} (ho : o.op = .makeFunc (.func f) x y) :
    Does P ((execOp a.eval o).run P w) (Good β σ w (.func (.func f) (x.toList.map (eval F)).toArray (y.toList.map (eval F)).toArray) σ) := by
  refine .pure_ (c := .func (.func f) (x.map a.eval) (y.map a.eval)) (w' := w) hok (by simp [execOp, ho, Instr.makeFunc]) ?_ (.inl rfl)
  have aux : ∀ (z : Array Operand) (i : Nat) (v v' : Value), ((z.toList.map (eval F)).toArray)[i]? = some v → (z.map a.eval)[i]? = some v' → VRel β σ v v' := by
    intro z i v v' h1 h2
    simp only [List.getElem?_toArray, List.getElem?_map, Array.getElem?_toList, Array.getElem?_map] at h1 h2
    cases hz : z[i]? with
    | none => rw [hz] at h1; cases h1
    | some q => rw [hz] at h1 h2; cases h1; cases h2; exact eval_sound hF q
  exact .func _ _ _ _ _ (by simp) (by simp) (aux x) (aux y)

theorem does_conv (hok : InjOk β σ w) (hF : FOk β σ F a.tmps) {s d : TypeId} {x : Operand} {c : ConvK} (ho : o.op = .convert s d x) (hc : convOf P s d = some c) (hcn : c ≠ .toBytes ∧ c ≠ .toStr ∧ c ≠ .mark) {σ' : Heap} (h : aConv σ c (eval F x) = some (v, σ')) :
    Does P ((execOp a.eval o).run P w) (Good β σ w v σ') := by
  have hx := eval_sound hF x
  generalize hcx : a.eval x = cx at hx
  have hex : (execOp a.eval o).run P w = ((convert s d cx).run P w).andThen fun v w => .ok (.value v) w := by
    simp [execOp, ho, hcx]
  rw [hex]
  unfold convOf at hc
  unfold aConv at h
  split at h
  · -- int to int
    rename_i k j n he
    cases h
    rw [he] at hx; cases hx
    refine .pure_ (c := .int k (k.wrap n)) (w' := w) hok ?_ (.int _ _) (.inl rfl)
    split at hc <;> first | (simp only [Option.some.injEq, ConvK.toInt.injEq] at hc; subst hc; rename_i h1 h2; simp [convert, run_underlying h1, run_underlying h2, Conv.intToInt]; done) | (cases hc; done) | (split at hc <;> cases hc; done) | (split at hc <;> first | (split at hc <;> cases hc; done) | cases hc)
  · rename_i k j n he
    cases h
    rw [he] at hx; cases hx
    refine .pure_ (c := .float k (k.nearest n)) (w' := w) hok ?_ (.float (.inl rfl)) (.inl rfl)
    split at hc <;> first | (simp only [Option.some.injEq, ConvK.toFloat.injEq] at hc; subst hc; rename_i h1 h2; simp [convert, run_underlying h1, run_underlying h2, Conv.intToFloat]; done) | (cases hc; done) | (split at hc <;> cases hc; done) | (split at hc <;> first | (split at hc <;> cases hc; done) | cases hc)
  · rename_i k sk b he
    cases hfi : floatToIntVal sk b k with
    | none => rw [hfi] at h; cases h
    | some n =>
      rw [hfi] at h; cases h
      rw [he] at hx
      cases hx with
      | float f =>
        have hr := f2i_sound (P := P) (w := w) f hfi
        refine .pure_ (c := .int k n) (w' := w) hok ?_ (.int _ _) (.inl rfl)
        split at hc <;> first | (simp only [Option.some.injEq, ConvK.toInt.injEq] at hc; subst hc; rename_i h1 h2; simp [convert, run_underlying h1, run_underlying h2, hr]; done) | (cases hc; done) | (split at hc <;> cases hc; done) | (split at hc <;> first | (split at hc <;> cases hc; done) | cases hc)
  · rename_i k sk b he
    cases hff : f2f sk b k with
    | none => rw [hff] at h; cases h
    | some n =>
      rw [hff] at h; cases h
      rw [he] at hx
      cases hx with
      | float f =>
        obtain ⟨c', w', hr, hrel, hd⟩ := f2f_sound (P := P) (w := w) f hff
        refine .pure_ (c := .float k c') (w' := w') hok ?_ (.float hrel) hd
        split at hc <;> first | (simp only [Option.some.injEq, ConvK.toFloat.injEq] at hc; subst hc; rename_i h1 h2; simp [convert, run_underlying h1, run_underlying h2, hr]; done) | (cases hc; done) | (split at hc <;> cases hc; done) | (split at hc <;> first | (split at hc <;> cases hc; done) | cases hc)
  · rename_i s' he
    cases h
    rw [he] at hx; cases hx
    refine .pure_ (c := .string s') (w' := w) hok ?_ (.string _) (.inl rfl)
    split at hc <;> first | (rename_i h1 h2; simp [convert, run_underlying h1, run_underlying h2]; done) | (cases hc; done) | (split at hc <;> cases hc; done) | (split at hc <;> first | (split at hc <;> cases hc; done) | cases hc)
  · exact absurd rfl hcn.1
  · exact absurd rfl hcn.2.2
  · exact absurd rfl hcn.2.1
  · cases h

end
end Go.Abs

/- The abstract machine: operations that make or write memory. No condition. -/
namespace Go.Abs

section
variable {P : Program} {β : Inj} {σ : Heap} {w : World} {o : Oper} {F : Frame} {a : Act} {v : Value}

/-- A new block behind a step that leaves the world alone but for answers. -/
theorem good_alloc (hok : InjOk β σ w) {w1 : World} (hd : Drew w w1) (cells : List Value) (esz : Nat) (cs : Array Value) (e : TypeId)
    (hc : ∀ (j : Nat) (v : Value), cells[j]? = some v → ∃ u, cs[j]? = some u ∧ VRel β σ v u) :
    ∃ β', Trans β σ w β' (σ ++ [⟨cells, esz, true⟩]) (w1.alloc (.cells cs e)) ∧ β' σ.length = some ⟨w.heap.size, 0, cs.size⟩ ∧ w1.heap.size = w.heap.size := by
  have h1 : InjOk β σ w1 := (hd.trans_ hok).ok
  have hs : w1.heap.size = w.heap.size := by rcases hd with rfl | rfl <;> simp
  refine ⟨_, (hd.trans_ hok).trans (Trans.alloc h1 cells esz cs e hc), ?_, hs⟩
  simp [hs]

theorem at_last (x : AObj) : (σ ++ [x])[σ.length]? = some x := by simp

theorem zero_run {t : TypeId} {zero : List Value} (hz : zeroOf P t = some zero) (w : World) : ∃ z : Value, (zeroValue t).run P w = .ok z w ∧ z.cells.toList = zero := by
  unfold zeroOf at hz
  cases hi : P.info? t with
  | none => rw [hi] at hz; cases hz
  | some i =>
    cases hzz : i.zero with
    | none => simp [hi, hzz] at hz
    | some z =>
      simp only [hi, hzz, Option.map_some, Option.some.injEq] at hz
      exact ⟨z, by simp [zeroValue, typeInfo, hi, hzz], hz⟩

theorem rel_at {β : Inj} {σ : Heap} {xs cs : List Value} (h : LRel β σ xs cs) : ∀ (j : Nat) (v : Value), xs[j]? = some v → ∃ u, cs.toArray[j]? = some u ∧ VRel β σ v u := by
  intro j v hv
  obtain ⟨c, hc, hr⟩ := lrel_get h hv
  exact ⟨c, by simpa using hc, hr⟩

theorem good_var (hok : InjOk β σ w) {cells : List Value} {cs : Array Value} (e : TypeId) (h : LRel β σ cells cs.toList) {r : Result Next}
    (hr : r = .ok (.value (.pointer (some ⟨w.heap.size, 0, none⟩))) (w.alloc (.cells cs e))) : Does P r (Good β σ w (newVar σ cells).1 (newVar σ cells).2) := by
  obtain ⟨β', ht, hb, _⟩ := good_alloc hok (.inl rfl) cells 0 cs e (by simpa using rel_at h)
  refine .inl ⟨_, _, hr, β', ht, ?_⟩
  exact .ptr ⟨σ.length, 0, none⟩ ⟨cells, 0, true⟩ (at_last _) _ (fun n hn => by cases hn) fun _ => ⟨_, hb, rfl⟩

theorem does_alloc (hok : InjOk β σ w) {t : TypeId} {zero : List Value} (ho : o.op = .alloc t) (hz : zeroOf P t = some zero) {σ' : Heap} (h : aAlloc σ zero = some (v, σ')) : Does P ((execOp a.eval o).run P w) (Good β σ w v σ') := by
  unfold aAlloc at h
  split at h
  · rename_i hc
    cases h
    obtain ⟨z, hzr, hzc⟩ := zero_run hz w
    refine good_var hok (cs := z.cells) t (by rw [hzc]; exact lrel_const hc) ?_
    simp [execOp, ho, Instr.alloc, hzr, Go.newVar, Go.newRow]
  · cases h

theorem does_box (hok : InjOk β σ w) (hF : FOk β σ F a.tmps) {t : TypeId} {x : Operand} (ho : o.op = .box t x) {σ' : Heap} (h : aBox σ (eval F x) = some (v, σ')) : Does P ((execOp a.eval o).run P w) (Good β σ w v σ') := by
  unfold aBox at h
  split at h
  · rename_i hc
    cases h
    obtain ⟨hl, _⟩ := vrel_cells (eval_sound hF x) hc
    refine good_var hok t hl ?_
    simp [execOp, ho, Instr.box, Go.newVar, Go.newRow]
  · cases h

/-! ### Composites -/

theorem foldl_fill (cs : List Value) : ∀ (k off : Nat) (cells : Array Value), off + k + cs.length ≤ cells.size →
    ((cs.zipIdx k).foldl (fun cells p => cells.setIfInBounds (off + p.2) p.1) cells).toList = splice cells.toList (off + k) cs := by
  induction cs with
  | nil => intro k off cells _; simp [splice_nil]
  | cons c cs ih =>
    intro k off cells h
    simp only [List.length_cons] at h
    simp only [List.zipIdx_cons, List.foldl_cons]
    rw [ih (k + 1) off _ (by simp; omega), splice_cons (by simp; omega)]
    simp [Nat.add_assoc]

theorem fill_sound {place : Nat → Option (Nat × Nat)} : ∀ (ps : List (Nat × Operand)) (ps' : List (Nat × Nat × Operand)) (cells : List Value) (cs : Array Value) (r : List Value), FOk β σ F a.tmps → partsOf place ps = some ps' → LRel β σ cells cs.toList →
    fillS cells (ps'.map fun p => (p.1, p.2.1, eval F p.2.2)) = some r → ∃ rs : Array Value, Instr.fill place cs (ps.map fun p => (p.1, a.eval p.2)) = some rs ∧ LRel β σ r rs.toList := by
  intro ps
  induction ps with
  | nil =>
    intro ps' cells cs r hF hp hl h
    simp [partsOf] at hp; subst hp
    simp [fillS] at h; subst h
    exact ⟨cs, by simp [Instr.fill], hl⟩
  | cons p ps ih =>
    intro ps' cells cs r hF hp hl h
    obtain ⟨i, x⟩ := p
    simp only [partsOf] at hp
    split at hp
    · rename_i off s l hpl hrest
      cases hp
      simp only [List.map_cons, fillS] at h
      split at h
      · rename_i hc
        simp only [Bool.and_eq_true, decide_eq_true_eq, Nat.beq_eq] at hc
        obtain ⟨hlx, _⟩ := vrel_cells (eval_sound hF x) hc.2
        have hsz : (a.eval x).cells.size = s := by rw [← hc.1.1, hlx.1]; simp
        have hcl : off + (a.eval x).cells.size ≤ cs.size := by
          have := hl.1
          simp only [Array.length_toList] at this
          omega
        have hfold := foldl_fill (a.eval x).cells.toList 0 off cs (by simpa using hcl)
        obtain ⟨rs, hr, hrl⟩ := ih l (splice cells off (eval F x).cells.toList) ((a.eval x).cells.toList.zipIdx.foldl (fun cells p => cells.setIfInBounds (off + p.2) p.1) cs) r hF hrest (by
          rw [hfold]
          exact lrel_splice hl hlx _) h
        refine ⟨rs, ?_, hrl⟩
        simp only [List.map_cons, Instr.fill, hpl]
        rw [if_neg (by simp [hsz]; omega)]
        rw [← hr]
        congr 1
        rw [← Array.foldl_toList, Array.toList_zipIdx]
      · cases h
    · cases hp

theorem does_build_struct (hok : InjOk β σ w) (hF : FOk β σ F a.tmps) {t : TypeId} {fs : Array Field} {ps : Array (Nat × Operand)} {zero : List Value} {l : List (Nat × Nat × Operand)} (ho : o.op = .build t ps)
    (ht : P.underlying t = some (.struct fs)) (hfs : structSized P fs = true) (hz : zeroOf P t = some zero) (hl : partsOf (placeOf P t) ps.toList = some l) (h : aBuild zero (l.map fun p => (p.1, p.2.1, eval F p.2.2)) = some v) :
    Does P ((execOp a.eval o).run P w) (Good β σ w v σ) := by
  unfold aBuild at h
  split at h
  · rename_i hzc
    cases hr : fillS zero (l.map fun p => (p.1, p.2.1, eval F p.2.2)) with
    | none => rw [hr] at h; cases h
    | some r =>
      rw [hr] at h; cases h
      obtain ⟨z, hzr, hzl⟩ := zero_run hz w
      obtain ⟨rs, hfill, hrl⟩ := fill_sound (a := a) ps.toList l zero z.cells r hF hl (by rw [hzl]; exact lrel_const hzc) hr
      -- the places of the fields
      have hpl : ∃ places : Array (Nat × Nat), (fs.mapM fun f => do pure (f.offset, ← sizeOf f.type) : Sem (Array (Nat × Nat))).run P w = .ok places w ∧ ∀ i, places[i]? = placeOf P t i := by
        have key : ∀ l : List Field, (l.all fun f => (sizeOfT P f.type).isSome) = true → (l.mapM (m := Sem) fun f => do pure (f.offset, ← sizeOf f.type)).run P w = .ok (l.map fun f => (f.offset, (sizeOfT P f.type).getD 0)) w := by
          intro l
          induction l with
          | nil => intro _; simp
          | cons f l ih =>
            intro hall
            simp only [List.all_cons, Bool.and_eq_true] at hall
            obtain ⟨n, hn⟩ := Option.isSome_iff_exists.1 hall.1
            simp only [List.mapM_cons, Sem.run_bind, run_size hn, Result.andThen_ok, Sem.run_pure, ih hall.2]
            simp [hn]
        refine ⟨(fs.toList.map fun f => (f.offset, (sizeOfT P f.type).getD 0)).toArray, ?_, fun i => ?_⟩
        · rw [Array.mapM_eq_mapM_toList]
          simp only [Sem.run_map, key _ hfs, Result.andThen_ok]
        · unfold placeOf
          rw [ht]
          cases hf : fs[i]? with
          | none => simp [hf]
          | some f =>
            have hm := (List.all_eq_true.1 hfs) f (by rw [Array.mem_toList_iff]; exact Array.mem_of_getElem? hf)
            obtain ⟨n, hn⟩ := Option.isSome_iff_exists.1 hm
            simp [hf, hn]
      obtain ⟨places, hm, hp⟩ := hpl
      have hpe : (fun i => places[i]?) = placeOf P t := funext hp
      refine .pure_ (c := .agg rs) (w' := w) hok ?_ (by simpa using lrel_agg hrl) (.inl rfl)
      have hps : (ps.map fun (i, x) => (i, a.eval x)).toList = ps.toList.map fun p => (p.1, a.eval p.2) := by simp
      simp only [execOp, ho, Instr.build, Sem.run_bind, hzr, Result.andThen_ok, run_underlying ht, hm, Sem.run_pure]
      rw [hpe, hps, hfill]
      rfl
  · cases h

theorem does_build_array (hok : InjOk β σ w) (hF : FOk β σ F a.tmps) {t e : TypeId} {n s : Nat} {ps : Array (Nat × Operand)} {zero : List Value} {l : List (Nat × Nat × Operand)} (ho : o.op = .build t ps)
    (ht : P.underlying t = some (.array n e)) (hs : sizeOfT P e = some s) (hz : zeroOf P t = some zero) (hl : partsOf (placeOf P t) ps.toList = some l) (h : aBuild zero (l.map fun p => (p.1, p.2.1, eval F p.2.2)) = some v) :
    Does P ((execOp a.eval o).run P w) (Good β σ w v σ) := by
  unfold aBuild at h
  split at h
  · rename_i hzc
    cases hr : fillS zero (l.map fun p => (p.1, p.2.1, eval F p.2.2)) with
    | none => rw [hr] at h; cases h
    | some r =>
      rw [hr] at h; cases h
      obtain ⟨z, hzr, hzl⟩ := zero_run hz w
      obtain ⟨rs, hfill, hrl⟩ := fill_sound (a := a) ps.toList l zero z.cells r hF hl (by rw [hzl]; exact lrel_const hzc) hr
      have hpe : placeOf P t = fun i => some (i * s, s) := by funext i; simp [placeOf, ht, hs]
      rw [hpe] at hfill
      refine .pure_ (c := .agg rs) (w' := w) hok ?_ (by simpa using lrel_agg hrl) (.inl rfl)
      have hps : (ps.map fun (i, x) => (i, a.eval x)).toList = ps.toList.map fun p => (p.1, a.eval p.2) := by simp
      simp only [execOp, ho, Instr.build, Sem.run_bind, hzr, Result.andThen_ok, run_underlying ht, run_size hs, Sem.run_pure]
      rw [hps, hfill]
      rfl
  · cases h

theorem does_buildSlice (hok : InjOk β σ w) (hF : FOk β σ F a.tmps) {t e : TypeId} {len s : Nat} {ps : Array (Nat × Operand)} {zero : List Value} {l : List (Nat × Nat × Operand)} (ho : o.op = .buildSlice t len ps)
    (ht : P.underlying t = some (.slice e)) (hs : sizeOfT P e = some s) (hz : zeroOf P e = some zero) (hb : len * s ≤ 2 ^ 24) (hl : partsOf (fun i => some (i * s, s)) ps.toList = some l) {σ' : Heap}
    (h : aBuildSlice σ s len (if len * s = 0 then [] else zerosOf zero (len * s)) (l.map fun p => (p.1, p.2.1, eval F p.2.2)) = some (v, σ')) : Does P ((execOp a.eval o).run P w) (Good β σ w v σ') := by
  generalize hzz : (if len * s = 0 then [] else zerosOf zero (len * s)) = zz at h
  unfold aBuildSlice at h
  split at h
  · rename_i hzc
    simp only [Bool.and_eq_true, Nat.beq_eq, Bool.not_eq_true'] at hzc
    have hs0 : s ≠ 0 := fun h0 => by rw [h0] at hzc; exact absurd hzc.2 (by decide)
    cases hr : fillS zz (l.map fun p => (p.1, p.2.1, eval F p.2.2)) with
    | none => rw [hr] at h; cases h
    | some r =>
      rw [hr] at h; cases h
      obtain ⟨z, hzr, hzl⟩ := zero_run hz w
      -- the cells that the model begins with
      obtain ⟨cs, hcs, hcl⟩ : ∃ cs : Array Value, (if len * s = 0 then cs = #[] else cs = z.cells) ∧
          ((Array.range (len * s)).map (cs[· % cs.size]!)).toList = zz := by
        rw [← hzz]
        by_cases h0 : len * s = 0
        · refine ⟨#[], by simp [h0], by simp [h0]⟩
        · rw [if_neg h0] at hzz
          refine ⟨z.cells, by simp [h0], ?_⟩
          rw [if_neg h0]
          have hall := hzc.1.1
          rw [← hzz] at hall
          unfold zerosOf
          apply List.ext_getElem?
          intro i
          have hzs : z.cells.size = zero.length := by rw [← hzl]; simp
          simp only [Array.toList_map, Array.toList_range, List.getElem?_map]
          cases hri : (List.range (len * s))[i]? with
          | none => rfl
          | some j =>
            simp only [Option.map_some, Option.some.injEq]
            rw [hzs, ← hzl]
            simp only [Array.length_toList]
            rw [hzs]
            have hpos : zero.length ≠ 0 := by
              intro hz0
              unfold zerosOf at hall
              rw [List.all_eq_true] at hall
              have := hall (zero.getD (0 % zero.length) dead) (by rw [List.mem_map]; exact ⟨0, by simp; omega, rfl⟩)
              have hnil : zero = [] := List.length_eq_zero_iff.1 hz0
              rw [hnil] at this
              simp [dead, constOk] at this
            have hlt : j % zero.length < z.cells.size := by rw [hzs]; exact Nat.mod_lt _ (by omega)
            simp [List.getD_eq_getElem?_getD, hlt]
      obtain ⟨rs, hfill, hrl⟩ := fill_sound (place := fun i => some (i * s, s)) (a := a) ps.toList l zz ((Array.range (len * s)).map (cs[· % cs.size]!)) r hF hl (by rw [hcl]; exact lrel_const hzc.1.1) hr
      have hfl : ∀ (qs : List (Nat × Nat × Value)) (cells r : List Value), fillS cells qs = some r → r.length = cells.length := by
        intro qs
        induction qs with
        | nil => intro cells r h; simp [fillS] at h; rw [h]
        | cons q qs ih =>
          intro cells r h
          obtain ⟨off, sz, u⟩ := q
          simp only [fillS] at h
          split at h
          · rename_i hc
            simp only [Bool.and_eq_true, decide_eq_true_eq, Nat.beq_eq] at hc
            rw [ih _ _ h, splice_length (by omega)]
          · cases h
      have hrlen : r.length = len * s := by rw [hfl _ _ _ hr]; exact hzc.1.2
      obtain ⟨β', htr, hb', _⟩ := good_alloc hok (.inl rfl) r s rs e (by simpa using rel_at hrl)
      refine .inl ⟨.slice (some ⟨w.heap.size, 0, none⟩) len len, w.alloc (.cells rs e), ?_, β', htr, ?_⟩
      · have hps : (ps.map fun (i, x) => (i, a.eval x)).toList = ps.toList.map fun p => (p.1, a.eval p.2) := by simp
        have hnb : ¬ (len * s > 2 ^ 24) := by omega
        simp only [execOp, ho, Instr.buildSlice, Sem.run_bind, Result.andThen_ok, run_underlying ht, run_size hs, Sem.run_pure, if_neg hnb]
        rw [hps]
        by_cases h0 : len * s = 0
        · rw [if_pos h0] at hcs
          subst hcs
          simp only [if_pos h0, Sem.run_bind, Sem.run_pure, Result.andThen_ok]
          rw [hfill]
          simp [Go.newRow]
        · rw [if_neg h0] at hcs
          subst hcs
          simp only [if_neg h0, Sem.run_bind, Sem.run_pure, Result.andThen_ok, hzr]
          rw [hfill]
          simp [Go.newRow]
      · refine .sl ⟨σ.length, 0, none⟩ ⟨r, s, true⟩ (at_last _) _ _ _ _ (fun _ => by simp [hrlen]) (Nat.le_refl _) fun _ _ _ => ⟨_, hb', rfl, fun _ => ?_⟩
        have : rs.size = r.length := by rw [hrl.1]; simp
        simp [this, hrlen]
  · cases h

end
end Go.Abs

/- The abstract machine: stores, makes, appends, copies, calls. No condition. -/
namespace Go.Abs

section
variable {P : Program} {β : Inj} {σ : Heap} {w : World} {o : Oper} {F : Frame} {a : Act} {v : Value}

theorem sl_valid {p : Addr} {len cap esz : Nat} {c : Value} {obj : AObj} (hr : VRel β σ (.slice (some p) len cap) c) (hrow : rowAt σ esz p cap = some obj) (h : cap ≠ 0 ∨ p.off = 0) :
    ∃ s cap', c = .slice (some ⟨s.blk, s.base + p.off, none⟩) len cap' ∧ β p.block = some s ∧ cap ≤ cap' ∧ (obj.rw = true → s.base + p.off + cap' * esz ≤ s.K) := by
  obtain ⟨hσ, hesz, hlen, hne⟩ := rowAt_some hrow
  cases hr with
  | sl p obj' hσ' len cap c cap' hsz hcap hs =>
    rw [hσ] at hσ'; cases hσ'
    obtain ⟨s, hs1, rfl, hrw⟩ := hs (by rw [hesz]; exact hne) (by rw [hesz]; exact hlen) h
    rw [hesz] at hrw
    exact ⟨s, cap', rfl, hs1, hcap, hrw⟩

theorem sl_shape {p : Option Addr} {len cap : Nat} {c : Value} (hr : VRel β σ (.slice p len cap) c) : ∃ p' cap', c = .slice p' len cap' ∧ cap ≤ cap' ∧ (p = none ↔ p' = none) := by
  cases hr with
  | slNil => exact ⟨none, cap, rfl, Nat.le_refl _, by simp⟩
  | sl p obj hσ len cap c cap' hsz hcap hs => exact ⟨_, cap', rfl, hcap, by simp⟩

/-- The cells of a slice, as the model reads them. -/
theorem firstCells_sound (hok : InjOk β σ w) {esz n : Nat} {x cx : Value} {l : List Value} (h : sliceCells σ esz x n = some l) (hr : VRel β σ x cx) :
    ∃ l', (Builtin.firstCells esz n cx).run P w = .ok l'.toArray w ∧ LRel β σ l l' ∧ l.length = n * esz := by
  unfold sliceCells at h
  split at h
  · rename_i n' m
    split at h
    · rename_i hn
      subst hn
      cases h
      cases hr
      exact ⟨[], by simp [Builtin.firstCells], ⟨rfl, fun i v c hv => by simp at hv⟩, by simp⟩
    · cases h
  · rename_i p len cap
    split at h
    · rename_i obj hrow
      split at h
      · rename_i hb
        cases h
        obtain ⟨hσ, hesz, hlen, hne⟩ := rowAt_some hrow
        by_cases h0 : n = 0
        · subst h0
          obtain ⟨p', cap', rfl, _, hp⟩ := sl_shape hr
          cases p' with
          | none => exact absurd (hp.2 rfl) (by simp)
          | some p' => exact ⟨[], by simp [Builtin.firstCells, loadCells, loadCellsFrom], by simp; exact ⟨rfl, fun i v c hv => by simp at hv⟩, by simp⟩
        · obtain ⟨s, cap', rfl, hs, hle, _⟩ := sl_valid hr hrow (.inl (by omega))
          have hmul : n * esz ≤ cap * esz := Nat.mul_le_mul_right _ hb.2
          obtain ⟨l', hl', hrel⟩ := loadCells_of (P := P) hok hσ hs p.off (n * esz) (by omega)
          refine ⟨l', by simp [Builtin.firstCells, hl'], hrel, ?_⟩
          simp; omega
      · cases h
    · cases h
  · cases h

/-- What lies in a block beyond what is known is of no concern. -/
theorem splice_rel {xs : List Value} {c : Array Value} (h : ∀ (j : Nat) (v : Value), xs[j]? = some v → ∃ u, c[j]? = some u ∧ VRel β σ v u) {new new' : List Value} (hn : LRel β σ new new') (off : Nat) (hoff : off ≤ xs.length) (hle : off + new.length ≤ c.size) :
    ∀ (j : Nat) (v : Value), (xs.take off ++ new ++ xs.drop (off + new.length))[j]? = some v → ∃ u, (splice c.toList off new').toArray[j]? = some u ∧ VRel β σ v u := by
  intro j v hj
  have hnl := hn.1
  have hc1 : (c.toList.take off).length = off := by simp; omega
  have hx1 : (xs.take off).length = off := by simp; omega
  simp only [List.getElem?_toArray]
  unfold splice
  rw [List.append_assoc] at hj ⊢
  by_cases h1 : j < off
  · rw [List.getElem?_append_left (by omega)] at hj ⊢
    rw [List.getElem?_take, if_pos h1] at hj ⊢
    obtain ⟨u, hu, hr⟩ := h j v hj
    exact ⟨u, by simpa using hu, hr⟩
  · rw [List.getElem?_append_right (by omega)] at hj ⊢
    rw [hx1] at hj
    rw [hc1]
    by_cases h2 : j - off < new.length
    · rw [List.getElem?_append_left h2] at hj
      rw [List.getElem?_append_left (by omega)]
      obtain ⟨u, hu, hr⟩ := lrel_get hn hj
      exact ⟨u, hu, hr⟩
    · rw [List.getElem?_append_right (by omega)] at hj
      rw [List.getElem?_append_right (by omega)]
      rw [List.getElem?_drop] at hj ⊢
      obtain ⟨u, hu, hr⟩ := h _ v hj
      refine ⟨u, ?_, hr⟩
      rw [← hu, ← hnl]
      simp

theorem store_sound (hok : InjOk β σ w) {n : Nat} {t : TypeId} (ht : sizeOfT P t = some n) {p pv x xv : Value} {σ' : Heap} (hp : VRel β σ p pv) (hx : VRel β σ x xv) (h : aStore σ n p x = some σ') :
    ∃ w', (Instr.storeAt t pv xv).run P w = .ok () w' ∧ Trans β σ w β σ' w' := by
  unfold aStore at h
  split at h
  · rename_i q
    split at h
    · rename_i obj ho
      split at h
      · rename_i hc
        cases h
        simp only [Bool.and_eq_true, decide_eq_true_eq, Nat.beq_eq] at hc
        obtain ⟨⟨⟨⟨hpo, hrw⟩, hle⟩, hxl⟩, hall⟩ := hc
        obtain ⟨s, hs, rfl⟩ := ptr_valid hp ho hpo
        obtain ⟨c, e, fz, hb, hcells, hr⟩ := hok.obj _ _ _ ho hs
        obtain ⟨hbase, hK, hfz⟩ := hr hrw
        obtain ⟨hlx, h1c⟩ := vrel_cells hx hall
        have hxl' : xv.cells.size = n := by have := hlx.1; simp at this hxl; omega
        -- the object's cells lie in the block
        have hcs : obj.cells.length ≤ c.size := by
          rcases Nat.lt_or_ge c.size obj.cells.length with hlt | hge
          · exfalso
            obtain ⟨u, hu, _⟩ := hcells c.size obj.cells[c.size] (by simp [hlt])
            rw [hbase] at hu; simp at hu
          · exact hge
        have hrun := run_storeCells_put P s.blk (s.base + q.off) e fz xv.cells.toList 0 c w hb (by rw [hbase]; simp [hxl']; omega) (frz hfz) h1c
        refine ⟨_, ?_, Trans.update hok ho hrw hs hb (splice obj.cells q.off x.cells.toList) (splice c.toList (s.base + q.off + 0) xv.cells.toList).toArray fz ?_ ?_ ?_ ?_ ?_⟩
        · simp [Instr.storeAt, Instr.sureAddr, storeVar, hxl', run_size ht]
          simpa using hrun
        · simp; rw [splice_length (by simp [hxl', hbase]; omega)]; simp
        · rw [show (splice c.toList (s.base + q.off + 0) xv.cells.toList).toArray.size = c.size from by
            simp; rw [splice_length (by simp [hxl', hbase]; omega)]; simp]
          exact hfz
        · rw [splice_length (by omega)]; exact Nat.le_refl _
        · intro _; rw [splice_length (by omega)]
        · rw [hbase]
          simp only [Nat.zero_add, Nat.add_zero]
          have := splice_rel (β := β) (σ := σ) (xs := obj.cells) (c := c) (fun j v hj => by
            obtain ⟨u, hu, hr⟩ := hcells j v hj
            exact ⟨u, by rw [hbase] at hu; simpa using hu, hr⟩) hlx q.off (by omega) (by omega)
          exact this
      · cases h
    · cases h
  · cases h

theorem does_store (hok : InjOk β σ w) (hF : FOk β σ F a.tmps) {n : Nat} {t : TypeId} {p x : Operand} (ho : o.op = .store t p x) (ht : sizeOfT P t = some n) {σ' : Heap} (h : aStore σ n (eval F p) (eval F x) = some σ') :
    Does P ((execOp a.eval o).run P w) (Good β σ w undef σ') := by
  obtain ⟨w', hr, ht'⟩ := store_sound hok ht (eval_sound hF p) (eval_sound hF x) h
  refine .inr (.inl ⟨w', by simp [execOp, ho, hr], β, ht', ?_⟩)
  exact .tuple _ _ rfl fun i v v' hv => by simp at hv

/-! ### Makes -/

theorem flatten_replicate (zero : List Value) (n j : Nat) (v : Value) (h : (List.replicate n zero).flatten[j]? = some v) : j < n * zero.length ∧ zero[j % zero.length]? = some v := by
  induction n generalizing j with
  | zero => simp at h
  | succ n ih =>
    rw [List.replicate_succ, List.flatten_cons] at h
    by_cases hj : j < zero.length
    · rw [List.getElem?_append_left hj] at h
      rw [Nat.mod_eq_of_lt hj]
      refine ⟨?_, h⟩
      have : 1 * zero.length ≤ (n + 1) * zero.length := Nat.mul_le_mul_right _ (by omega)
      omega
    · rw [List.getElem?_append_right (by omega)] at h
      obtain ⟨h1, h2⟩ := ih _ h
      refine ⟨?_, ?_⟩
      · rw [Nat.succ_mul]; omega
      · rw [← h2]
        congr 1
        rw [Nat.mod_eq_sub_mod (by omega)]

theorem does_makeSlice (hok : InjOk β σ w) (hF : FOk β σ F a.tmps) {t e : TypeId} {esz bytes : Nat} {zero : List Value} {l c : Operand} (ho : o.op = .makeSlice t l c) (ht : P.underlying t = some (.slice e)) (hs : sizeOfT P e = some esz) (hby : bytesOfT P e = some bytes)
    (hz : zeroOf P e = some zero) {σ' : Heap} (h : aMakeSlice σ esz bytes zero (eval F l) (eval F c) = some (v, σ')) : Does P ((execOp a.eval o).run P w) (Good β σ w v σ') := by
  have hl := eval_sound hF l
  have hc := eval_sound hF c
  generalize hcl : a.eval l = cl at hl
  generalize hcc : a.eval c = cc at hc
  unfold aMakeSlice at h
  split at h
  · rename_i k n k' m he1 he2
    rw [he1] at hl; rw [he2] at hc
    cases hl; cases hc
    split at h
    · rename_i hb
      obtain ⟨h0, rfl, h1, h2, h3, h4, h5⟩ := hb
      cases h
      obtain ⟨z, hzr, hzl⟩ := zero_run hz w
      have hi : ∃ i, P.info? e = some i ∧ i.bytes = bytes := by
        unfold bytesOfT at hby
        cases hi : P.info? e with
        | none => rw [hi] at hby; cases hby
        | some i => rw [hi] at hby; simp at hby; exact ⟨i, rfl, hby⟩
      obtain ⟨i, hi, hib⟩ := hi
      have hm : maxI = 9223372036854775807 := rfl
      have hw : IntKind.i64.wrap n = n := by
        have hm2 : n ≤ 9223372036854775807 := by omega
        have h64 : ∀ n : Int, 0 ≤ n → n ≤ 9223372036854775807 → IntKind.i64.wrap n = n := by
          intro n h0 h1
          have e1 : n % (2 ^ IntKind.i64.bits : Int) = n := by
            have : (2 ^ IntKind.i64.bits : Int) = 18446744073709551616 := rfl
            rw [this]; omega
          unfold IntKind.wrap
          simp only [e1]
          have : ¬ (n ≥ (2 ^ (IntKind.i64.bits - 1) : Int)) := by
            have : (2 ^ (IntKind.i64.bits - 1) : Int) = 9223372036854775808 := rfl
            omega
          simp [this]
        exact h64 n h0 hm2
      have hzs : z.cells.size = esz := by rw [← h4, ← hzl]; simp
      have hbig : ¬ ((bytes : Int) * n > 2 ^ 48) := by
        have : (bytes : Int) * n = n * bytes := Int.mul_comm _ _
        omega
      let cs : Array Value := (Array.range (n.toNat * esz)).map (z.cells[· % z.cells.size]!)
      obtain ⟨β', htr, hb', _⟩ := good_alloc hok (.inl rfl) (List.replicate n.toNat zero).flatten esz cs e (by
        intro j v hj
        obtain ⟨hj1, hj2⟩ := flatten_replicate _ _ _ _ hj
        rw [h4] at hj1 hj2
        refine ⟨v, ?_, vrel_const ((List.all_eq_true.1 h5) v (List.mem_of_getElem? hj2))⟩
        have hlt : j % esz < z.cells.size := by rw [hzs]; exact Nat.mod_lt _ (by omega)
        have hz2 : z.cells[j % esz]? = some v := by rw [← hj2, ← hzl]; simp
        have hz3 : z.cells[j % esz] = v := by simpa [hlt] using hz2
        simp only [cs, Array.getElem?_map, Array.getElem?_range, hj1, if_true, Option.map_some, hzs]
        rw [getElem!_pos z.cells _ hlt, hz3])
      have hcs : cs.size = n.toNat * esz := by simp [cs]
      have hbig2 : ¬ (281474976710656 < (bytes : Int) * n) := hbig
      refine .inl ⟨.slice (some ⟨w.heap.size, 0, none⟩) n.toNat n.toNat, w.alloc (.cells cs e), ?_, β', htr, ?_⟩
      · have hn0 : ¬ n < 0 := by omega
        by_cases hz0 : n.toNat * esz = 0
        · have hcse : cs = #[] := by
            apply Array.eq_empty_of_size_eq_zero; rw [hcs]; exact hz0
          have hn00 : n = 0 := by
            rcases Nat.mul_eq_zero.1 hz0 with h' | h'
            · omega
            · omega
          subst hn00
          simp [execOp, ho, hcl, hcc, Instr.makeSlice, run_underlying ht, asInt, asIntOf, typeInfo, hi, hw, run_size hs, Go.newRow, hcse]
          rw [show (Array.range 0).map (fun _ => (default : Value)) = #[] from by apply Array.eq_empty_of_size_eq_zero; simp]
        · simp [execOp, ho, hcl, hcc, Instr.makeSlice, run_underlying ht, asInt, asIntOf, typeInfo, hi, hib, hw, hn0, hbig2, run_size hs, hz0, hzr, Go.newRow, cs]
      · refine .sl ⟨σ.length, 0, none⟩ ⟨(List.replicate n.toNat zero).flatten, esz, true⟩ (at_last _) _ _ _ _ (fun _ => ?_) (Nat.le_refl _) fun _ _ _ => ⟨_, hb', rfl, fun _ => ?_⟩
        · simp [h4]
        · simp [hcs]
    · cases h
  · cases h

end
end Go.Abs

/- The abstract machine: appends. No condition. -/
namespace Go.Abs

section
variable {P : Program} {β : Inj} {σ : Heap} {w : World} {o : Oper} {F : Frame} {a : Act} {v : Value}

theorem bytes_whole (s : ByteArray) : (s.extract 0 s.size) = s := by
  apply ByteArray.ext
  simp

/-- What is appended: how many, and their cells. -/
theorem appCells_sound (hok : InjOk β σ w) {esz k : Nat} {x cx : Value} {l : List Value} (h : appCells σ esz x = some (l, k)) (hr : VRel β σ x cx) :
    (Builtin.lenOf cx).run P w = .ok k w ∧ ∃ l', (Builtin.firstCells esz k cx).run P w = .ok l'.toArray w ∧ LRel β σ l l' ∧ l.length = k * esz := by
  unfold appCells at h
  split at h
  · rename_i p len cap
    cases hc : sliceCells σ esz (.slice p len cap) len with
    | none => rw [hc] at h; cases h
    | some l0 =>
      rw [hc] at h
      simp only [Option.map_some, Option.some.injEq, Prod.mk.injEq] at h
      obtain ⟨rfl, rfl⟩ := h
      obtain ⟨l', h1, h2, h3⟩ := firstCells_sound (P := P) hok hc hr
      obtain ⟨p', cap', rfl, _, _⟩ := sl_shape hr
      exact ⟨by simp [Builtin.lenOf], l', h1, h2, h3⟩
  · rename_i s
    split at h
    · rename_i he
      subst he
      simp only [Option.some.injEq, Prod.mk.injEq] at h
      obtain ⟨rfl, rfl⟩ := h
      cases hr
      refine ⟨by simp [Builtin.lenOf], s.data.toList.map fun b => Value.int .u8 (b.toNat : Int), ?_, ⟨rfl, fun i v c hv hc => ?_⟩, ?_⟩
      · simp only [Builtin.firstCells, bytes_whole, Sem.run_pure]
        congr 1
        apply Array.toList_inj.1
        simp
      · rw [hv] at hc; cases hc
        have := List.mem_of_getElem? hv
        rw [List.mem_map] at this
        obtain ⟨b, _, rfl⟩ := this
        exact .int _ _
      · simp
    · cases h
  · cases h

theorem growBy_le (need : Nat) : ∀ (r c : Nat), Builtin.growBy need r c ≤ max c (need + (need + 768) / 4) := by
  intro r
  induction r with
  | zero => intro c; simp [Builtin.growBy]; omega
  | succ r ih =>
    intro c
    unfold Builtin.growBy
    split
    · omega
    · have := ih (c + (c + 768) / 4)
      omega

theorem nextslicecap_le {need cap : Nat} (h : cap < need) : Builtin.nextslicecap need cap ≤ 2 * need + 512 := by
  unfold Builtin.nextslicecap
  split
  · omega
  · split
    · omega
    · have := growBy_le need 4 cap
      omega

theorem cut_cap (need old : Nat) (e : TypeId) (t : Nat) : need ≤ (Question.appendCap need old e).cut t := by simp [Question.cut]

structure AppT (P : Program) (t u e : TypeId) (esz bytes : Nat) (zs : List Value) : Prop where
  ht : P.underlying t = some (.slice e)
  hu : ∃ ud, P.underlying u = some ud ∧ ∀ k, ud ≠ .int k
  hs : sizeOfT P e = some esz
  hb : bytesOfT P e = some bytes
  hz : zeroOf P e = some zs
  hzl : zs.length = esz
  hbl : bytes ≤ 2 ^ 20

theorem typeInfo_bytes {e : TypeId} {bytes : Nat} (h : bytesOfT P e = some bytes) : ∃ i, P.info? e = some i ∧ i.bytes = bytes := by
  unfold bytesOfT at h
  cases hi : P.info? e with
  | none => rw [hi] at h; cases h
  | some i => rw [hi] at h; simp at h; exact ⟨i, rfl, h⟩

/-- append where there is room. -/
theorem run_append_room {t u e : TypeId} {esz bytes : Nat} {zs : List Value} (T : AppT P t u e esz bytes zs) {ts : Array TypeId} (h0 : ts[0]? = some t) (h1 : ts[1]? = some u) (ty : TypeId) {base : Option Addr} {n cap k : Nat} {cx : Value} {l' : List Value} {w' : World}
    (hl : (Builtin.lenOf cx).run P w = .ok k w) (hf : (Builtin.firstCells esz k cx).run P w = .ok l'.toArray w) (hle : n + k ≤ cap)
    (hst : (match base with | some a => storeCells (a.add (n * esz)) l' | none => pure ()).run P w = .ok () w') :
    (Builtin.append_ ts ty #[.slice base n cap, cx]).run P w = .ok (.slice base (n + k) cap) w' := by
  obtain ⟨ud, hud, hni⟩ := T.hu
  have hgo : (Builtin.append_ ts ty #[.slice base n cap, cx]).run P w = (do
      let new ← Builtin.firstCells esz k cx
      if let some a := base then storeCells (a.add (n * esz)) new.toList
      pure (.slice base (n + k) cap) : Sem Value).run P w := by
    simp [Builtin.append_, h0, h1, run_underlying T.ht, run_underlying hud, run_size T.hs, hl, hle]
    rfl
  rw [hgo]
  simp only [Sem.run_bind, hf, Result.andThen_ok]
  cases base with
  | none =>
    simp only [Sem.run_pure, Result.ok.injEq, true_and] at hst ⊢
    exact hst
  | some a =>
    simp only at hst
    simp [hst]

/-- append where a new row is made. -/
theorem run_append_grow {t u e : TypeId} {esz bytes : Nat} {zs : List Value} (T : AppT P t u e esz bytes zs) {ts : Array TypeId} (h0 : ts[0]? = some t) (h1 : ts[1]? = some u) (ty : TypeId) {base : Option Addr} {n cap k : Nat} {cx : Value} {l' old : List Value}
    (hl : (Builtin.lenOf cx).run P w = .ok k w) (hle : cap < n + k) (hb1 : (n + k) * bytes ≤ 2 ^ 44) (hb2 : n + k ≤ 2 ^ 44)
    (hf : (Builtin.firstCells esz k cx).run P w.drew = .ok l'.toArray w.drew) (hold : (Builtin.firstCells esz n (.slice base n cap)).run P w.drew = .ok old.toArray w.drew) :
    ∃ (nc : Nat) (rest : Array Value), n + k ≤ nc ∧ rest.size = (nc - (n + k)) * esz ∧
      (Builtin.append_ ts ty #[.slice base n cap, cx]).run P w = .ok (.slice (some ⟨w.heap.size, 0, none⟩) (n + k) nc) (w.drew.alloc (.cells ((old ++ l').toArray ++ rest) e)) := by
  obtain ⟨ud, hud, hni⟩ := T.hu
  obtain ⟨i, hi, hib⟩ := typeInfo_bytes T.hb
  have hnle : ¬ n + k ≤ cap := by omega
  have hnx := nextslicecap_le hle
  have hcap : ¬ (281474976710656 < Builtin.nextslicecap (n + k) cap * i.bytes) := by
    rw [hib]
    have h1 : Builtin.nextslicecap (n + k) cap * bytes ≤ (2 * (n + k) + 512) * bytes := Nat.mul_le_mul_right _ hnx
    have h2 : (2 * (n + k) + 512) * bytes = 2 * ((n + k) * bytes) + 512 * bytes := by rw [Nat.add_mul, Nat.mul_assoc]
    have h3 := T.hbl
    omega
  have hmx2 : ¬ (9223372036854775807 < (n : Int) + (k : Int)) := by omega
  obtain ⟨z, hzr, hzl⟩ := zero_run T.hz w.drew
  refine ⟨(Question.appendCap (n + k) cap e).cut (w.tape w.drawn (.appendCap (n + k) cap e)), Builtin.zeroCells z.cells ((Question.appendCap (n + k) cap e).cut (w.tape w.drawn (.appendCap (n + k) cap e)) - (n + k)), cut_cap _ _ _ _, ?_, ?_⟩
  · have : z.cells.size = esz := by rw [← T.hzl, ← hzl]; simp
    simp [Builtin.zeroCells, this]
  · simp [Builtin.append_, h0, h1, run_underlying T.ht, run_underlying hud, run_size T.hs, hl, hnle, typeInfo, hi, hcap, hmx2, Question.forced, hold, hf, hzr, Go.newRow]
    congr 2
    apply Array.toList_inj.1
    simp

theorem does_append (hok : InjOk β σ w) (hF : FOk β σ F a.tmps) {t u e : TypeId} {esz bytes : Nat} {zs : List Value} (T : AppT P t u e esz bytes zs) {ts : Array TypeId} (h0 : ts[0]? = some t) (h1 : ts[1]? = some u) {s x : Operand}
    (ho : o.op = .call { callee := .builtin .append, args := #[s, x], argTypes := ts }) {σ' : Heap} (h : aAppend σ esz bytes (eval F s) (eval F x) = some (v, σ')) : Does P ((execOp a.eval o).run P w) (Good β σ w v σ') := by
  have hs := eval_sound hF s
  have hx := eval_sound hF x
  generalize hcs : a.eval s = cs at hs
  generalize hcx : a.eval x = cx at hx
  have hex : ∀ (r : Value) (w' : World), (Builtin.append_ ts o.type #[cs, cx]).run P w = .ok r w' → (execOp a.eval o).run P w = .ok (.value r) w' := by
    intro r w' hr
    simp [execOp, ho, resolve, invoke, builtin, hcs, hcx, hr]
  unfold aAppend at h
  split at h
  · -- a nil slice
    rename_i n c new k he happ
    rw [he] at hs
    split at h
    · rename_i hb
      obtain ⟨rfl, rfl, hne, hb1, hb2, hall⟩ := hb
      cases hs
      obtain ⟨hlen, l', hf, hrel, hll⟩ := appCells_sound (P := P) hok happ hx
      split at h
      · rename_i hk
        subst hk
        cases h
        have hr := run_append_room (w' := w) T h0 h1 o.type (base := none) (n := 0) (cap := 0) hlen hf (Nat.le_refl _) (by simp)
        exact .pure_ (w' := w) hok (hex _ _ hr) (.slNil 0 0) (.inl rfl)
      · rename_i hk
        cases h
        have hok1 : InjOk β σ w.drew := hok.drawn _
        obtain ⟨_, l2, hf2, hrel2, _⟩ := appCells_sound (P := P) hok1 happ hx
        obtain ⟨nc, rest, hnc, hrs, hr⟩ := run_append_grow T h0 h1 o.type (base := none) (n := 0) (cap := 0) (old := []) hlen (by omega) (by simpa using hb1) (by omega) hf2 (by simp [Builtin.firstCells])
        obtain ⟨β', htr, hb', _⟩ := good_alloc hok (.inr rfl) new esz (([] ++ l2).toArray ++ rest) e (by
          intro j v hj
          obtain ⟨u, hu, hr⟩ := lrel_get hrel2 hj
          refine ⟨u, ?_, hr⟩
          have hjl : j < l2.length := by
            rcases Nat.lt_or_ge j l2.length with h' | h'
            · exact h'
            · rw [List.getElem?_eq_none h'] at hu; cases hu
          rw [Array.getElem?_append_left (by simpa using hjl)]
          simpa using hu)
        refine .inl ⟨_, _, hex _ _ hr, β', htr, ?_⟩
        simp only [Nat.zero_add]
        refine .sl ⟨σ.length, 0, none⟩ ⟨new, esz, true⟩ (at_last _) _ _ _ _ (fun _ => by simp [hll]) (by omega) fun _ _ _ => ⟨_, hb', rfl, fun _ => ?_⟩
        have hl2 : l2.length = k * esz := by rw [← hrel2.1, hll]
        simp only [Nat.zero_add, Array.size_append, List.nil_append, List.size_toArray, hl2, hrs]
        rw [← Nat.add_mul]
        have : k + (nc - k) = nc := by omega
        rw [this]; exact Nat.le_refl _
    · cases h
  · -- a row of one's own
    rename_i p len cap new k he happ
    rw [he] at hs
    split at h
    · rename_i obj hrow
      split at h
      · rename_i hb
        cases h
        obtain ⟨hrw, hoff, rfl, hb1, hb2, hall⟩ := hb
        obtain ⟨hσ, hesz, hlen, hne⟩ := rowAt_some hrow
        obtain ⟨sp, cap', rfl, hsp, hcap, hK⟩ := sl_valid hs hrow (.inr hoff)
        obtain ⟨hlx, l', hf, hrel, hll⟩ := appCells_sound (P := P) hok happ hx
        obtain ⟨c, te, fz, hblk, hcells, hr⟩ := hok.obj _ _ _ hσ hsp
        obtain ⟨hbase, hKs, hfz⟩ := hr hrw
        have hKle := hK hrw
        rw [hbase, hoff] at hKle
        rw [hoff] at hlen
        simp only [Nat.zero_add] at hKle hlen
        rcases Nat.lt_or_ge cap' (len + k) with hgrow | hroom
        · -- a new row
          have hok1 : InjOk β σ w.drew := hok.drawn _
          obtain ⟨_, l2, hf2, hrel2, _⟩ := appCells_sound (P := P) hok1 happ hx
          have hsc : sliceCells σ esz (.slice (some p) len len) len = some obj.cells := by
            unfold sliceCells
            simp only [hrow]
            rw [if_pos ⟨Nat.le_refl _, Nat.le_refl _⟩, hoff, List.drop_zero, ← hlen, List.take_length]
          obtain ⟨old, hold, horel, holen⟩ := firstCells_sound (P := P) hok1 hsc hs
          rw [hbase, hoff] at hold
          obtain ⟨nc, rest, hnc, hrs, hr⟩ := run_append_grow T h0 h1 o.type hlx hgrow hb1 hb2 hf2 hold
          have hol : old.length = len * esz := by rw [← horel.1, holen]
          have hl2 : l2.length = k * esz := by rw [← hrel2.1, hll]
          have hk0 : k ≠ 0 := by omega
          have hkpos : 0 < k * esz := Nat.mul_pos (by omega) (by omega)
          have hM := Trans.move hok1 hσ hrw hsp (obj.cells ++ new) ((old ++ l2).toArray ++ rest) e (by simp [hll]; omega) (by rw [hesz]; exact hne) (by
            intro j v hj
            obtain ⟨u, hu, hr⟩ := lrel_get (lrel_append horel hrel2) hj
            refine ⟨u, ?_, hr⟩
            have hjl : j < (old ++ l2).length := by
              rcases Nat.lt_or_ge j (old ++ l2).length with h' | h'
              · exact h'
              · rw [List.getElem?_eq_none h'] at hu; cases hu
            rw [Array.getElem?_append_left (by simpa using hjl)]
            simpa using hu)
          refine .inl ⟨_, _, hex _ _ (by rw [hbase, hoff]; exact hr), _, (Trans.drew hok).trans hM, ?_⟩
          refine .sl ⟨p.block, 0, none⟩ { obj with cells := obj.cells ++ new } ?_ _ _ _ _ (fun _ => ?_) hnc fun _ _ _ => ⟨⟨w.drew.heap.size, 0, ((old ++ l2).toArray ++ rest).size⟩, by simp, rfl, fun _ => ?_⟩
          · have : p.block < σ.length := by
              rcases Nat.lt_or_ge p.block σ.length with h' | h'
              · exact h'
              · simp [List.getElem?_eq_none h'] at hσ
            simp [this]
          · simp only [Nat.zero_add, List.length_append, hlen, hll, hesz]
            rw [← Nat.add_mul]; exact Nat.le_refl _
          · simp only [Nat.zero_add, Array.size_append, List.size_toArray, List.length_append, hol, hl2, hrs, hesz]
            rw [← Nat.add_mul, ← Nat.add_mul]
            have : len + k + (nc - (len + k)) = nc := by omega
            rw [this]; exact Nat.le_refl _
        · -- room
          have hkk : len * esz + k * esz ≤ cap' * esz := by rw [← Nat.add_mul]; exact Nat.mul_le_mul_right _ hroom
          have hl' : l'.length = k * esz := by rw [← hrel.1, hll]
          have h1c : ∀ u ∈ l', u.oneCell' = true := by
            intro u hu
            obtain ⟨i, hi, rfl⟩ := List.getElem_of_mem hu
            have hi' : i < new.length := by rw [hrel.1]; exact hi
            have := hrel.2 i new[i] l'[i] (by simp [hi']) (by simp [hi])
            exact vrel_oneCell this ((List.all_eq_true.1 hall) _ (by simp))
          have hst := run_storeCells_put P sp.blk (len * esz) te fz l' 0 c w hblk (by rw [hKs, hl']; omega) (frz hfz) h1c
          have hr := run_append_room (w' := World.put w sp.blk (.cells (splice c.toList (len * esz + 0) l').toArray te fz)) T h0 h1 o.type (base := some ⟨sp.blk, 0, none⟩) hlx hf hroom (by
            simp only [add_at, Nat.zero_add]
            exact hst)
          have hnl : new.length = l'.length := hrel.1
          have hU := Trans.update hok hσ hrw hsp hblk (obj.cells ++ new) (splice c.toList (len * esz + 0) l').toArray fz (by
            simp; rw [splice_length (by simp; rw [hKs, hl']; omega)]; simp) (by
            rw [show (splice c.toList (len * esz + 0) l').toArray.size = c.size from by simp; rw [splice_length (by simp; rw [hKs, hl']; omega)]; simp]
            exact hfz) (by simp) (fun h => by rw [hesz] at h; exact absurd h hne) (by
            intro j v hj
            have := splice_rel (β := β) (σ := σ) (xs := obj.cells) (c := c) (fun j v hj => by
              obtain ⟨u, hu, hr⟩ := hcells j v hj
              exact ⟨u, by rw [hbase] at hu; simpa using hu, hr⟩) hrel (len * esz) (by omega) (by rw [hKs, hnl, hl']; omega) j v (by
                rw [← hlen, List.take_length, List.drop_eq_nil_of_le (by omega)]
                simpa using hj)
            simpa using this)
          refine .inl ⟨_, _, hex _ _ (by rw [hbase, hoff]; exact hr), β, hU, ?_⟩
          refine .sl ⟨p.block, 0, none⟩ { obj with cells := obj.cells ++ new } ?_ _ _ _ _ (fun _ => ?_) hroom fun _ _ _ => ⟨sp, hsp, by simp [hbase], fun _ => ?_⟩
          · have : p.block < σ.length := by
              rcases Nat.lt_or_ge p.block σ.length with h' | h'
              · exact h'
              · simp [List.getElem?_eq_none h'] at hσ
            simp [this]
          · simp only [Nat.zero_add, List.length_append, hlen, hll, hesz]
            rw [← Nat.add_mul]; exact Nat.le_refl _
          · simp only [hbase, Nat.zero_add, hesz]; exact hKle
      · split at h
        · -- behind what is told, in place
          rename_i hb
          cases h
          obtain ⟨hrw, hlt, hle, hall⟩ := hb
          obtain ⟨hσ, hesz, hlen, hne⟩ := rowAt_some hrow
          obtain ⟨sp, cap', rfl, hsp, hcap, hK⟩ := sl_valid hs hrow (.inl (by omega))
          obtain ⟨hlx, l', hf, hrel, hll⟩ := appCells_sound (P := P) hok happ hx
          obtain ⟨c, te, fz, hblk, hcells, hr⟩ := hok.obj _ _ _ hσ hsp
          obtain ⟨hbase, hKs, hfz⟩ := hr hrw
          have hKle := hK hrw
          rw [hbase] at hKle
          have hroom : len + k ≤ cap' := by omega
          have hkk : len * esz + k * esz ≤ cap * esz := by rw [← Nat.add_mul]; exact Nat.mul_le_mul_right _ hle
          have hcm : cap * esz ≤ cap' * esz := Nat.mul_le_mul_right _ hcap
          have hl' : l'.length = k * esz := by rw [← hrel.1, hll]
          have h1c : ∀ u ∈ l', u.oneCell' = true := by
            intro u hu
            obtain ⟨i, hi, rfl⟩ := List.getElem_of_mem hu
            have hi' : i < new.length := by rw [hrel.1]; exact hi
            have := hrel.2 i new[i] l'[i] (by simp [hi']) (by simp [hi])
            exact vrel_oneCell this ((List.all_eq_true.1 hall) _ (by simp))
          have hst := run_storeCells_put P sp.blk (p.off + len * esz) te fz l' 0 c w hblk (by rw [hKs, hl']; omega) (frz hfz) h1c
          have hr := run_append_room (w' := World.put w sp.blk (.cells (splice c.toList (p.off + len * esz + 0) l').toArray te fz)) T h0 h1 o.type (base := some ⟨sp.blk, p.off, none⟩) hlx hf hroom (by
            simp only [add_at]
            exact hst)
          have hsl : (splice obj.cells (p.off + len * esz) new).length = obj.cells.length := splice_length (by rw [hll]; omega)
          have hU := Trans.update hok hσ hrw hsp hblk (splice obj.cells (p.off + len * esz) new) (splice c.toList (p.off + len * esz + 0) l').toArray fz (by
            simp; rw [splice_length (by simp; rw [hKs, hl']; omega)]; simp) (by
            rw [show (splice c.toList (p.off + len * esz + 0) l').toArray.size = c.size from by simp; rw [splice_length (by simp; rw [hKs, hl']; omega)]; simp]
            exact hfz) (by rw [hsl]; exact Nat.le_refl _) (fun h => by rw [hesz] at h; exact absurd h hne) (by
            intro j v hj
            have := splice_rel (β := β) (σ := σ) (xs := obj.cells) (c := c) (fun j v hj => by
              obtain ⟨u, hu, hr⟩ := hcells j v hj
              exact ⟨u, by rw [hbase] at hu; simpa using hu, hr⟩) hrel (p.off + len * esz) (by omega) (by rw [hKs, hll]; omega) j v hj
            simpa using this)
          refine .inl ⟨_, _, hex _ _ (by rw [hbase, Nat.zero_add]; exact hr), β, hU, ?_⟩
          refine .sl ⟨p.block, p.off, none⟩ { obj with cells := splice obj.cells (p.off + len * esz) new } ?_ _ _ _ _ (fun _ => ?_) hcap fun _ _ _ => ⟨sp, hsp, by simp [hbase], fun _ => ?_⟩
          · have : p.block < σ.length := by
              rcases Nat.lt_or_ge p.block σ.length with h' | h'
              · exact h'
              · simp [List.getElem?_eq_none h'] at hσ
            simp [this]
          · simp only [hsl, hesz]; omega
          · simp only [hbase, hesz]; exact hKle
        · cases h
    · cases h
  · cases h

/-- append of zeros to a nil slice. -/
theorem run_append_zeros {t u e : TypeId} {esz bytes : Nat} {zs : List Value} {kk : IntKind} (ht : P.underlying t = some (.slice e)) (hu : P.underlying u = some (.int kk)) (hs : sizeOfT P e = some esz) (hb : bytesOfT P e = some bytes) (hz : zeroOf P e = some zs) (hzl : zs.length = esz) (hbl : bytes ≤ 2 ^ 20) (he : 1 ≤ esz)
    {ts : Array TypeId} (h0 : ts[0]? = some t) (h1 : ts[1]? = some u) (ty : TypeId) {k' : IntKind} {n : Nat} (hn : 0 < n) (hb1 : n * bytes ≤ 2 ^ 44) (hb2 : n ≤ 2 ^ 44) :
    ∃ (nc : Nat) (z : Value), n ≤ nc ∧ z.cells.toList = zs ∧
      (Builtin.append_ ts ty #[.slice none 0 0, .int k' (n : Int)]).run P w = .ok (.slice (some ⟨w.heap.size, 0, none⟩) n nc) (w.drew.alloc (.cells (Builtin.zeroCells z.cells n ++ Builtin.zeroCells z.cells (nc - n)) e)) := by
  obtain ⟨i, hi, hib⟩ := typeInfo_bytes hb
  have hnx := nextslicecap_le (show 0 < n from hn)
  have hcap : ¬ (281474976710656 < Builtin.nextslicecap n 0 * i.bytes) := by
    rw [hib]
    have h1 : Builtin.nextslicecap n 0 * bytes ≤ (2 * n + 512) * bytes := Nat.mul_le_mul_right _ hnx
    have h2 : (2 * n + 512) * bytes = 2 * (n * bytes) + 512 * bytes := by rw [Nat.add_mul, Nat.mul_assoc]
    omega
  obtain ⟨z, hzr, hzl2⟩ := zero_run hz w.drew
  have hw : IntKind.i64.wrap (n : Int) = (n : Int) := by
    have e1 : (n : Int) % (2 ^ IntKind.i64.bits : Int) = n := by
      have : (2 ^ IntKind.i64.bits : Int) = 18446744073709551616 := rfl
      rw [this]; omega
    unfold IntKind.wrap
    simp only [e1]
    have : ¬ ((n : Int) ≥ (2 ^ (IntKind.i64.bits - 1) : Int)) := by
      have : (2 ^ (IntKind.i64.bits - 1) : Int) = 9223372036854775808 := rfl
      omega
    simp [this]
  have hl0 : ¬ ((n : Int) < 0) := by omega
  have hbig : ¬ (281474976710656 < (n : Int) * (i.bytes : Int)) := by
    rw [hib, ← Int.natCast_mul]; omega
  have hmx2 : ¬ (9223372036854775807 < (n : Int)) := by omega
  have hne : ¬ n * esz = 0 := by
    have := Nat.mul_pos hn he
    omega
  have hn0 : ¬ n ≤ 0 := by omega
  have hn00 : n ≠ 0 := by omega
  refine ⟨(Question.appendCap n 0 e).cut (w.tape w.drawn (.appendCap n 0 e)), z, cut_cap _ _ _ _, hzl2, ?_⟩
  simp [Builtin.append_, h0, h1, run_underlying ht, run_underlying hu, run_size hs, asInt, asIntOf, hw, hl0, typeInfo, hi, hbig, hn0, hn00, hcap, hmx2, hne, Question.forced, Builtin.firstCells, hzr, Go.newRow]

theorem does_appendZ (hok : InjOk β σ w) (hF : FOk β σ F a.tmps) {t u e : TypeId} {esz bytes : Nat} {zs : List Value} {kk : IntKind} (ht : P.underlying t = some (.slice e)) (hu : P.underlying u = some (.int kk)) (hs : sizeOfT P e = some esz) (hb : bytesOfT P e = some bytes) (hz : zeroOf P e = some zs) (hzl : zs.length = esz) (hbl : bytes ≤ 2 ^ 20)
    {ts : Array TypeId} (h0 : ts[0]? = some t) (h1 : ts[1]? = some u) {s x : Operand}
    (ho : o.op = .call { callee := .builtin .append, args := #[s, x], argTypes := ts }) {σ' : Heap} (h : aAppendZ σ esz bytes zs (eval F s) (eval F x) = some (v, σ')) : Does P ((execOp a.eval o).run P w) (Good β σ w v σ') := by
  have hss := eval_sound hF s
  have hx := eval_sound hF x
  generalize hcs : a.eval s = cs at hss
  generalize hcx : a.eval x = cx at hx
  have hex : ∀ (r : Value) (w' : World), (Builtin.append_ ts o.type #[cs, cx]).run P w = .ok r w' → (execOp a.eval o).run P w = .ok (.value r) w' := by
    intro r w' hr
    simp [execOp, ho, resolve, invoke, builtin, hcs, hcx, hr]
  unfold aAppendZ at h
  split at h
  · rename_i n c k' k he1 he2
    rw [he1] at hss; rw [he2] at hx
    split at h
    · rename_i hc
      obtain ⟨rfl, rfl, hk0, hk1, hk2, he, hall⟩ := hc
      cases h
      cases hss; cases hx
      obtain ⟨m, rfl⟩ := Int.eq_ofNat_of_zero_le (show 0 ≤ k by omega)
      rw [Int.toNat_natCast]
      obtain ⟨nc, z, hnc, hzl2, hr⟩ := run_append_zeros (P := P) (w := w) ht hu hs hb hz hzl hbl he h0 h1 o.type (k' := k') (n := m) (by omega) (by rw [← Int.natCast_mul] at hk1; omega) (by omega)
      have hzs : z.cells.size = esz := by rw [← hzl, ← hzl2]; simp
      obtain ⟨β', htr, hb', _⟩ := good_alloc hok (.inr rfl) (List.replicate m zs).flatten esz (Builtin.zeroCells z.cells m ++ Builtin.zeroCells z.cells (nc - m)) e (by
        intro j v hj
        obtain ⟨hj1, hj2⟩ := flatten_replicate _ _ _ _ hj
        rw [hzl] at hj1 hj2
        refine ⟨v, ?_, vrel_const ((List.all_eq_true.1 hall) v (List.mem_of_getElem? hj2))⟩
        have hlt : j % esz < z.cells.size := by rw [hzs]; exact Nat.mod_lt _ (by omega)
        have hz2 : z.cells[j % esz]? = some v := by rw [← hj2, ← hzl2]; simp
        have hz3 : z.cells[j % esz] = v := by simpa [hlt] using hz2
        rw [Array.getElem?_append_left (by simp [Builtin.zeroCells, hzs, hj1])]
        simp only [Builtin.zeroCells, Array.getElem?_map, Array.getElem?_range, hzs, hj1, if_true, Option.map_some]
        rw [getElem!_pos z.cells _ hlt, hz3])
      refine .inl ⟨_, _, hex _ _ hr, β', htr, ?_⟩
      have hfl : (List.replicate m zs).flatten.length = m * esz := by simp [hzl]
      refine .sl ⟨σ.length, 0, none⟩ ⟨(List.replicate m zs).flatten, esz, true⟩ (at_last _) _ _ _ _ (fun _ => by simp [hfl]) hnc fun _ _ _ => ⟨_, hb', rfl, fun _ => ?_⟩
      simp only [Nat.zero_add, Array.size_append, Builtin.zeroCells, Array.size_map, Array.size_range, hzs]
      rw [← Nat.add_mul]
      have : m + (nc - m) = nc := by omega
      rw [this]; exact Nat.le_refl _
    · cases h
  · cases h

end
end Go.Abs

/- The abstract machine: copies, bytes and texts, calls. No condition. -/
namespace Go.Abs

section
variable {P : Program} {β : Inj} {σ : Heap} {w : World} {o : Oper} {F : Frame} {a : Act} {v : Value}

theorem sliceCells_none {esz n : Nat} {l : List Value} {m c : Nat} (h : sliceCells σ esz (.slice none m c) n = some l) : n = 0 ∧ l = [] := by
  unfold sliceCells at h
  simp only at h
  split at h
  · rename_i h0; cases h; exact ⟨h0, rfl⟩
  · cases h

theorem does_copy (hok : InjOk β σ w) (hF : FOk β σ F a.tmps) {t e : TypeId} {esz : Nat} (ht : P.underlying t = some (.slice e)) (hs : sizeOfT P e = some esz) {ts : Array TypeId} (h0 : ts[0]? = some t) {d s : Operand}
    (ho : o.op = .call { callee := .builtin .copy, args := #[d, s], argTypes := ts }) {σ' : Heap} (h : aCopy σ esz (eval F d) (eval F s) = some (v, σ')) : Does P ((execOp a.eval o).run P w) (Good β σ w v σ') := by
  have hd := eval_sound hF d
  have hs' := eval_sound hF s
  generalize hcd : a.eval d = cd at hd
  generalize hcs : a.eval s = cs at hs'
  unfold aCopy at h
  split at h
  · rename_i p len cap he
    rw [he] at hd
    split at h
    · rename_i b n c he2
      rw [he2] at hs'
      split at h
      · rename_i new hnew
        split at h
        · rename_i obj hrow
          split at h
          · rename_i hb
            obtain ⟨hrw, hlc, hall⟩ := hb
            cases h
            obtain ⟨hσ, hesz, hlen, hne⟩ := rowAt_some hrow
            obtain ⟨l', hf, hrel, hll⟩ := firstCells_sound (P := P) hok hnew hs'
            obtain ⟨p', cap', rfl, _, _⟩ := sl_shape hs'
            have hmul : min n len * esz ≤ len * esz := Nat.mul_le_mul_right _ (Nat.min_le_right _ _)
            have hmul2 : len * esz ≤ cap * esz := Nat.mul_le_mul_right _ hlc
            have hl' : l'.length = min n len * esz := by rw [← hrel.1, hll]
            have h1c : ∀ u ∈ l', u.oneCell' = true := by
              intro u hu
              obtain ⟨i, hi, rfl⟩ := List.getElem_of_mem hu
              have hi' : i < new.length := by rw [hrel.1]; exact hi
              have := hrel.2 i new[i] l'[i] (by simp [hi']) (by simp [hi])
              exact vrel_oneCell this ((List.all_eq_true.1 hall) _ (by simp))
            have hex : ∀ (q : Addr) (cq : Nat) (w' : World), cd = .slice (some q) len cq → (storeCells q l').run P w = .ok () w' → (execOp a.eval o).run P w = .ok (.value (.int .i64 (min n len : Nat))) w' := by
              intro q cq w' hq hst
              have hmin : Nat.min n len = min n len := rfl
              simp [execOp, ho, resolve, invoke, builtin, hcd, hcs, Builtin.copy_, h0, run_underlying ht, hq, Builtin.lenOf, run_size hs, hmin, hf, hst, goInt]
            have hoffle : p.off ≤ obj.cells.length := by omega
            by_cases hc0 : cap ≠ 0 ∨ p.off = 0
            · obtain ⟨sp, cap2, rfl, hsp, hcap, hK⟩ := sl_valid hd hrow hc0
              obtain ⟨c, te, fz, hblk, hcells, hr⟩ := hok.obj _ _ _ hσ hsp
              obtain ⟨hbase, hKs, hfz⟩ := hr hrw
              have hKle := hK hrw
              have hcm : cap * esz ≤ cap2 * esz := Nat.mul_le_mul_right _ hcap
              rw [hbase] at hKle
              have hst := run_storeCells_put P sp.blk (sp.base + p.off) te fz l' 0 c w hblk (by rw [hKs, hl', hbase]; omega) (frz hfz) h1c
              have hU := Trans.update hok hσ hrw hsp hblk (splice obj.cells p.off new) (splice c.toList (sp.base + p.off + 0) l').toArray fz (by
                simp; rw [splice_length (by simp; rw [hKs, hl', hbase]; omega)]; simp) (by
                rw [show (splice c.toList (sp.base + p.off + 0) l').toArray.size = c.size from by simp; rw [splice_length (by simp; rw [hKs, hl', hbase]; omega)]; simp]
                exact hfz) (by rw [splice_length (by omega)]; exact Nat.le_refl _) (fun h => by rw [hesz] at h; exact absurd h hne) (by
                intro j v hj
                have := splice_rel (β := β) (σ := σ) (xs := obj.cells) (c := c) (fun j v hj => by
                  obtain ⟨u, hu, hr⟩ := hcells j v hj
                  exact ⟨u, by rw [hbase] at hu; simpa using hu, hr⟩) hrel p.off hoffle (by rw [hKs, hll]; omega) j v hj
                rw [hbase]
                simpa using this)
              exact .inl ⟨_, _, hex _ _ _ rfl hst, β, hU, .int _ _⟩
            · have hc1 : cap = 0 := by omega
              have hlen0 : len = 0 := by omega
              subst hlen0
              have hl0 : l' = [] := by
                apply List.length_eq_zero_iff.1; rw [hl']; simp
              have hn0 : new = [] := by
                apply List.length_eq_zero_iff.1; rw [hll]; simp
              obtain ⟨q, cq, rfl, _, hq⟩ := sl_shape hd
              cases q with
              | none => exact absurd (hq.2 rfl) (by simp)
              | some q =>
                have hst : (storeCells q l').run P w = .ok () w := by rw [hl0]; simp [storeCells]
                have hset : σ.set p.block { obj with cells := splice obj.cells p.off new } = σ := by
                  rw [hn0, splice_nil]
                  apply List.ext_getElem?
                  intro i
                  rw [List.getElem?_set]
                  split
                  · rename_i e; subst e
                    split
                    · exact hσ.symm
                    · rename_i hge; rw [List.getElem?_eq_none (by omega)]
                  · rfl
                rw [hset]
                exact .pure_ (w' := w) hok (hex _ _ _ rfl hst) (.int _ _) (.inl rfl)
          · cases h
        · cases h
      · cases h
    · cases h
  · cases h

/-- A block is marked behind its end. -/
theorem freeze_put {b n : Nat} {c : Array Value} {e : TypeId} {fz : Nat × Nat} (hb : w.heap[b]? = some (.cells c e fz)) :
    w.freeze ⟨b, n, none⟩ 1 = World.put w b (.cells c e (if fz.1 == fz.2 then (n, n + 1) else (min fz.1 n, max fz.2 (n + 1)))) := by
  unfold World.freeze World.put
  rw [if_neg (by decide)]
  congr 1
  apply Array.ext_getElem?
  intro i
  rw [Array.getElem?_modify, Array.getElem?_setIfInBounds]
  by_cases e' : b = i
  · subst e'
    rw [if_pos rfl, if_pos rfl, if_pos (block_lt hb), hb]
    rfl
  · rw [if_neg e', if_neg e']

theorem Trans.mark (hok : InjOk β σ w) {k : Nat} {obj : AObj} {s : Spot} (ho : σ[k]? = some obj) (hrw : obj.rw = true) (hs : β k = some s) {off : Nat} :
    ∃ w', (markStringish ⟨s.blk, off, none⟩).run P w = .ok () w' ∧ Trans β σ w β σ w' := by
  obtain ⟨c, e, fz, hb, hcells, hr⟩ := hok.obj _ _ _ ho hs
  obtain ⟨hbase, hK, hfz⟩ := hr hrw
  have hsh : w.shape? s.blk = some (e, c.size) := by simp [World.shape?, hb]
  refine ⟨w.freeze ⟨s.blk, c.size, none⟩ 1, by simp [markStringish, hsh], ?_⟩
  rw [freeze_put hb]
  have hset : σ.set k { obj with cells := obj.cells } = σ := by
    apply List.ext_getElem?
    intro i
    rw [List.getElem?_set]
    split
    · rename_i e; subst e
      split
      · exact ho.symm
      · rename_i hge; rw [List.getElem?_eq_none (by omega)]
    · rfl
  have := Trans.update hok ho hrw hs hb obj.cells c (if fz.1 == fz.2 then (c.size, c.size + 1) else (min fz.1 c.size, max fz.2 (c.size + 1))) rfl (by
    split
    · exact .inr (Nat.le_refl _)
    · rename_i hne
      simp at hne
      rcases hfz with h | h
      · exact absurd h hne
      · exact .inr (by simp only; omega)) (Nat.le_refl _) (fun _ => rfl) (fun j v hj => by
      obtain ⟨u, hu, hr⟩ := hcells j v hj
      exact ⟨u, by rw [hbase] at hu; simpa using hu, hr⟩)
  rw [hset] at this
  exact this

theorem conv_run {s d : TypeId} {x : Operand} {cx : Value} (ho : o.op = .convert s d x) (hcx : a.eval x = cx) : (execOp a.eval o).run P w = ((convert s d cx).run P w).andThen fun v w => .ok (.value v) w := by
  simp [execOp, ho, hcx]

theorem convOf_toBytes {s d : TypeId} (h : convOf P s d = some .toBytes) : ∃ e, P.underlying s = some .string ∧ P.underlying d = some (.slice e) ∧ P.underlying e = some (.int .u8) := by
  unfold convOf at h
  repeat' (first | (exfalso; cases h; done) | split at h)
  all_goals first | exact ⟨_, by assumption, by assumption, by assumption⟩ | (cases h; done)

theorem convOf_toStr {s d : TypeId} (h : convOf P s d = some .toStr) : ∃ e, P.underlying d = some .string ∧ P.underlying s = some (.slice e) ∧ P.underlying e = some (.int .u8) := by
  unfold convOf at h
  repeat' (first | (exfalso; cases h; done) | split at h)
  all_goals first | exact ⟨_, by assumption, by assumption, by assumption⟩ | (cases h; done)

theorem convOf_mark {s d : TypeId} (h : convOf P s d = some .mark) : ∃ e e', s = d ∧ P.underlying d = some (.slice e) ∧ P.underlying s = some (.slice e') ∧ P.underlying e = some (.int .u8) := by
  unfold convOf at h
  repeat' (first | (exfalso; cases h; done) | split at h)
  all_goals first | exact ⟨_, _, by assumption, by assumption, by assumption, by assumption⟩ | (cases h; done)

theorem bytesOfCells_eq : ∀ {cs : List Value} {l : List UInt8}, bytesOfCells cs = some l → ∃ ns : List Int, cs = ns.map (Value.int .u8) ∧ l = ns.map fun n => UInt8.ofNat n.toNat
  | [], l, h => by cases h; exact ⟨[], rfl, rfl⟩
  | c :: cs, l, h => by
    unfold bytesOfCells at h
    split at h
    · rename_i he; cases he
    · rename_i n rest he
      simp only [List.cons.injEq] at he
      obtain ⟨rfl, rfl⟩ := he
      cases hb : bytesOfCells cs with
      | none => rw [hb] at h; cases h
      | some l0 =>
        rw [hb] at h; cases h
        obtain ⟨ns, rfl, rfl⟩ := bytesOfCells_eq hb
        exact ⟨n :: ns, rfl, rfl⟩
    · cases h

theorem foldl_push : ∀ (ns : List Int) (s : ByteArray), ns.foldl (fun r n => r.push (UInt8.ofNat n.toNat)) s = ⟨(s.data.toList ++ ns.map fun n => UInt8.ofNat n.toNat).toArray⟩ := by
  intro ns
  induction ns with
  | nil => intro s; simp
  | cons n ns ih =>
    intro s
    rw [List.foldl_cons, ih]
    apply ByteArray.ext
    simp [ByteArray.data_push]

theorem lrel_ints {cs : List Value} {ns : List Int} (h : LRel β σ (ns.map (Value.int .u8)) cs) : cs = ns.map (Value.int .u8) := by
  apply List.ext_getElem?
  intro i
  cases hi : (ns.map (Value.int .u8))[i]? with
  | none =>
    rw [List.getElem?_eq_none_iff] at hi ⊢
    rw [← h.1]; exact hi
  | some v =>
    obtain ⟨c, hc, hr⟩ := lrel_get h hi
    rw [hc]
    have := List.mem_of_getElem? hi
    rw [List.mem_map] at this
    obtain ⟨n, _, rfl⟩ := this
    cases hr; rfl

theorem does_convMem (hok : InjOk β σ w) (hF : FOk β σ F a.tmps) {st dt : TypeId} {x : Operand} {c : ConvK} (ho : o.op = .convert st dt x) (hc : convOf P st dt = some c) (hcn : c = .toBytes ∨ c = .toStr ∨ c = .mark) {σ' : Heap} (h : aConv σ c (eval F x) = some (v, σ')) :
    Does P ((execOp a.eval o).run P w) (Good β σ w v σ') := by
  have hx := eval_sound hF x
  generalize hcx : a.eval x = cx at hx
  rw [conv_run ho hcx]
  rcases hcn with rfl | rfl | rfl
  · -- a text to bytes
    obtain ⟨e, h1, h2, h3⟩ := convOf_toBytes hc
    generalize he : eval F x = ex at h hx
    cases ex <;> first | (simp [aConv] at h; done) | skip
    rename_i s
    simp only [aConv] at h
    split at h
    · rename_i hsz
      cases h
      cases hx
      have hcut := cut_cap s.size 0 e (w.tape w.drawn (.appendCap s.size 0 e))
      generalize hcap : (Question.appendCap s.size 0 e).cut (w.tape w.drawn (.appendCap s.size 0 e)) = cap at hcut
      let cells : List Value := s.data.toList.map fun b => Value.int .u8 (b.toNat : Int)
      let cs : Array Value := (s.data.map fun b => Value.int .u8 (b.toNat : Int)) ++ Array.replicate (cap - s.size) (.int .u8 0)
      obtain ⟨β', htr, hb', hsz'⟩ := good_alloc hok (.inr rfl) cells 1 cs e (by
        intro j v hj
        have hjl : j < s.data.size := by
          rcases Nat.lt_or_ge j s.data.size with h' | h'
          · exact h'
          · rw [List.getElem?_eq_none (by simpa [cells] using h')] at hj; cases hj
        refine ⟨v, ?_, ?_⟩
        · simp only [cs]
          rw [Array.getElem?_append_left (by simpa using hjl)]
          rw [← hj]
          simp [cells]
        · have := List.mem_of_getElem? hj
          rw [List.mem_map] at this
          obtain ⟨b, _, rfl⟩ := this
          exact .int _ _)
      obtain ⟨w', hm, htr'⟩ := Trans.mark (P := P) htr.ok (k := σ.length) (obj := ⟨cells, 1, true⟩) (at_last _) rfl hb' (off := 0)
      refine .inl ⟨.slice (some ⟨w.heap.size, 0, none⟩) s.size cap, w', ?_, β', htr.trans htr', ?_⟩
      · have hrun : (convert st dt (.string s)).run P w = (Conv.stringToBytes e s).run P w := by
          simp [convert, run_underlying h1, run_underlying h2, run_underlying h3]
        rw [hrun]
        have hm' : (markStringish ⟨w.heap.size, 0, none⟩).run P (w.drew.alloc (.cells cs e)) = .ok () w' := hm
        have hst : (Conv.stringToBytes e s).run P w = ((markStringish ⟨w.heap.size, 0, none⟩).run P (w.drew.alloc (.cells cs e))).andThen fun _ w' => .ok (.slice (some ⟨w.heap.size, 0, none⟩) s.size cap) w' := by
          simp [Conv.stringToBytes, Question.forced, hcap, Go.newRow, cs]
        rw [hst, hm']
        rfl
      · have hcl : cells.length = s.size := by simp [cells]
        have hcs : cs.size = cap := by
          have : s.data.size = s.size := rfl
          simp [cs, this]; omega
        refine .sl ⟨σ.length, 0, none⟩ ⟨cells, 1, true⟩ (at_last _) _ _ _ _ (fun _ => by simp [hcl]) hcut fun _ _ _ => ⟨_, hb', rfl, fun _ => ?_⟩
        simp [hcs]
    · cases h
  · obtain ⟨e, h1, h2, h3⟩ := convOf_toStr hc
    generalize he : eval F x = ex at h hx
    cases ex <;> first | (simp [aConv] at h; done) | skip
    rename_i p len cap
    simp only [aConv] at h
    cases hsc : sliceCells σ 1 (.slice p len cap) len with
    | none => rw [hsc] at h; cases h
    | some cs =>
      rw [hsc] at h
      simp only [Option.bind_some] at h
      cases hb : bytesOfCells cs with
      | none => rw [hb] at h; cases h
      | some l =>
        rw [hb] at h; cases h
        obtain ⟨ns, rfl, rfl⟩ := bytesOfCells_eq hb
        obtain ⟨l', hf, hrel, hll⟩ := firstCells_sound (P := P) hok hsc hx
        obtain rfl := lrel_ints hrel
        obtain ⟨p', cap', rfl, _, hp⟩ := sl_shape hx
        refine .pure_ (c := .string ⟨(ns.map fun n => UInt8.ofNat n.toNat).toArray⟩) (w' := w) hok ?_ (.string _) (.inl rfl)
        cases p' with
        | none =>
          obtain rfl := hp.2 rfl
          obtain ⟨_, hnil⟩ := sliceCells_none hsc
          have hns : ns = [] := by cases ns with | nil => rfl | cons a b => simp at hnil
          subst hns
          simp [convert, run_underlying h1, run_underlying h2, run_underlying h3, Conv.bytesToString]
          rfl
        | some q =>
          have hlc : (loadCells q len).run P w = .ok (ns.map (Value.int .u8)).toArray w := by
            simpa [Builtin.firstCells] using hf
          rw [run_convert_bytes_string w _ _ _ _ _ _ h2 h3 h1, run_bytesToString w q len cap' ns hlc, foldl_push]
          simp
  · obtain ⟨e, e', rfl, h1, h2, h3⟩ := convOf_mark hc
    generalize he : eval F x = ex at h hx
    cases ex <;> first | (simp [aConv] at h; done) | skip
    rename_i p len cap
    cases p with
    | none => simp [aConv] at h
    | some p =>
      simp only [aConv] at h
      split at h
      · rename_i obj hrow
        split at h
        · rename_i hrw
          cases h
          obtain ⟨hσ, hesz, hlen, hne⟩ := rowAt_some hrow
          have hx' := hx
          obtain ⟨sp, cap', rfl, hsp, hcap, hK⟩ := sl_valid hx hrow (.inr hrw.2)
          obtain ⟨w', hm, htr⟩ := Trans.mark (P := P) hok hσ hrw.1 hsp (off := sp.base + p.off)
          refine .inl ⟨_, w', ?_, β, htr, hx'.later htr.later⟩
          simp [convert, run_underlying h1, run_underlying h2, run_underlying h3, hm]
        · cases h
      · cases h

end
end Go.Abs

/- The abstract machine: every operation stands for the model's. Condition: the contracts that are used hold. -/
namespace Go.Abs

/-- A contract holds of a function. -/
structure SimOk (P : Program) (f : FuncId) (c : Contract) : Prop where
  sim : ∀ args σ v σ', c.fn args σ = some (v, σ') → ∀ (β : Inj) (w : World) (cargs : Array Value), InjOk β σ w → LRel β σ args cargs.toList → Does P ((callFunc f cargs).run P w) (Good β σ w v σ')
  quiet : c.quiet = true → ∀ args σ v σ', c.fn args σ = some (v, σ') → ∃ τ, σ' = σ ++ τ

def CtabOk (P : Program) (C : Ctab) : Prop := ∀ f c, C f = some c → SimOk P f c

section
variable {P : Program} {C : Ctab} {β : Inj} {σ : Heap} {w : World} {o : Oper} {F : Frame} {a : Act} {v : Value}

theorem does_call (hC : CtabOk P C) (hok : InjOk β σ w) (hF : FOk β σ F a.tmps) {f : Operand} {args : Array Operand} {ts : Array TypeId} (ho : o.op = .call { callee := .value f, args := args, argTypes := ts }) {σ' : Heap}
    (h : aCall C σ (eval F f) (args.toList.map (eval F)) = some (v, σ')) : Does P ((execOp a.eval o).run P w) (Good β σ w v σ') := by
  have hf := eval_sound hF f
  generalize hcf : a.eval f = cf at hf
  unfold aCall at h
  split at h
  · rename_i g first captured he
    rw [he] at hf
    split at h
    · rename_i c hc
      cases hf with
      | func fn x y x' y' hx hy h1 h2 =>
        have hargs : LRel β σ (args.toList.map (eval F)) ((args.map a.eval).toList) := by
          refine ⟨by simp, fun i v c hv hc => ?_⟩
          simp only [List.getElem?_map, Array.toList_map, Array.getElem?_toList] at hv hc
          cases hz : args[i]? with
          | none => rw [hz] at hv; cases hv
          | some q => rw [hz] at hv hc; cases hv; cases hc; exact eval_sound hF q
        have := (hC g c hc).sim _ _ _ _ h β w (x' ++ args.map a.eval ++ y') hok (by
          simp only [Array.toList_append]
          exact lrel_append (lrel_append (agg_lrel hx h1) hargs) (agg_lrel hy h2))
        have hrun : (execOp a.eval o).run P w = (callFunc g (x' ++ args.map a.eval ++ y')).run P w := by
          simp [execOp, ho, Go.resolve, Deferred.ofValue, hcf, invoke]
        rw [hrun]
        exact this
    · cases h
  · cases h

theorem map_pair {x : Option Value} {σ' : Heap} (h : x.map (·, σ) = some (v, σ')) : x = some v ∧ σ' = σ := by
  cases x with
  | none => cases h
  | some y => simp at h; exact ⟨by rw [h.1], h.2.symm⟩

/-- Every operation. -/
theorem evOp_sound (hC : CtabOk P C) (hok : InjOk β σ w) (hF : FOk β σ F a.tmps) {s : SOp} (hs : rOp P o.op = some s) {σ' : Heap} (h : evOp C F σ s = some (v, σ')) : Does P ((execOp a.eval o).run P w) (Good β σ w v σ') := by
  cases ho : o.op with
  | move x => rw [ho] at hs; simp [rOp] at hs; subst hs; simp [evOp] at h; obtain ⟨rfl, rfl⟩ := h; exact does_mov hok hF (.inl ho)
  | assign x => rw [ho] at hs; simp [rOp] at hs; subst hs; simp [evOp] at h; obtain ⟨rfl, rfl⟩ := h; exact does_mov hok hF (.inr ho)
  | pick c x y => rw [ho] at hs; simp [rOp] at hs; subst hs; obtain ⟨hh, rfl⟩ := map_pair h; exact does_pick hok hF ho hh
  | alloc t =>
    rw [ho] at hs
    simp only [rOp] at hs
    cases hz : zeroOf P t with
    | none => rw [hz] at hs; cases hs
    | some z => rw [hz] at hs; simp at hs; subst hs; exact does_alloc hok ho hz h
  | box t x => rw [ho] at hs; simp [rOp] at hs; subst hs; exact does_box hok hF ho h
  | build t ps =>
    rw [ho] at hs
    simp only [rOp] at hs
    split at hs
    · rename_i fs ht
      split at hs
      · rename_i hfs
        split at hs
        · rename_i z l hz hl
          cases hs
          obtain ⟨hh, rfl⟩ := map_pair h
          exact does_build_struct hok hF ho ht hfs hz hl hh
        · cases hs
      · cases hs
    · rename_i n e ht
      split at hs
      · rename_i s' z l hs' hz hl
        cases hs
        obtain ⟨hh, rfl⟩ := map_pair h
        exact does_build_array hok hF ho ht hs' hz hl hh
      · cases hs
    · cases hs
  | buildSlice t len ps =>
    rw [ho] at hs
    simp only [rOp, sliceElem] at hs
    split at hs
    · rename_i e hse
      split at hse
      · rename_i e' ht
        cases hse
        split at hs
        · rename_i s' z hs' hz
          split at hs
          · rename_i hb
            cases hl : partsOf (fun i => some (i * s', s')) ps.toList with
            | none => rw [hl] at hs; cases hs
            | some l =>
              rw [hl] at hs
              cases hs
              exact does_buildSlice hok hF ho ht hs' hz hb hl h
          · cases hs
        · cases hs
      · cases hse
    · cases hs
  | insert => rw [ho] at hs; simp [rOp] at hs
  | load t x =>
    rw [ho] at hs
    simp only [rOp] at hs
    split at hs
    · rename_i n hag hn
      cases hs
      obtain ⟨hh, rfl⟩ := map_pair h
      obtain ⟨u, hu, hv⟩ := loadN_sound (P := P) hok hag hn hh (eval_sound hF x)
      exact .pure_ (w' := w) hok (by simp [execOp, ho, hu]) hv (.inl rfl)
    · rename_i hag
      cases hs
      obtain ⟨hh, rfl⟩ := map_pair h
      obtain ⟨u, hu, hv⟩ := load1_sound (P := P) hok hag hh (eval_sound hF x)
      exact .pure_ (w' := w) hok (by simp [execOp, ho, hu]) hv (.inl rfl)
    · cases hs
  | store t p x =>
    rw [ho] at hs
    simp only [rOp] at hs
    cases hn : sizeOfT P t with
    | none => rw [hn] at hs; cases hs
    | some n =>
      rw [hn] at hs; cases hs
      simp only [evOp] at h
      cases hst : aStore σ n (eval F p) (eval F x) with
      | none => rw [hst] at h; cases h
      | some σ2 => rw [hst] at h; simp at h; obtain ⟨rfl, rfl⟩ := h; exact does_store hok hF ho hn hst
  | ready => rw [ho] at hs; simp [rOp] at hs
  | waits => rw [ho] at hs; simp [rOp] at hs
  | nilCheck x => rw [ho] at hs; simp [rOp] at hs; subst hs; obtain ⟨hh, rfl⟩ := map_pair h; exact does_nilCheck hok hF ho hh
  | binOp op t x y u => rw [ho] at hs; simp [rOp] at hs; subst hs; obtain ⟨hh, rfl⟩ := map_pair h; exact does_bin hok hF ho hh
  | unOp op t x => rw [ho] at hs; simp [rOp] at hs; subst hs; obtain ⟨hh, rfl⟩ := map_pair h; exact does_un hok hF ho hh
  | convert st dt x =>
    rw [ho] at hs
    simp only [rOp] at hs
    cases hc : convOf P st dt with
    | none => rw [hc] at hs; cases hs
    | some c =>
      rw [hc] at hs; cases hs
      simp only [evOp] at h
      by_cases hcn : c ≠ .toBytes ∧ c ≠ .toStr ∧ c ≠ .mark
      · exact does_conv hok hF ho hc hcn h
      · refine does_convMem hok hF ho hc ?_ h
        by_cases h1 : c = .toBytes
        · exact .inl h1
        · by_cases h2 : c = .toStr
          · exact .inr (.inl h2)
          · by_cases h3 : c = .mark
            · exact .inr (.inr h3)
            · exact absurd ⟨h1, h2, h3⟩ hcn
  | sliceToArrayPointer => rw [ho] at hs; simp [rOp] at hs
  | makeInterface => rw [ho] at hs; simp [rOp] at hs; subst hs; simp [evOp, aExtract, eval, constOk] at h
  | makeFunc fn x y =>
    rw [ho] at hs
    cases fn <;> simp [rOp] at hs
    subst hs
    simp [evOp] at h
    obtain ⟨rfl, rfl⟩ := h
    have := does_makeFunc (P := P) (w := w) hok hF ho
    simpa using this
  | makeMap => rw [ho] at hs; simp [rOp] at hs
  | makeChan => rw [ho] at hs; simp [rOp] at hs
  | makeSlice t l c =>
    rw [ho] at hs
    simp only [rOp, sliceElem] at hs
    split at hs
    · rename_i e hse
      split at hse
      · rename_i e' ht
        cases hse
        split at hs
        · rename_i s' b z hs' hb hz
          cases hs
          exact does_makeSlice hok hF ho ht hs' hb hz h
        · cases hs
      · cases hse
    · cases hs
  | slice t x lo hi mx =>
    rw [ho] at hs
    cases mx with
    | some m => simp [rOp] at hs
    | none =>
      simp only [rOp] at hs
      split at hs
      · rename_i ht
        cases hs
        obtain ⟨hh, rfl⟩ := map_pair h
        exact does_sliceStr hok hF ho ht hh
      · rename_i e ht
        cases hn : sizeOfT P e with
        | none => rw [hn] at hs; cases hs
        | some n =>
          rw [hn] at hs; cases hs
          obtain ⟨hh, rfl⟩ := map_pair h
          exact does_sliceSl hok hF ho ht hn hh
      · cases hs
  | fieldAddr t x f =>
    rw [ho] at hs
    simp only [rOp] at hs
    split at hs
    · rename_i fs ht
      split at hs
      · rename_i fd hf
        split at hs
        · rename_i n hn
          cases hs
          obtain ⟨hh, rfl⟩ := map_pair h
          exact does_fieldAddr hok hF ho ht hf hn hh
        · cases hs
      · cases hs
    · cases hs
  | field t x f =>
    rw [ho] at hs
    simp only [rOp] at hs
    split at hs
    · rename_i fs ht
      split at hs
      · rename_i fd hf
        split at hs
        · rename_i n hag hn
          cases hs
          obtain ⟨hh, rfl⟩ := map_pair h
          exact does_fieldN hok hF ho ht hf hag hn hh
        · rename_i hag
          cases hs
          obtain ⟨hh, rfl⟩ := map_pair h
          exact does_field1 hok hF ho ht hf hag hh
        · cases hs
      · cases hs
    · cases hs
  | indexAddr t x i =>
    rw [ho] at hs
    simp only [rOp] at hs
    split at hs
    · rename_i e ht
      cases hn : sizeOfT P e with
      | none => rw [hn] at hs; cases hs
      | some n =>
        rw [hn] at hs; cases hs
        obtain ⟨hh, rfl⟩ := map_pair h
        exact does_indexAddrS hok hF ho ht hn hh
    · rename_i m e ht
      cases hn : sizeOfT P e with
      | none => rw [hn] at hs; cases hs
      | some n =>
        rw [hn] at hs; cases hs
        obtain ⟨hh, rfl⟩ := map_pair h
        exact does_indexAddrA hok hF ho ht hn hh
    · cases hs
  | index t x i =>
    rw [ho] at hs
    simp only [rOp] at hs
    split at hs
    · rename_i ht
      cases hs
      obtain ⟨hh, rfl⟩ := map_pair h
      exact does_indexStr hok hF ho ht hh
    · rename_i m e ht
      split at hs
      · rename_i n hag hn
        cases hs
        obtain ⟨hh, rfl⟩ := map_pair h
        exact does_indexN hok hF ho ht hag hn hh
      · rename_i hag hn
        cases hs
        obtain ⟨hh, rfl⟩ := map_pair h
        exact does_index1 hok hF ho ht hag hn hh
      · cases hs
    · cases hs
  | lookup => rw [ho] at hs; simp [rOp] at hs
  | mapUpdate => rw [ho] at hs; simp [rOp] at hs
  | mapEntry => rw [ho] at hs; simp [rOp] at hs
  | entryStore => rw [ho] at hs; simp [rOp] at hs
  | range => rw [ho] at hs; simp [rOp] at hs
  | next => rw [ho] at hs; simp [rOp] at hs
  | entry => rw [ho] at hs; simp [rOp] at hs
  | typeAssert => rw [ho] at hs; simp [rOp] at hs
  | extract x i => rw [ho] at hs; simp [rOp] at hs; subst hs; obtain ⟨hh, rfl⟩ := map_pair h; exact does_extract hok hF ho hh
  | call c =>
    rw [ho] at hs
    obtain ⟨callee, args, ts⟩ := c
    cases callee with
    | invoke r m => simp [rOp] at hs
    | value f =>
      simp only [rOp, Option.some.injEq] at hs
      subst hs
      exact does_call hC hok hF ho h
    | builtin b =>
      simp only [rOp] at hs
      have toArr : ∀ {α : Type} (xs : Array α) (l : List α), xs.toList = l → xs = l.toArray := fun xs l h => by rw [← h]
      unfold rBuiltin at hs
      split at hs
      · -- len
        rename_i x t rest ha hts
        have ha' := toArr _ _ ha
        have hts' : ts[0]? = some t := by rw [toArr _ _ hts]; simp
        rw [ha'] at ho
        split at hs
        · rename_i hu
          cases hs
          obtain ⟨hh, rfl⟩ := map_pair h
          exact does_len hok hF ho hts' true (by simpa using hu) hh
        · rename_i e hu
          cases hs
          obtain ⟨hh, rfl⟩ := map_pair h
          exact does_len hok hF ho hts' false (by simpa using ⟨e, hu⟩) hh
        · cases hs
      · -- cap
        rename_i x t rest ha hts
        have ha' := toArr _ _ ha
        have hts' : ts[0]? = some t := by rw [toArr _ _ hts]; simp
        rw [ha'] at ho
        split at hs
        · rename_i e hu
          cases hs
          obtain ⟨hh, rfl⟩ := map_pair h
          exact does_cap hok hF ho hts' ⟨e, hu⟩ hh
        · cases hs
      · -- append
        rename_i sx x t u rest ha hts
        have ha' := toArr _ _ ha
        have hts0 : ts[0]? = some t := by rw [toArr _ _ hts]; simp
        have hts1 : ts[1]? = some u := by rw [toArr _ _ hts]; simp
        rw [ha'] at ho
        split at hs
        · rename_i e ud ht hu
          split at hs
          · rename_i kk
            split at hs
            · rename_i z b zs h1 h2 h3
              split at hs
              · rename_i hc
                cases hs
                exact does_appendZ hok hF ht hu h1 h2 h3 hc.1 hc.2 hts0 hts1 ho h
              · cases hs
            · cases hs
          · rename_i hni
            split at hs
            · rename_i z b zs h1 h2 h3
              split at hs
              · rename_i hc
                cases hs
                exact does_append hok hF ⟨ht, ⟨ud, hu, fun k hk => hni k hk⟩, h1, h2, h3, hc.1, hc.2⟩ hts0 hts1 ho h
              · cases hs
            · cases hs
        · cases hs
      · -- copy
        rename_i d sx t rest ha hts
        have ha' := toArr _ _ ha
        have hts0 : ts[0]? = some t := by rw [toArr _ _ hts]; simp
        rw [ha'] at ho
        split at hs
        · rename_i e ht
          cases hn : sizeOfT P e with
          | none => rw [hn] at hs; cases hs
          | some n => rw [hn] at hs; cases hs; exact does_copy hok hF ht hn hts0 ho h
        · cases hs
      · cases hs
        obtain ⟨hh, rfl⟩ := map_pair h
        exact does_minmax hok hF false (by simpa using ho) hh
      · cases hs
        obtain ⟨hh, rfl⟩ := map_pair h
        exact does_minmax hok hF true (by simpa using ho) hh
      · cases hs
  | go => rw [ho] at hs; simp [rOp] at hs
  | defer => rw [ho] at hs; simp [rOp] at hs
  | panic => rw [ho] at hs; simp [rOp] at hs; subst hs; simp [evOp, aExtract, eval, constOk] at h
  | send => rw [ho] at hs; simp [rOp] at hs
  | recv => rw [ho] at hs; simp [rOp] at hs
  | select => rw [ho] at hs; simp [rOp] at hs

end
end Go.Abs

