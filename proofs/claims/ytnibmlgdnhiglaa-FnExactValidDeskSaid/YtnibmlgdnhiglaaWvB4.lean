/- The abstract machine: copies, bytes and texts, calls. No condition. -/
import Derived.Test.YtnibmlgdnhiglaaWvB3
namespace Go.Abs

section
variable {P : Program} {β : Inj} {σ : Heap} {w : World} {o : Oper} {F : Frame} {a : Act} {v : Value}

theorem sliceCells_none {esz n : Nat} {l : List Value} {m c : Nat} (h : sliceCells σ esz (.slice none m c) n = some l) : n = 0 ∧ l = [] := by
  unfold sliceCells at h
  simp only at h
  split at h
  · rename_i h0; cases h; exact ⟨h0, rfl⟩
  · cases h

theorem does_copy (hok : InjOk β σ w) (hF : FOk β σ F a.tmps) {t e : TypeId} {esz : Nat} (ht : P.underlying t = some (.slice e)) (hs : sizeOfT P e = some esz) {ts : Array TypeId} (h0 : ts[0]? = some t) {d s : Operand}
    (ho : o.op = .call { callee := .builtin .copy, args := #[d, s], argTypes := ts }) {σ' : Heap} (h : aCopy σ esz (eval F d) (eval F s) = some (v, σ')) : Does P ((execOp a.eval o).run P w) (Good β σ w v σ') := by
  have hd := eval_sound hF d
  have hs' := eval_sound hF s
  generalize hcd : a.eval d = cd at hd
  generalize hcs : a.eval s = cs at hs'
  unfold aCopy at h
  split at h
  · rename_i p len cap he
    rw [he] at hd
    split at h
    · rename_i b n c he2
      rw [he2] at hs'
      split at h
      · rename_i new hnew
        split at h
        · rename_i obj hrow
          split at h
          · rename_i hb
            obtain ⟨hrw, hlc, hall⟩ := hb
            cases h
            obtain ⟨hσ, hesz, hlen, hne⟩ := rowAt_some hrow
            obtain ⟨l', hf, hrel, hll⟩ := firstCells_sound (P := P) hok hnew hs'
            obtain ⟨p', cap', rfl, _, _⟩ := sl_shape hs'
            have hmul : min n len * esz ≤ len * esz := Nat.mul_le_mul_right _ (Nat.min_le_right _ _)
            have hmul2 : len * esz ≤ cap * esz := Nat.mul_le_mul_right _ hlc
            have hl' : l'.length = min n len * esz := by rw [← hrel.1, hll]
            have h1c : ∀ u ∈ l', u.oneCell' = true := by
              intro u hu
              obtain ⟨i, hi, rfl⟩ := List.getElem_of_mem hu
              have hi' : i < new.length := by rw [hrel.1]; exact hi
              have := hrel.2 i new[i] l'[i] (by simp [hi']) (by simp [hi])
              exact vrel_oneCell this ((List.all_eq_true.1 hall) _ (by simp))
            have hex : ∀ (q : Addr) (cq : Nat) (w' : World), cd = .slice (some q) len cq → (storeCells q l').run P w = .ok () w' → (execOp a.eval o).run P w = .ok (.value (.int .i64 (min n len : Nat))) w' := by
              intro q cq w' hq hst
              have hmin : Nat.min n len = min n len := rfl
              simp [execOp, ho, resolve, invoke, builtin, hcd, hcs, Builtin.copy_, h0, run_underlying ht, hq, Builtin.lenOf, run_size hs, hmin, hf, hst, goInt]
            have hoffle : p.off ≤ obj.cells.length := by omega
            by_cases hc0 : cap ≠ 0 ∨ p.off = 0
            · obtain ⟨sp, cap2, rfl, hsp, hcap, hK⟩ := sl_valid hd hrow hc0
              obtain ⟨c, te, fz, hblk, hcells, hr⟩ := hok.obj _ _ _ hσ hsp
              obtain ⟨hbase, hKs, hfz⟩ := hr hrw
              have hKle := hK hrw
              have hcm : cap * esz ≤ cap2 * esz := Nat.mul_le_mul_right _ hcap
              rw [hbase] at hKle
              have hst := run_storeCells_put P sp.blk (sp.base + p.off) te fz l' 0 c w hblk (by rw [hKs, hl', hbase]; omega) (frz hfz) h1c
              have hU := Trans.update hok hσ hrw hsp hblk (splice obj.cells p.off new) (splice c.toList (sp.base + p.off + 0) l').toArray fz (by
                simp; rw [splice_length (by simp; rw [hKs, hl', hbase]; omega)]; simp) (by
                rw [show (splice c.toList (sp.base + p.off + 0) l').toArray.size = c.size from by simp; rw [splice_length (by simp; rw [hKs, hl', hbase]; omega)]; simp]
                exact hfz) (by rw [splice_length (by omega)]; exact Nat.le_refl _) (fun h => by rw [hesz] at h; exact absurd h hne) (by
                intro j v hj
                have := splice_rel (β := β) (σ := σ) (xs := obj.cells) (c := c) (fun j v hj => by
                  obtain ⟨u, hu, hr⟩ := hcells j v hj
                  exact ⟨u, by rw [hbase] at hu; simpa using hu, hr⟩) hrel p.off hoffle (by rw [hKs, hll]; omega) j v hj
                rw [hbase]
                simpa using this)
              exact .inl ⟨_, _, hex _ _ _ rfl hst, β, hU, .int _ _⟩
            · have hc1 : cap = 0 := by omega
              have hlen0 : len = 0 := by omega
              subst hlen0
              have hl0 : l' = [] := by
                apply List.length_eq_zero_iff.1; rw [hl']; simp
              have hn0 : new = [] := by
                apply List.length_eq_zero_iff.1; rw [hll]; simp
              obtain ⟨q, cq, rfl, _, hq⟩ := sl_shape hd
              cases q with
              | none => exact absurd (hq.2 rfl) (by simp)
              | some q =>
                have hst : (storeCells q l').run P w = .ok () w := by rw [hl0]; simp [storeCells]
                have hset : σ.set p.block { obj with cells := splice obj.cells p.off new } = σ := by
                  rw [hn0, splice_nil]
                  apply List.ext_getElem?
                  intro i
                  rw [List.getElem?_set]
                  split
                  · rename_i e; subst e
                    split
                    · exact hσ.symm
                    · rename_i hge; rw [List.getElem?_eq_none (by omega)]
                  · rfl
                rw [hset]
                exact .pure_ (w' := w) hok (hex _ _ _ rfl hst) (.int _ _) (.inl rfl)
          · cases h
        · cases h
      · cases h
    · cases h
  · cases h

/-- A block is marked behind its end. -/
theorem freeze_put {b n : Nat} {c : Array Value} {e : TypeId} {fz : Nat × Nat} (hb : w.heap[b]? = some (.cells c e fz)) :
    w.freeze ⟨b, n, none⟩ 1 = World.put w b (.cells c e (if fz.1 == fz.2 then (n, n + 1) else (min fz.1 n, max fz.2 (n + 1)))) := by
  unfold World.freeze World.put
  rw [if_neg (by decide)]
  congr 1
  apply Array.ext_getElem?
  intro i
  rw [Array.getElem?_modify, Array.getElem?_setIfInBounds]
  by_cases e' : b = i
  · subst e'
    rw [if_pos rfl, if_pos rfl, if_pos (block_lt hb), hb]
    rfl
  · rw [if_neg e', if_neg e']

theorem Trans.mark (hok : InjOk β σ w) {k : Nat} {obj : AObj} {s : Spot} (ho : σ[k]? = some obj) (hrw : obj.rw = true) (hs : β k = some s) {off : Nat} :
    ∃ w', (markStringish ⟨s.blk, off, none⟩).run P w = .ok () w' ∧ Trans β σ w β σ w' := by
  obtain ⟨c, e, fz, hb, hcells, hr⟩ := hok.obj _ _ _ ho hs
  obtain ⟨hbase, hK, hfz⟩ := hr hrw
  have hsh : w.shape? s.blk = some (e, c.size) := by simp [World.shape?, hb]
  refine ⟨w.freeze ⟨s.blk, c.size, none⟩ 1, by simp [markStringish, hsh], ?_⟩
  rw [freeze_put hb]
  have hset : σ.set k { obj with cells := obj.cells } = σ := by
    apply List.ext_getElem?
    intro i
    rw [List.getElem?_set]
    split
    · rename_i e; subst e
      split
      · exact ho.symm
      · rename_i hge; rw [List.getElem?_eq_none (by omega)]
    · rfl
  have := Trans.update hok ho hrw hs hb obj.cells c (if fz.1 == fz.2 then (c.size, c.size + 1) else (min fz.1 c.size, max fz.2 (c.size + 1))) rfl (by
    split
    · exact .inr (Nat.le_refl _)
    · rename_i hne
      simp at hne
      rcases hfz with h | h
      · exact absurd h hne
      · exact .inr (by simp only; omega)) (Nat.le_refl _) (fun _ => rfl) (fun j v hj => by
      obtain ⟨u, hu, hr⟩ := hcells j v hj
      exact ⟨u, by rw [hbase] at hu; simpa using hu, hr⟩)
  rw [hset] at this
  exact this

theorem conv_run {s d : TypeId} {x : Operand} {cx : Value} (ho : o.op = .convert s d x) (hcx : a.eval x = cx) : (execOp a.eval o).run P w = ((convert s d cx).run P w).andThen fun v w => .ok (.value v) w := by
  simp [execOp, ho, hcx]

theorem convOf_toBytes {s d : TypeId} (h : convOf P s d = some .toBytes) : ∃ e, P.underlying s = some .string ∧ P.underlying d = some (.slice e) ∧ P.underlying e = some (.int .u8) := by
  unfold convOf at h
  repeat' (first | (exfalso; cases h; done) | split at h)
  all_goals first | exact ⟨_, by assumption, by assumption, by assumption⟩ | (cases h; done)

theorem convOf_toStr {s d : TypeId} (h : convOf P s d = some .toStr) : ∃ e, P.underlying d = some .string ∧ P.underlying s = some (.slice e) ∧ P.underlying e = some (.int .u8) := by
  unfold convOf at h
  repeat' (first | (exfalso; cases h; done) | split at h)
  all_goals first | exact ⟨_, by assumption, by assumption, by assumption⟩ | (cases h; done)

theorem convOf_mark {s d : TypeId} (h : convOf P s d = some .mark) : ∃ e e', s = d ∧ P.underlying d = some (.slice e) ∧ P.underlying s = some (.slice e') ∧ P.underlying e = some (.int .u8) := by
  unfold convOf at h
  repeat' (first | (exfalso; cases h; done) | split at h)
  all_goals first | exact ⟨_, _, by assumption, by assumption, by assumption, by assumption⟩ | (cases h; done)

theorem bytesOfCells_eq : ∀ {cs : List Value} {l : List UInt8}, bytesOfCells cs = some l → ∃ ns : List Int, cs = ns.map (Value.int .u8) ∧ l = ns.map fun n => UInt8.ofNat n.toNat
  | [], l, h => by cases h; exact ⟨[], rfl, rfl⟩
  | c :: cs, l, h => by
    unfold bytesOfCells at h
    split at h
    · rename_i he; cases he
    · rename_i n rest he
      simp only [List.cons.injEq] at he
      obtain ⟨rfl, rfl⟩ := he
      cases hb : bytesOfCells cs with
      | none => rw [hb] at h; cases h
      | some l0 =>
        rw [hb] at h; cases h
        obtain ⟨ns, rfl, rfl⟩ := bytesOfCells_eq hb
        exact ⟨n :: ns, rfl, rfl⟩
    · cases h

theorem foldl_push : ∀ (ns : List Int) (s : ByteArray), ns.foldl (fun r n => r.push (UInt8.ofNat n.toNat)) s = ⟨(s.data.toList ++ ns.map fun n => UInt8.ofNat n.toNat).toArray⟩ := by
  intro ns
  induction ns with
  | nil => intro s; simp
  | cons n ns ih =>
    intro s
    rw [List.foldl_cons, ih]
    apply ByteArray.ext
    simp [ByteArray.data_push]

theorem lrel_ints {cs : List Value} {ns : List Int} (h : LRel β σ (ns.map (Value.int .u8)) cs) : cs = ns.map (Value.int .u8) := by
  apply List.ext_getElem?
  intro i
  cases hi : (ns.map (Value.int .u8))[i]? with
  | none =>
    rw [List.getElem?_eq_none_iff] at hi ⊢
    rw [← h.1]; exact hi
  | some v =>
    obtain ⟨c, hc, hr⟩ := lrel_get h hi
    rw [hc]
    have := List.mem_of_getElem? hi
    rw [List.mem_map] at this
    obtain ⟨n, _, rfl⟩ := this
    cases hr; rfl

theorem does_convMem (hok : InjOk β σ w) (hF : FOk β σ F a.tmps) {st dt : TypeId} {x : Operand} {c : ConvK} (ho : o.op = .convert st dt x) (hc : convOf P st dt = some c) (hcn : c = .toBytes ∨ c = .toStr ∨ c = .mark) {σ' : Heap} (h : aConv σ c (eval F x) = some (v, σ')) :
    Does P ((execOp a.eval o).run P w) (Good β σ w v σ') := by
  have hx := eval_sound hF x
  generalize hcx : a.eval x = cx at hx
  rw [conv_run ho hcx]
  rcases hcn with rfl | rfl | rfl
  · -- a text to bytes
    obtain ⟨e, h1, h2, h3⟩ := convOf_toBytes hc
    generalize he : eval F x = ex at h hx
    cases ex <;> first | (simp [aConv] at h; done) | skip
    rename_i s
    simp only [aConv] at h
    split at h
    · rename_i hsz
      cases h
      cases hx
      have hcut := cut_cap s.size 0 e (w.tape w.drawn (.appendCap s.size 0 e))
      generalize hcap : (Question.appendCap s.size 0 e).cut (w.tape w.drawn (.appendCap s.size 0 e)) = cap at hcut
      let cells : List Value := s.data.toList.map fun b => Value.int .u8 (b.toNat : Int)
      let cs : Array Value := (s.data.map fun b => Value.int .u8 (b.toNat : Int)) ++ Array.replicate (cap - s.size) (.int .u8 0)
      obtain ⟨β', htr, hb', hsz'⟩ := good_alloc hok (.inr rfl) cells 1 cs e (by
        intro j v hj
        have hjl : j < s.data.size := by
          rcases Nat.lt_or_ge j s.data.size with h' | h'
          · exact h'
          · rw [List.getElem?_eq_none (by simpa [cells] using h')] at hj; cases hj
        refine ⟨v, ?_, ?_⟩
        · simp only [cs]
          rw [Array.getElem?_append_left (by simpa using hjl)]
          rw [← hj]
          simp [cells]
        · have := List.mem_of_getElem? hj
          rw [List.mem_map] at this
          obtain ⟨b, _, rfl⟩ := this
          exact .int _ _)
      obtain ⟨w', hm, htr'⟩ := Trans.mark (P := P) htr.ok (k := σ.length) (obj := ⟨cells, 1, true⟩) (at_last _) rfl hb' (off := 0)
      refine .inl ⟨.slice (some ⟨w.heap.size, 0, none⟩) s.size cap, w', ?_, β', htr.trans htr', ?_⟩
      · have hrun : (convert st dt (.string s)).run P w = (Conv.stringToBytes e s).run P w := by
          simp [convert, run_underlying h1, run_underlying h2, run_underlying h3]
        rw [hrun]
        have hm' : (markStringish ⟨w.heap.size, 0, none⟩).run P (w.drew.alloc (.cells cs e)) = .ok () w' := hm
        have hst : (Conv.stringToBytes e s).run P w = ((markStringish ⟨w.heap.size, 0, none⟩).run P (w.drew.alloc (.cells cs e))).andThen fun _ w' => .ok (.slice (some ⟨w.heap.size, 0, none⟩) s.size cap) w' := by
          simp [Conv.stringToBytes, Question.forced, hcap, Go.newRow, cs]
        rw [hst, hm']
        rfl
      · have hcl : cells.length = s.size := by simp [cells]
        have hcs : cs.size = cap := by
          have : s.data.size = s.size := rfl
          simp [cs, this]; omega
        refine .sl ⟨σ.length, 0, none⟩ ⟨cells, 1, true⟩ (at_last _) _ _ _ _ (fun _ => by simp [hcl]) hcut fun _ _ _ => ⟨_, hb', rfl, fun _ => ?_⟩
        simp [hcs]
    · cases h
  · obtain ⟨e, h1, h2, h3⟩ := convOf_toStr hc
    generalize he : eval F x = ex at h hx
    cases ex <;> first | (simp [aConv] at h; done) | skip
    rename_i p len cap
    simp only [aConv] at h
    cases hsc : sliceCells σ 1 (.slice p len cap) len with
    | none => rw [hsc] at h; cases h
    | some cs =>
      rw [hsc] at h
      simp only [Option.bind_some] at h
      cases hb : bytesOfCells cs with
      | none => rw [hb] at h; cases h
      | some l =>
        rw [hb] at h; cases h
        obtain ⟨ns, rfl, rfl⟩ := bytesOfCells_eq hb
        obtain ⟨l', hf, hrel, hll⟩ := firstCells_sound (P := P) hok hsc hx
        obtain rfl := lrel_ints hrel
        obtain ⟨p', cap', rfl, _, hp⟩ := sl_shape hx
        refine .pure_ (c := .string ⟨(ns.map fun n => UInt8.ofNat n.toNat).toArray⟩) (w' := w) hok ?_ (.string _) (.inl rfl)
        cases p' with
        | none =>
          obtain rfl := hp.2 rfl
          obtain ⟨_, hnil⟩ := sliceCells_none hsc
          have hns : ns = [] := by cases ns with | nil => rfl | cons a b => simp at hnil
          subst hns
          simp [convert, run_underlying h1, run_underlying h2, run_underlying h3, Conv.bytesToString]
          rfl
        | some q =>
          have hlc : (loadCells q len).run P w = .ok (ns.map (Value.int .u8)).toArray w := by
            simpa [Builtin.firstCells] using hf
          rw [run_convert_bytes_string w _ _ _ _ _ _ h2 h3 h1, run_bytesToString w q len cap' ns hlc, foldl_push]
          simp
  · obtain ⟨e, e', rfl, h1, h2, h3⟩ := convOf_mark hc
    generalize he : eval F x = ex at h hx
    cases ex <;> first | (simp [aConv] at h; done) | skip
    rename_i p len cap
    cases p with
    | none => simp [aConv] at h
    | some p =>
      simp only [aConv] at h
      split at h
      · rename_i obj hrow
        split at h
        · rename_i hrw
          cases h
          obtain ⟨hσ, hesz, hlen, hne⟩ := rowAt_some hrow
          have hx' := hx
          obtain ⟨sp, cap', rfl, hsp, hcap, hK⟩ := sl_valid hx hrow (.inr hrw.2)
          obtain ⟨w', hm, htr⟩ := Trans.mark (P := P) hok hσ hrw.1 hsp (off := sp.base + p.off)
          refine .inl ⟨_, w', ?_, β, htr, hx'.later htr.later⟩
          simp [convert, run_underlying h1, run_underlying h2, run_underlying h3, hm]
        · cases h
      · cases h

end
end Go.Abs
