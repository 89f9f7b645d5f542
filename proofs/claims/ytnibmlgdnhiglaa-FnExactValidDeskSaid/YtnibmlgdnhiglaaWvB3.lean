/- The abstract machine: appends. No condition. -/
import Derived.Test.YtnibmlgdnhiglaaWvB2
namespace Go.Abs

section
variable {P : Program} {β : Inj} {σ : Heap} {w : World} {o : Oper} {F : Frame} {a : Act} {v : Value}

theorem bytes_whole (s : ByteArray) : (s.extract 0 s.size) = s := by
  apply ByteArray.ext
  simp

/-- What is appended: how many, and their cells. -/
theorem appCells_sound (hok : InjOk β σ w) {esz k : Nat} {x cx : Value} {l : List Value} (h : appCells σ esz x = some (l, k)) (hr : VRel β σ x cx) :
    (Builtin.lenOf cx).run P w = .ok k w ∧ ∃ l', (Builtin.firstCells esz k cx).run P w = .ok l'.toArray w ∧ LRel β σ l l' ∧ l.length = k * esz := by
  unfold appCells at h
  split at h
  · rename_i p len cap
    cases hc : sliceCells σ esz (.slice p len cap) len with
    | none => rw [hc] at h; cases h
    | some l0 =>
      rw [hc] at h
      simp only [Option.map_some, Option.some.injEq, Prod.mk.injEq] at h
      obtain ⟨rfl, rfl⟩ := h
      obtain ⟨l', h1, h2, h3⟩ := firstCells_sound (P := P) hok hc hr
      obtain ⟨p', cap', rfl, _, _⟩ := sl_shape hr
      exact ⟨by simp [Builtin.lenOf], l', h1, h2, h3⟩
  · rename_i s
    split at h
    · rename_i he
      subst he
      simp only [Option.some.injEq, Prod.mk.injEq] at h
      obtain ⟨rfl, rfl⟩ := h
      cases hr
      refine ⟨by simp [Builtin.lenOf], s.data.toList.map fun b => Value.int .u8 (b.toNat : Int), ?_, ⟨rfl, fun i v c hv hc => ?_⟩, ?_⟩
      · simp only [Builtin.firstCells, bytes_whole, Sem.run_pure]
        congr 1
        apply Array.toList_inj.1
        simp
      · rw [hv] at hc; cases hc
        have := List.mem_of_getElem? hv
        rw [List.mem_map] at this
        obtain ⟨b, _, rfl⟩ := this
        exact .int _ _
      · simp
    · cases h
  · cases h

theorem growBy_le (need : Nat) : ∀ (r c : Nat), Builtin.growBy need r c ≤ max c (need + (need + 768) / 4) := by
  intro r
  induction r with
  | zero => intro c; simp [Builtin.growBy]; omega
  | succ r ih =>
    intro c
    unfold Builtin.growBy
    split
    · omega
    · have := ih (c + (c + 768) / 4)
      omega

theorem nextslicecap_le {need cap : Nat} (h : cap < need) : Builtin.nextslicecap need cap ≤ 2 * need + 512 := by
  unfold Builtin.nextslicecap
  split
  · omega
  · split
    · omega
    · have := growBy_le need 4 cap
      omega

theorem cut_cap (need old : Nat) (e : TypeId) (t : Nat) : need ≤ (Question.appendCap need old e).cut t := by simp [Question.cut]

theorem max_i64 : IntKind.i64.max = 9223372036854775807 := rfl

structure AppT (P : Program) (t u e : TypeId) (esz bytes : Nat) (zs : List Value) : Prop where
  ht : P.underlying t = some (.slice e)
  hu : ∃ ud, P.underlying u = some ud ∧ ∀ k, ud ≠ .int k
  hs : sizeOfT P e = some esz
  hb : bytesOfT P e = some bytes
  hz : zeroOf P e = some zs
  hzl : zs.length = esz
  hbl : bytes ≤ 2 ^ 20

theorem typeInfo_bytes {e : TypeId} {bytes : Nat} (h : bytesOfT P e = some bytes) : ∃ i, P.info? e = some i ∧ i.bytes = bytes := by
  unfold bytesOfT at h
  cases hi : P.info? e with
  | none => rw [hi] at h; cases h
  | some i => rw [hi] at h; simp at h; exact ⟨i, rfl, h⟩

/-- append where there is room. -/
theorem run_append_room {t u e : TypeId} {esz bytes : Nat} {zs : List Value} (T : AppT P t u e esz bytes zs) {ts : Array TypeId} (h0 : ts[0]? = some t) (h1 : ts[1]? = some u) (ty : TypeId) {base : Option Addr} {n cap k : Nat} {cx : Value} {l' : List Value} {w' : World}
    (hl : (Builtin.lenOf cx).run P w = .ok k w) (hf : (Builtin.firstCells esz k cx).run P w = .ok l'.toArray w) (hle : n + k ≤ cap)
    (hst : (match base with | some a => storeCells (a.add (n * esz)) l' | none => pure ()).run P w = .ok () w') :
    (Builtin.append_ ts ty #[.slice base n cap, cx]).run P w = .ok (.slice base (n + k) cap) w' := by
  obtain ⟨ud, hud, hni⟩ := T.hu
  have hgo : (Builtin.append_ ts ty #[.slice base n cap, cx]).run P w = (do
      let new ← Builtin.firstCells esz k cx
      if let some a := base then storeCells (a.add (n * esz)) new.toList
      pure (.slice base (n + k) cap) : Sem Value).run P w := by
    simp [Builtin.append_, h0, h1, run_underlying T.ht, run_underlying hud, run_size T.hs, hl, hle]
    rfl
  rw [hgo]
  simp only [Sem.run_bind, hf, Result.andThen_ok]
  cases base with
  | none =>
    simp only [Sem.run_pure, Result.ok.injEq, true_and] at hst ⊢
    exact hst
  | some a =>
    simp only at hst
    simp [hst]

/-- append where a new row is made. -/
theorem run_append_grow {t u e : TypeId} {esz bytes : Nat} {zs : List Value} (T : AppT P t u e esz bytes zs) {ts : Array TypeId} (h0 : ts[0]? = some t) (h1 : ts[1]? = some u) (ty : TypeId) {base : Option Addr} {n cap k : Nat} {cx : Value} {l' old : List Value}
    (hl : (Builtin.lenOf cx).run P w = .ok k w) (hle : cap < n + k) (hb1 : (n + k) * bytes ≤ 2 ^ 44) (hb2 : n + k ≤ 2 ^ 44)
    (hf : (Builtin.firstCells esz k cx).run P w.drew = .ok l'.toArray w.drew) (hold : (Builtin.firstCells esz n (.slice base n cap)).run P w.drew = .ok old.toArray w.drew) :
    ∃ (nc : Nat) (rest : Array Value), n + k ≤ nc ∧ rest.size = (nc - (n + k)) * esz ∧
      (Builtin.append_ ts ty #[.slice base n cap, cx]).run P w = .ok (.slice (some ⟨w.heap.size, 0, none⟩) (n + k) nc) (w.drew.alloc (.cells ((old ++ l').toArray ++ rest) e)) := by
  obtain ⟨ud, hud, hni⟩ := T.hu
  obtain ⟨i, hi, hib⟩ := typeInfo_bytes T.hb
  have hnle : ¬ n + k ≤ cap := by omega
  have hnx := nextslicecap_le hle
  have hcap : ¬ (281474976710656 < Builtin.nextslicecap (n + k) cap * i.bytes) := by
    rw [hib]
    have h1 : Builtin.nextslicecap (n + k) cap * bytes ≤ (2 * (n + k) + 512) * bytes := Nat.mul_le_mul_right _ hnx
    have h2 : (2 * (n + k) + 512) * bytes = 2 * ((n + k) * bytes) + 512 * bytes := by rw [Nat.add_mul, Nat.mul_assoc]
    have h3 := T.hbl
    omega
  have hmx2 : ¬ (9223372036854775807 < (n : Int) + (k : Int)) := by omega
  obtain ⟨z, hzr, hzl⟩ := zero_run T.hz w.drew
  refine ⟨(Question.appendCap (n + k) cap e).cut (w.tape w.drawn (.appendCap (n + k) cap e)), Builtin.zeroCells z.cells ((Question.appendCap (n + k) cap e).cut (w.tape w.drawn (.appendCap (n + k) cap e)) - (n + k)), cut_cap _ _ _ _, ?_, ?_⟩
  · have : z.cells.size = esz := by rw [← T.hzl, ← hzl]; simp
    simp [Builtin.zeroCells, this]
  · simp [Builtin.append_, h0, h1, run_underlying T.ht, run_underlying hud, run_size T.hs, hl, hnle, typeInfo, hi, hcap, hmx2, Question.forced, hold, hf, hzr, Go.newRow]
    congr 2
    apply Array.toList_inj.1
    simp

theorem does_append (hok : InjOk β σ w) (hF : FOk β σ F a.tmps) {t u e : TypeId} {esz bytes : Nat} {zs : List Value} (T : AppT P t u e esz bytes zs) {ts : Array TypeId} (h0 : ts[0]? = some t) (h1 : ts[1]? = some u) {s x : Operand}
    (ho : o.op = .call { callee := .builtin .append, args := #[s, x], argTypes := ts }) {σ' : Heap} (h : aAppend σ esz bytes (eval F s) (eval F x) = some (v, σ')) : Does P ((execOp a.eval o).run P w) (Good β σ w v σ') := by
  have hs := eval_sound hF s
  have hx := eval_sound hF x
  generalize hcs : a.eval s = cs at hs
  generalize hcx : a.eval x = cx at hx
  have hex : ∀ (r : Value) (w' : World), (Builtin.append_ ts o.type #[cs, cx]).run P w = .ok r w' → (execOp a.eval o).run P w = .ok (.value r) w' := by
    intro r w' hr
    simp [execOp, ho, resolve, invoke, builtin, hcs, hcx, hr]
  unfold aAppend at h
  split at h
  · -- a nil slice
    rename_i n c new k he happ
    rw [he] at hs
    split at h
    · rename_i hb
      obtain ⟨rfl, rfl, hne, hb1, hb2, hall⟩ := hb
      cases hs
      obtain ⟨hlen, l', hf, hrel, hll⟩ := appCells_sound (P := P) hok happ hx
      split at h
      · rename_i hk
        subst hk
        cases h
        have hr := run_append_room (w' := w) T h0 h1 o.type (base := none) (n := 0) (cap := 0) hlen hf (Nat.le_refl _) (by simp)
        exact .pure_ (w' := w) hok (hex _ _ hr) (.slNil 0 0) (.inl rfl)
      · rename_i hk
        cases h
        have hok1 : InjOk β σ w.drew := hok.drawn _
        obtain ⟨_, l2, hf2, hrel2, _⟩ := appCells_sound (P := P) hok1 happ hx
        obtain ⟨nc, rest, hnc, hrs, hr⟩ := run_append_grow T h0 h1 o.type (base := none) (n := 0) (cap := 0) (old := []) hlen (by omega) (by simpa using hb1) (by omega) hf2 (by simp [Builtin.firstCells])
        obtain ⟨β', htr, hb', _⟩ := good_alloc hok (.inr rfl) new esz (([] ++ l2).toArray ++ rest) e (by
          intro j v hj
          obtain ⟨u, hu, hr⟩ := lrel_get hrel2 hj
          refine ⟨u, ?_, hr⟩
          have hjl : j < l2.length := by
            rcases Nat.lt_or_ge j l2.length with h' | h'
            · exact h'
            · rw [List.getElem?_eq_none h'] at hu; cases hu
          rw [Array.getElem?_append_left (by simpa using hjl)]
          simpa using hu)
        refine .inl ⟨_, _, hex _ _ hr, β', htr, ?_⟩
        simp only [Nat.zero_add]
        refine .sl ⟨σ.length, 0, none⟩ ⟨new, esz, true⟩ (at_last _) _ _ _ _ (fun _ => by simp [hll]) (by omega) fun _ _ _ => ⟨_, hb', rfl, fun _ => ?_⟩
        have hl2 : l2.length = k * esz := by rw [← hrel2.1, hll]
        simp only [Nat.zero_add, Array.size_append, List.nil_append, List.size_toArray, hl2, hrs]
        rw [← Nat.add_mul]
        have : k + (nc - k) = nc := by omega
        rw [this]; exact Nat.le_refl _
    · cases h
  · -- a row of one's own
    rename_i p len cap new k he happ
    rw [he] at hs
    split at h
    · rename_i obj hrow
      split at h
      · rename_i hb
        cases h
        obtain ⟨hrw, hoff, rfl, hb1, hb2, hall⟩ := hb
        obtain ⟨hσ, hesz, hlen, hne⟩ := rowAt_some hrow
        obtain ⟨sp, cap', rfl, hsp, hcap, hK⟩ := sl_valid hs hrow (.inr hoff)
        obtain ⟨hlx, l', hf, hrel, hll⟩ := appCells_sound (P := P) hok happ hx
        obtain ⟨c, te, fz, hblk, hcells, hr⟩ := hok.obj _ _ _ hσ hsp
        obtain ⟨hbase, hKs, hfz⟩ := hr hrw
        have hKle := hK hrw
        rw [hbase, hoff] at hKle
        rw [hoff] at hlen
        simp only [Nat.zero_add] at hKle hlen
        rcases Nat.lt_or_ge cap' (len + k) with hgrow | hroom
        · -- a new row
          have hok1 : InjOk β σ w.drew := hok.drawn _
          obtain ⟨_, l2, hf2, hrel2, _⟩ := appCells_sound (P := P) hok1 happ hx
          have hsc : sliceCells σ esz (.slice (some p) len len) len = some obj.cells := by
            unfold sliceCells
            simp only [hrow]
            rw [if_pos ⟨Nat.le_refl _, Nat.le_refl _⟩, hoff, List.drop_zero, ← hlen, List.take_length]
          obtain ⟨old, hold, horel, holen⟩ := firstCells_sound (P := P) hok1 hsc hs
          rw [hbase, hoff] at hold
          obtain ⟨nc, rest, hnc, hrs, hr⟩ := run_append_grow T h0 h1 o.type hlx hgrow hb1 hb2 hf2 hold
          have hol : old.length = len * esz := by rw [← horel.1, holen]
          have hl2 : l2.length = k * esz := by rw [← hrel2.1, hll]
          have hk0 : k ≠ 0 := by omega
          have hkpos : 0 < k * esz := Nat.mul_pos (by omega) (by omega)
          have hM := Trans.move hok1 hσ hrw hsp (obj.cells ++ new) ((old ++ l2).toArray ++ rest) e (by simp [hll]; omega) (by rw [hesz]; exact hne) (by
            intro j v hj
            obtain ⟨u, hu, hr⟩ := lrel_get (lrel_append horel hrel2) hj
            refine ⟨u, ?_, hr⟩
            have hjl : j < (old ++ l2).length := by
              rcases Nat.lt_or_ge j (old ++ l2).length with h' | h'
              · exact h'
              · rw [List.getElem?_eq_none h'] at hu; cases hu
            rw [Array.getElem?_append_left (by simpa using hjl)]
            simpa using hu)
          refine .inl ⟨_, _, hex _ _ (by rw [hbase, hoff]; exact hr), _, (Trans.drew hok).trans hM, ?_⟩
          refine .sl ⟨p.block, 0, none⟩ { obj with cells := obj.cells ++ new } ?_ _ _ _ _ (fun _ => ?_) hnc fun _ _ _ => ⟨⟨w.drew.heap.size, 0, ((old ++ l2).toArray ++ rest).size⟩, by simp, rfl, fun _ => ?_⟩
          · have : p.block < σ.length := by
              rcases Nat.lt_or_ge p.block σ.length with h' | h'
              · exact h'
              · simp [List.getElem?_eq_none h'] at hσ
            simp [this]
          · simp only [Nat.zero_add, List.length_append, hlen, hll, hesz]
            rw [← Nat.add_mul]; exact Nat.le_refl _
          · simp only [Nat.zero_add, Array.size_append, List.size_toArray, List.length_append, hol, hl2, hrs, hesz]
            rw [← Nat.add_mul, ← Nat.add_mul]
            have : len + k + (nc - (len + k)) = nc := by omega
            rw [this]; exact Nat.le_refl _
        · -- room
          have hkk : len * esz + k * esz ≤ cap' * esz := by rw [← Nat.add_mul]; exact Nat.mul_le_mul_right _ hroom
          have hl' : l'.length = k * esz := by rw [← hrel.1, hll]
          have h1c : ∀ u ∈ l', u.oneCell' = true := by
            intro u hu
            obtain ⟨i, hi, rfl⟩ := List.getElem_of_mem hu
            have hi' : i < new.length := by rw [hrel.1]; exact hi
            have := hrel.2 i new[i] l'[i] (by simp [hi']) (by simp [hi])
            exact vrel_oneCell this ((List.all_eq_true.1 hall) _ (by simp))
          have hst := run_storeCells_put P sp.blk (len * esz) te fz l' 0 c w hblk (by rw [hKs, hl']; omega) (frz hfz) h1c
          have hr := run_append_room (w' := World.put w sp.blk (.cells (splice c.toList (len * esz + 0) l').toArray te fz)) T h0 h1 o.type (base := some ⟨sp.blk, 0, none⟩) hlx hf hroom (by
            simp only [add_at, Nat.zero_add]
            exact hst)
          have hnl : new.length = l'.length := hrel.1
          have hU := Trans.update hok hσ hrw hsp hblk (obj.cells ++ new) (splice c.toList (len * esz + 0) l').toArray fz (by
            simp; rw [splice_length (by simp; rw [hKs, hl']; omega)]; simp) (by
            rw [show (splice c.toList (len * esz + 0) l').toArray.size = c.size from by simp; rw [splice_length (by simp; rw [hKs, hl']; omega)]; simp]
            exact hfz) (by simp) (fun h => by rw [hesz] at h; exact absurd h hne) (by
            intro j v hj
            have := splice_rel (β := β) (σ := σ) (xs := obj.cells) (c := c) (fun j v hj => by
              obtain ⟨u, hu, hr⟩ := hcells j v hj
              exact ⟨u, by rw [hbase] at hu; simpa using hu, hr⟩) hrel (len * esz) (by omega) (by rw [hKs, hnl, hl']; omega) j v (by
                rw [← hlen, List.take_length, List.drop_eq_nil_of_le (by omega)]
                simpa using hj)
            simpa using this)
          refine .inl ⟨_, _, hex _ _ (by rw [hbase, hoff]; exact hr), β, hU, ?_⟩
          refine .sl ⟨p.block, 0, none⟩ { obj with cells := obj.cells ++ new } ?_ _ _ _ _ (fun _ => ?_) hroom fun _ _ _ => ⟨sp, hsp, by simp [hbase], fun _ => ?_⟩
          · have : p.block < σ.length := by
              rcases Nat.lt_or_ge p.block σ.length with h' | h'
              · exact h'
              · simp [List.getElem?_eq_none h'] at hσ
            simp [this]
          · simp only [Nat.zero_add, List.length_append, hlen, hll, hesz]
            rw [← Nat.add_mul]; exact Nat.le_refl _
          · simp only [hbase, Nat.zero_add, hesz]; exact hKle
      · cases h
    · cases h
  · cases h

end
end Go.Abs
