/- The abstract machine: stores, makes, appends, copies, calls. No condition. -/
import Derived.Test.YtnibmlgdnhiglaaWvB1
namespace Go.Abs

section
variable {P : Program} {β : Inj} {σ : Heap} {w : World} {o : Oper} {F : Frame} {a : Act} {v : Value}

theorem sl_valid {p : Addr} {len cap esz : Nat} {c : Value} {obj : AObj} (hr : VRel β σ (.slice (some p) len cap) c) (hrow : rowAt σ esz p cap = some obj) (h : cap ≠ 0 ∨ p.off = 0) :
    ∃ s cap', c = .slice (some ⟨s.blk, s.base + p.off, none⟩) len cap' ∧ β p.block = some s ∧ cap ≤ cap' ∧ (obj.rw = true → s.base + p.off + cap' * esz ≤ s.K) := by
  obtain ⟨hσ, hesz, hlen, hne⟩ := rowAt_some hrow
  cases hr with
  | sl p obj' hσ' len cap c cap' hsz hcap hs =>
    rw [hσ] at hσ'; cases hσ'
    obtain ⟨s, hs1, rfl, hrw⟩ := hs (by rw [hesz]; exact hne) (by rw [hesz]; exact hlen) h
    rw [hesz] at hrw
    exact ⟨s, cap', rfl, hs1, hcap, hrw⟩

theorem sl_shape {p : Option Addr} {len cap : Nat} {c : Value} (hr : VRel β σ (.slice p len cap) c) : ∃ p' cap', c = .slice p' len cap' ∧ cap ≤ cap' ∧ (p = none ↔ p' = none) := by
  cases hr with
  | slNil => exact ⟨none, cap, rfl, Nat.le_refl _, by simp⟩
  | sl p obj hσ len cap c cap' hsz hcap hs => exact ⟨_, cap', rfl, hcap, by simp⟩

/-- The cells of a slice, as the model reads them. -/
theorem firstCells_sound (hok : InjOk β σ w) {esz n : Nat} {x cx : Value} {l : List Value} (h : sliceCells σ esz x n = some l) (hr : VRel β σ x cx) :
    ∃ l', (Builtin.firstCells esz n cx).run P w = .ok l'.toArray w ∧ LRel β σ l l' ∧ l.length = n * esz := by
  unfold sliceCells at h
  split at h
  · rename_i n' m
    split at h
    · rename_i hn
      subst hn
      cases h
      cases hr
      exact ⟨[], by simp [Builtin.firstCells], ⟨rfl, fun i v c hv => by simp at hv⟩, by simp⟩
    · cases h
  · rename_i p len cap
    split at h
    · rename_i obj hrow
      split at h
      · rename_i hb
        cases h
        obtain ⟨hσ, hesz, hlen, hne⟩ := rowAt_some hrow
        by_cases h0 : n = 0
        · subst h0
          obtain ⟨p', cap', rfl, _, hp⟩ := sl_shape hr
          cases p' with
          | none => exact absurd (hp.2 rfl) (by simp)
          | some p' => exact ⟨[], by simp [Builtin.firstCells, loadCells, loadCellsFrom], by simp; exact ⟨rfl, fun i v c hv => by simp at hv⟩, by simp⟩
        · obtain ⟨s, cap', rfl, hs, hle, _⟩ := sl_valid hr hrow (.inl (by omega))
          have hmul : n * esz ≤ cap * esz := Nat.mul_le_mul_right _ hb.2
          obtain ⟨l', hl', hrel⟩ := loadCells_of (P := P) hok hσ hs p.off (n * esz) (by omega)
          refine ⟨l', by simp [Builtin.firstCells, hl'], hrel, ?_⟩
          simp; omega
      · cases h
    · cases h
  · cases h

/-! ### Stores -/

theorem lrel_rel {xs : List Value} {cs : Array Value} (h : LRel β σ xs cs.toList) : ∀ (j : Nat) (v : Value), xs[j]? = some v → ∃ u, cs[j]? = some u ∧ VRel β σ v u := by
  intro j v hv
  obtain ⟨c, hc, hr⟩ := lrel_get h hv
  exact ⟨c, by simpa using hc, hr⟩

/-- What lies in a block beyond what is known is of no concern. -/
theorem splice_rel {xs : List Value} {c : Array Value} (h : ∀ (j : Nat) (v : Value), xs[j]? = some v → ∃ u, c[j]? = some u ∧ VRel β σ v u) {new new' : List Value} (hn : LRel β σ new new') (off : Nat) (hoff : off ≤ xs.length) (hle : off + new.length ≤ c.size) :
    ∀ (j : Nat) (v : Value), (xs.take off ++ new ++ xs.drop (off + new.length))[j]? = some v → ∃ u, (splice c.toList off new').toArray[j]? = some u ∧ VRel β σ v u := by
  intro j v hj
  have hnl := hn.1
  have hc1 : (c.toList.take off).length = off := by simp; omega
  have hx1 : (xs.take off).length = off := by simp; omega
  simp only [List.getElem?_toArray]
  unfold splice
  rw [List.append_assoc] at hj ⊢
  by_cases h1 : j < off
  · rw [List.getElem?_append_left (by omega)] at hj ⊢
    rw [List.getElem?_take, if_pos h1] at hj ⊢
    obtain ⟨u, hu, hr⟩ := h j v hj
    exact ⟨u, by simpa using hu, hr⟩
  · rw [List.getElem?_append_right (by omega)] at hj ⊢
    rw [hx1] at hj
    rw [hc1]
    by_cases h2 : j - off < new.length
    · rw [List.getElem?_append_left h2] at hj
      rw [List.getElem?_append_left (by omega)]
      obtain ⟨u, hu, hr⟩ := lrel_get hn hj
      exact ⟨u, hu, hr⟩
    · rw [List.getElem?_append_right (by omega)] at hj
      rw [List.getElem?_append_right (by omega)]
      rw [List.getElem?_drop] at hj ⊢
      obtain ⟨u, hu, hr⟩ := h _ v hj
      refine ⟨u, ?_, hr⟩
      rw [← hu, ← hnl]
      simp

theorem store_sound (hok : InjOk β σ w) {n : Nat} {t : TypeId} (ht : sizeOfT P t = some n) {p pv x xv : Value} {σ' : Heap} (hp : VRel β σ p pv) (hx : VRel β σ x xv) (h : aStore σ n p x = some σ') :
    ∃ w', (Instr.storeAt t pv xv).run P w = .ok () w' ∧ Trans β σ w β σ' w' := by
  unfold aStore at h
  split at h
  · rename_i q
    split at h
    · rename_i obj ho
      split at h
      · rename_i hc
        cases h
        simp only [Bool.and_eq_true, decide_eq_true_eq, Nat.beq_eq] at hc
        obtain ⟨⟨⟨⟨hpo, hrw⟩, hle⟩, hxl⟩, hall⟩ := hc
        obtain ⟨s, hs, rfl⟩ := ptr_valid hp ho hpo
        obtain ⟨c, e, fz, hb, hcells, hr⟩ := hok.obj _ _ _ ho hs
        obtain ⟨hbase, hK, hfz⟩ := hr hrw
        obtain ⟨hlx, h1c⟩ := vrel_cells hx hall
        have hxl' : xv.cells.size = n := by have := hlx.1; simp at this hxl; omega
        -- the object's cells lie in the block
        have hcs : obj.cells.length ≤ c.size := by
          rcases Nat.lt_or_ge c.size obj.cells.length with hlt | hge
          · exfalso
            obtain ⟨u, hu, _⟩ := hcells c.size obj.cells[c.size] (by simp [hlt])
            rw [hbase] at hu; simp at hu
          · exact hge
        have hrun := run_storeCells_put P s.blk (s.base + q.off) e fz xv.cells.toList 0 c w hb (by rw [hbase]; simp [hxl']; omega) (frz hfz) h1c
        refine ⟨_, ?_, Trans.update hok ho hrw hs hb (splice obj.cells q.off x.cells.toList) (splice c.toList (s.base + q.off + 0) xv.cells.toList).toArray fz ?_ ?_ ?_ ?_ ?_⟩
        · simp [Instr.storeAt, Instr.sureAddr, storeVar, hxl', run_size ht]
          simpa using hrun
        · simp; rw [splice_length (by simp [hxl', hbase]; omega)]; simp
        · rw [show (splice c.toList (s.base + q.off + 0) xv.cells.toList).toArray.size = c.size from by
            simp; rw [splice_length (by simp [hxl', hbase]; omega)]; simp]
          exact hfz
        · rw [splice_length (by omega)]; exact Nat.le_refl _
        · intro _; rw [splice_length (by omega)]
        · rw [hbase]
          simp only [Nat.zero_add, Nat.add_zero]
          have := splice_rel (β := β) (σ := σ) (xs := obj.cells) (c := c) (fun j v hj => by
            obtain ⟨u, hu, hr⟩ := hcells j v hj
            exact ⟨u, by rw [hbase] at hu; simpa using hu, hr⟩) hlx q.off (by omega) (by omega)
          exact this
      · cases h
    · cases h
  · cases h

theorem does_store (hok : InjOk β σ w) (hF : FOk β σ F a.tmps) {n : Nat} {t : TypeId} {p x : Operand} (ho : o.op = .store t p x) (ht : sizeOfT P t = some n) {σ' : Heap} (h : aStore σ n (eval F p) (eval F x) = some σ') :
    Does P ((execOp a.eval o).run P w) (Good β σ w undef σ') := by
  obtain ⟨w', hr, ht'⟩ := store_sound hok ht (eval_sound hF p) (eval_sound hF x) h
  refine .inr (.inl ⟨w', by simp [execOp, ho, hr], β, ht', ?_⟩)
  exact .tuple _ _ rfl fun i v v' hv => by simp at hv

/-! ### Makes -/

theorem flatten_replicate (zero : List Value) (n j : Nat) (v : Value) (h : (List.replicate n zero).flatten[j]? = some v) : j < n * zero.length ∧ zero[j % zero.length]? = some v := by
  induction n generalizing j with
  | zero => simp at h
  | succ n ih =>
    rw [List.replicate_succ, List.flatten_cons] at h
    by_cases hj : j < zero.length
    · rw [List.getElem?_append_left hj] at h
      rw [Nat.mod_eq_of_lt hj]
      refine ⟨?_, h⟩
      have : 1 * zero.length ≤ (n + 1) * zero.length := Nat.mul_le_mul_right _ (by omega)
      omega
    · rw [List.getElem?_append_right (by omega)] at h
      obtain ⟨h1, h2⟩ := ih _ h
      refine ⟨?_, ?_⟩
      · rw [Nat.succ_mul]; omega
      · rw [← h2]
        congr 1
        rw [Nat.mod_eq_sub_mod (by omega)]

theorem does_makeSlice (hok : InjOk β σ w) (hF : FOk β σ F a.tmps) {t e : TypeId} {esz bytes : Nat} {zero : List Value} {l c : Operand} (ho : o.op = .makeSlice t l c) (ht : P.underlying t = some (.slice e)) (hs : sizeOfT P e = some esz) (hby : bytesOfT P e = some bytes)
    (hz : zeroOf P e = some zero) {σ' : Heap} (h : aMakeSlice σ esz bytes zero (eval F l) (eval F c) = some (v, σ')) : Does P ((execOp a.eval o).run P w) (Good β σ w v σ') := by
  have hl := eval_sound hF l
  have hc := eval_sound hF c
  generalize hcl : a.eval l = cl at hl
  generalize hcc : a.eval c = cc at hc
  unfold aMakeSlice at h
  split at h
  · rename_i k n k' m he1 he2
    rw [he1] at hl; rw [he2] at hc
    cases hl; cases hc
    split at h
    · rename_i hb
      obtain ⟨h0, rfl, h1, h2, h3, h4, h5⟩ := hb
      cases h
      obtain ⟨z, hzr, hzl⟩ := zero_run hz w
      have hi : ∃ i, P.info? e = some i ∧ i.bytes = bytes := by
        unfold bytesOfT at hby
        cases hi : P.info? e with
        | none => rw [hi] at hby; cases hby
        | some i => rw [hi] at hby; simp at hby; exact ⟨i, rfl, hby⟩
      obtain ⟨i, hi, hib⟩ := hi
      have hm : maxI = 9223372036854775807 := rfl
      have hw : IntKind.i64.wrap n = n := by
        have hm2 : n ≤ 9223372036854775807 := by omega
        have h64 : ∀ n : Int, 0 ≤ n → n ≤ 9223372036854775807 → IntKind.i64.wrap n = n := by
          intro n h0 h1
          have e1 : n % (2 ^ IntKind.i64.bits : Int) = n := by
            have : (2 ^ IntKind.i64.bits : Int) = 18446744073709551616 := rfl
            rw [this]; omega
          unfold IntKind.wrap
          simp only [e1]
          have : ¬ (n ≥ (2 ^ (IntKind.i64.bits - 1) : Int)) := by
            have : (2 ^ (IntKind.i64.bits - 1) : Int) = 9223372036854775808 := rfl
            omega
          simp [this]
        exact h64 n h0 hm2
      have hzs : z.cells.size = esz := by rw [← h4, ← hzl]; simp
      have hbig : ¬ ((bytes : Int) * n > 2 ^ 48) := by
        have : (bytes : Int) * n = n * bytes := Int.mul_comm _ _
        omega
      let cs : Array Value := (Array.range (n.toNat * esz)).map (z.cells[· % z.cells.size]!)
      obtain ⟨β', htr, hb', _⟩ := good_alloc hok (.inl rfl) (List.replicate n.toNat zero).flatten esz cs e (by
        intro j v hj
        obtain ⟨hj1, hj2⟩ := flatten_replicate _ _ _ _ hj
        rw [h4] at hj1 hj2
        refine ⟨v, ?_, vrel_const ((List.all_eq_true.1 h5) v (List.mem_of_getElem? hj2))⟩
        have hlt : j % esz < z.cells.size := by rw [hzs]; exact Nat.mod_lt _ (by omega)
        have hz2 : z.cells[j % esz]? = some v := by rw [← hj2, ← hzl]; simp
        have hz3 : z.cells[j % esz] = v := by simpa [hlt] using hz2
        simp only [cs, Array.getElem?_map, Array.getElem?_range, hj1, if_true, Option.map_some, hzs]
        rw [getElem!_pos z.cells _ hlt, hz3])
      have hcs : cs.size = n.toNat * esz := by simp [cs]
      have hbig2 : ¬ (281474976710656 < (bytes : Int) * n) := hbig
      refine .inl ⟨.slice (some ⟨w.heap.size, 0, none⟩) n.toNat n.toNat, w.alloc (.cells cs e), ?_, β', htr, ?_⟩
      · have hn0 : ¬ n < 0 := by omega
        by_cases hz0 : n.toNat * esz = 0
        · have hcse : cs = #[] := by
            apply Array.eq_empty_of_size_eq_zero; rw [hcs]; exact hz0
          have hn00 : n = 0 := by
            rcases Nat.mul_eq_zero.1 hz0 with h' | h'
            · omega
            · omega
          subst hn00
          simp [execOp, ho, hcl, hcc, Instr.makeSlice, run_underlying ht, asInt, asIntOf, typeInfo, hi, hw, run_size hs, Go.newRow, hcse]
          rw [show (Array.range 0).map (fun _ => (default : Value)) = #[] from by apply Array.eq_empty_of_size_eq_zero; simp]
        · simp [execOp, ho, hcl, hcc, Instr.makeSlice, run_underlying ht, asInt, asIntOf, typeInfo, hi, hib, hw, hn0, hbig2, run_size hs, hz0, hzr, Go.newRow, cs]
      · refine .sl ⟨σ.length, 0, none⟩ ⟨(List.replicate n.toNat zero).flatten, esz, true⟩ (at_last _) _ _ _ _ (fun _ => ?_) (Nat.le_refl _) fun _ _ _ => ⟨_, hb', rfl, fun _ => ?_⟩
        · simp [h4]
        · simp [hcs]
    · cases h
  · cases h

end
end Go.Abs
