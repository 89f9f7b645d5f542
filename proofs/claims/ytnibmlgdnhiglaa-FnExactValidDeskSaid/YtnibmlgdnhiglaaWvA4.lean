/- The abstract machine: what writing does to heap and world. No condition. -/
import Derived.Test.YtnibmlgdnhiglaaWvA3
namespace Go.Abs

/-- The world in which a block is another one. -/
def World.put (w : World) (b : Nat) (o : Obj) : World := { w with heap := w.heap.setIfInBounds b o }

theorem heap_put_same {w : World} {b : Nat} (o : Obj) (h : b < w.heap.size) : (World.put w b o).heap[b]? = some o := by
  simp [World.put, h]

theorem heap_put_other {w : World} {b k : Nat} (o : Obj) (h : k ≠ b) : (World.put w b o).heap[k]? = w.heap[k]? := by
  show (w.heap.setIfInBounds b o)[k]? = _
  rw [Array.getElem?_setIfInBounds]
  rw [if_neg (fun e => h e.symm)]

theorem size_put {w : World} {b : Nat} (o : Obj) : (World.put w b o).heap.size = w.heap.size := by simp [World.put]

theorem put_put {w : World} {b : Nat} (o o' : Obj) : World.put (World.put w b o) b o' = World.put w b o' := by
  unfold World.put
  congr 1
  apply Array.ext_getElem?
  intro i
  simp only [Array.getElem?_setIfInBounds, Array.size_setIfInBounds]
  split <;> rfl

theorem put_self {w : World} {b : Nat} {o : Obj} (h : w.heap[b]? = some o) : World.put w b o = w := by
  unfold World.put
  have : w.heap.setIfInBounds b o = w.heap := by
    apply Array.ext_getElem?
    intro i
    rw [Array.getElem?_setIfInBounds]
    split
    · rename_i e; subst e
      rw [h]
      simp [block_lt h]
    · rfl
  rw [this]

/-- An object that may be written gets other cells, in its block. -/
theorem Trans.update {β : Inj} {σ : Heap} {w : World} (h : InjOk β σ w) {o : Nat} {obj : AObj} {s : Spot} (ho : σ[o]? = some obj) (hrw : obj.rw = true) (hs : β o = some s)
    {c : Array Value} {e : TypeId} {fz : Nat × Nat} (hb : w.heap[s.blk]? = some (.cells c e fz)) (cells' : List Value) (c' : Array Value) (fz' : Nat × Nat)
    (hsize : c'.size = c.size) (hfz : fz'.1 = fz'.2 ∨ c'.size ≤ fz'.1)
    (hlen : obj.cells.length ≤ cells'.length) (hz : obj.esz = 0 → cells'.length = obj.cells.length)
    (hrel : ∀ (j : Nat) (v : Value), cells'[j]? = some v → ∃ u, c'[j]? = some u ∧ VRel β σ v u) :
    Trans β σ w β (σ.set o { obj with cells := cells' }) (World.put w s.blk (.cells c' e fz')) := by
  have holt : o < σ.length := by
    rcases Nat.lt_or_ge o σ.length with h' | h'
    · exact h'
    · simp [List.getElem?_eq_none h'] at ho
  have hlat : Later β σ β (σ.set o { obj with cells := cells' }) := by
    refine ⟨fun k x hk => ?_⟩
    by_cases e : k = o
    · subst e
      rw [ho] at hk; cases hk
      exact ⟨{ obj with cells := cells' }, by simp [holt], rfl, rfl, hlen, fun _ => rfl, hz⟩
    · exact ⟨x, by rw [List.getElem?_set_ne (fun h => e h.symm)]; exact hk, rfl, rfl, Nat.le_refl _, fun _ => rfl, fun _ => rfl⟩
  have get : ∀ (k : Nat) (x : AObj), (σ.set o { obj with cells := cells' })[k]? = some x → (k = o ∧ x = { obj with cells := cells' }) ∨ (k ≠ o ∧ σ[k]? = some x) := by
    intro k x hk
    by_cases e : k = o
    · subst e; simp [holt] at hk; exact .inl ⟨rfl, hk.symm⟩
    · rw [List.getElem?_set_ne (fun h => e h.symm)] at hk; exact .inr ⟨e, hk⟩
  have hblt := block_lt hb
  obtain ⟨c0, e0, fz0, hb0, hcells0, hrw0⟩ := h.obj o obj s ho hs
  rw [hb] at hb0; cases hb0
  obtain ⟨hbase, hK, _⟩ := hrw0 hrw
  refine { ok := ⟨?_, ?_, ?_⟩, later := hlat, len := by simp, size := by rw [size_put]; exact Nat.le_refl _, keep := ?_, grow := ?_, os := rfl, tape := rfl, output := rfl }
  · intro k t ht
    have := h.dom k t ht
    simpa using this
  · intro k x t hk ht
    rcases get k x hk with ⟨rfl, rfl⟩ | ⟨hne, hk'⟩
    · rw [hs] at ht; cases ht
      refine ⟨c', e, fz', heap_put_same _ hblt, fun j v hj => ?_, fun _ => ⟨hbase, by rw [hsize]; exact hK, hfz⟩⟩
      obtain ⟨u, hu, hr⟩ := hrel j v hj
      exact ⟨u, by rw [hbase]; simpa using hu, hr.later hlat⟩
    · have hnb : t.blk ≠ s.blk := fun e => hne (h.inj o k obj s t ho hrw hs ht e.symm).symm
      obtain ⟨c1, e1, fz1, hb1, hcells1, hrw1⟩ := h.obj k x t hk' ht
      refine ⟨c1, e1, fz1, by rw [heap_put_other _ hnb]; exact hb1, fun j v hj => ?_, hrw1⟩
      obtain ⟨u, hu, hr⟩ := hcells1 j v hj
      exact ⟨u, hu, hr.later hlat⟩
  · intro k k' x t t' hk hxr ht ht' hbb
    rcases get k x hk with ⟨rfl, rfl⟩ | ⟨hne, hk'⟩
    · exact h.inj k k' obj t t' ho hrw ht ht' hbb
    · exact h.inj k k' x t t' hk' hxr ht ht' hbb
  · intro b hbl hn
    exact heap_put_other _ (fun e => hn ⟨o, obj, s, ho, hrw, hs, e.symm⟩)
  · rintro b hbl ⟨k, x, t, hk, hxr, ht, rfl⟩
    rcases get k x hk with ⟨rfl, rfl⟩ | ⟨hne, hk'⟩
    · exact ⟨k, obj, t, ho, hrw, ht, rfl⟩
    · exact ⟨k, x, t, hk', hxr, ht, rfl⟩

/-- An object that may be written grows, and moves into a new block. -/
theorem Trans.move {β : Inj} {σ : Heap} {w : World} (h : InjOk β σ w) {o : Nat} {obj : AObj} {s : Spot} (ho : σ[o]? = some obj) (_hrw : obj.rw = true) (hs : β o = some s)
    (cells' : List Value) (c' : Array Value) (e : TypeId) (hlen : obj.cells.length < cells'.length) (hz : obj.esz ≠ 0)
    (hrel : ∀ (j : Nat) (v : Value), cells'[j]? = some v → ∃ u, c'[j]? = some u ∧ VRel β σ v u) :
    Trans β σ w (fun k => if k = o then some ⟨w.heap.size, 0, c'.size⟩ else β k) (σ.set o { obj with cells := cells' }) (w.alloc (.cells c' e)) := by
  have holt : o < σ.length := by
    rcases Nat.lt_or_ge o σ.length with h' | h'
    · exact h'
    · simp [List.getElem?_eq_none h'] at ho
  have hlat : Later β σ (fun k => if k = o then some ⟨w.heap.size, 0, c'.size⟩ else β k) (σ.set o { obj with cells := cells' }) := by
    refine ⟨fun k x hk => ?_⟩
    by_cases e : k = o
    · subst e
      rw [ho] at hk; cases hk
      exact ⟨{ obj with cells := cells' }, by simp [holt], rfl, rfl, Nat.le_of_lt hlen, fun hl => by dsimp only at hl; omega, fun h0 => absurd h0 hz⟩
    · exact ⟨x, by rw [List.getElem?_set_ne (fun h => e h.symm)]; exact hk, rfl, rfl, Nat.le_refl _, fun _ => if_neg e, fun _ => rfl⟩
  have get : ∀ (k : Nat) (x : AObj), (σ.set o { obj with cells := cells' })[k]? = some x → (k = o ∧ x = { obj with cells := cells' }) ∨ (k ≠ o ∧ σ[k]? = some x) := by
    intro k x hk
    by_cases e : k = o
    · subst e; simp [holt] at hk; exact .inl ⟨rfl, hk.symm⟩
    · rw [List.getElem?_set_ne (fun h => e h.symm)] at hk; exact .inr ⟨e, hk⟩
  have hold : ∀ b, b < w.heap.size → (w.alloc (.cells c' e)).heap[b]? = w.heap[b]? := fun b hb => by
    show (w.heap.push _)[b]? = _
    rw [Array.getElem?_push_lt hb]
    simp [hb]
  have aux : ∀ (o : Nat) (s : Spot), β o = some s → s.blk < w.heap.size := by
    intro o s hs
    have hlt := h.dom o s hs
    obtain ⟨c, e', fz, hb, _⟩ := h.obj o _ s (List.getElem?_eq_getElem hlt) hs
    exact block_lt hb
  refine { ok := ⟨?_, ?_, ?_⟩, later := hlat, len := by simp, size := by simp, keep := fun b hb _ => hold b hb, grow := ?_, os := rfl, tape := rfl, output := rfl }
  · intro k t ht
    split at ht
    · rename_i ek; simp [ek, holt]
    · simpa using h.dom k t ht
  · intro k x t hk ht
    rcases get k x hk with ⟨rfl, rfl⟩ | ⟨hne, hk'⟩
    · rw [if_pos rfl] at ht; cases ht
      refine ⟨c', e, (0, 0), by show (w.heap.push _)[w.heap.size]? = _; simp, fun j v hj => ?_, fun _ => ⟨rfl, rfl, .inl rfl⟩⟩
      obtain ⟨u, hu, hr⟩ := hrel j v hj
      exact ⟨u, by simpa using hu, hr.later hlat⟩
    · rw [if_neg hne] at ht
      obtain ⟨c1, e1, fz1, hb1, hcells1, hrw1⟩ := h.obj k x t hk' ht
      refine ⟨c1, e1, fz1, by rw [hold _ (block_lt hb1)]; exact hb1, fun j v hj => ?_, hrw1⟩
      obtain ⟨u, hu, hr⟩ := hcells1 j v hj
      exact ⟨u, hu, hr.later hlat⟩
  · intro k k' x t t' hk hxr ht ht' hbb
    split at ht <;> split at ht'
    · omega
    · cases ht; have := aux _ _ ht'; dsimp only at hbb; omega
    · cases ht'; have := aux _ _ ht; dsimp only at hbb; omega
    · rcases get k x hk with ⟨rfl, rfl⟩ | ⟨hne, hk'⟩
      · rename_i hn _; exact absurd rfl hn
      · exact h.inj k k' x t t' hk' hxr ht ht' hbb
  · rintro b hbl ⟨k, x, t, hk, hxr, ht, rfl⟩
    dsimp only at ht
    split at ht
    · cases ht; dsimp only at hbl; omega
    · rcases get k x hk with ⟨rfl, rfl⟩ | ⟨hne, hk'⟩
      · rename_i hn; exact absurd rfl hn
      · exact ⟨k, x, t, hk', hxr, ht, rfl⟩

theorem splice_cons {l : List Value} {off : Nat} {v : Value} {rest : List Value} (h : off < l.length) : splice l off (v :: rest) = splice (l.set off v) (off + 1) rest := by
  unfold splice
  have h1 : (l.set off v).take (off + 1) = l.take off ++ [v] := by
    rw [List.take_succ_eq_append_getElem (by simpa using h)]
    simp [List.take_set_of_le]
  have h2 : (l.set off v).drop (off + 1 + rest.length) = l.drop (off + (v :: rest).length) := by
    rw [List.drop_set_of_lt (by omega)]
    congr 1
    simp; omega
  rw [h1, h2]
  simp

theorem splice_nil (l : List Value) (off : Nat) : splice l off [] = l := by
  simp [splice]

theorem splice_length {l : List Value} {off : Nat} {new : List Value} (h : off + new.length ≤ l.length) : (splice l off new).length = l.length := by
  simp [splice]; omega

theorem setCell_put {w : World} {b : Nat} {c : Array Value} {e : TypeId} {fz : Nat × Nat} (hb : w.heap[b]? = some (.cells c e fz)) (off : Nat) (v : Value) :
    w.setCell ⟨b, off, none⟩ v = World.put w b (.cells (c.setIfInBounds off v) e fz) := by
  unfold World.setCell World.put
  congr 1
  apply Array.ext_getElem?
  intro i
  rw [Array.getElem?_modify, Array.getElem?_setIfInBounds]
  by_cases e' : b = i
  · subst e'
    rw [if_pos rfl, if_pos rfl, if_pos (block_lt hb), hb]
    rfl
  · rw [if_neg e', if_neg e']

/-- Storing cells into a block of which none is frozen. -/
theorem run_storeCells_put (P : Program) (b o : Nat) (e : TypeId) (fz : Nat × Nat) : ∀ (vs : List Value) (i : Nat) (c : Array Value) (w : World), w.heap[b]? = some (.cells c e fz) →
    o + i + vs.length ≤ c.size → (∀ k, k < c.size → (decide (fz.1 ≤ k) && decide (k < fz.2)) = false) → (∀ v ∈ vs, v.oneCell' = true) →
    (storeCells ⟨b, o, none⟩ vs i).run P w = .ok () (World.put w b (.cells (splice c.toList (o + i) vs).toArray e fz)) := by
  intro vs
  induction vs with
  | nil =>
    intro i c w hb _ _ _
    simp only [storeCells, Sem.run_pure, splice_nil]
    rw [put_self (by simpa using hb)]
  | cons v rest ih =>
    intro i c w hb hle hfz h1
    simp only [List.length_cons] at hle
    have hlt : o + i < c.size := by omega
    have hadd : (⟨b, o, none⟩ : Addr).add i = ⟨b, o + i, none⟩ := by
      unfold Addr.add; split
      · rename_i h0; subst h0; rfl
      · rfl
    have hcell : w.cell? ⟨b, o + i, none⟩ = some c[o + i] := by simp [World.cell?, hb, hlt]
    have hfr : w.frozen? ⟨b, o + i, none⟩ = false := by
      simp only [World.frozen?, hb]; exact hfz _ hlt
    have hv := h1 v (by simp)
    have hstore : (store ⟨b, o + i, none⟩ v).run P w = .ok () (w.setCell ⟨b, o + i, none⟩ v) := by
      cases v <;> first | (simp [Value.oneCell'] at hv; done) | simp [store, Sem.run, hcell, hfr]
    simp only [storeCells, Sem.run_bind, hadd, hstore, Result.andThen_ok]
    rw [setCell_put hb]
    have hb2 : (World.put w b (.cells (c.setIfInBounds (o + i) v) e fz)).heap[b]? = some (.cells (c.setIfInBounds (o + i) v) e fz) := heap_put_same _ (block_lt hb)
    rw [ih (i + 1) _ _ hb2 (by simp; omega) (by simpa using hfz) (fun u hu => h1 u (by simp [hu]))]
    rw [put_put, splice_cons (by simpa using hlt)]
    congr 5
    simp

end Go.Abs
