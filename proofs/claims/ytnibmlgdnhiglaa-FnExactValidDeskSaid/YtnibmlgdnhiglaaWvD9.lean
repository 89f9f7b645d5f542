/- The abstract machine: rows that are written, appended to, and what has been written. No condition beyond those written. -/
import Derived.Test.YtnibmlgdnhiglaaWvD8
namespace Go.Abs

theorem nearest_word (f : Ieee.Format) (s : Bool) (m : Nat) (e : Int) : ∃ r, f.nearest s m e = f.word s r ∧ r ≤ f.infRung := by
  unfold Ieee.Format.nearest
  split
  · exact ⟨0, rfl, Nat.zero_le _⟩
  · exact ⟨_, rfl, Nat.min_le_right _ _⟩

theorem read_num (f : Ieee.Format) (hf : f.infRung < f.signWeight) (s : Bool) (r : Nat) (h : r ≤ f.infRung) : (f.read (f.word s r)).isNaN = false := by
  have hmod : f.word s r % f.signWeight = r := by
    unfold Ieee.Format.word
    have hlt : r < f.signWeight := Nat.lt_of_le_of_lt h hf
    cases s
    · simp [Nat.mod_eq_of_lt hlt]
    · simp [Nat.mod_eq_of_lt hlt]
  unfold Ieee.Format.read
  dsimp only
  rw [hmod]
  split
  · rfl
  · split
    · rfl
    · split
      · rfl
      · rename_i h1 h2 h3
        exact absurd (Nat.lt_of_le_of_ne h h3) h2

theorem encode_num (k : FloatKind) (s : Bool) (m : Nat) (e : Int) : isNaN k (k.encode (.number s m e)) = false := by
  obtain ⟨r, h1, h2⟩ := nearest_word k.format s m e
  have h3 : k.encode (.number s m e) = k.format.word s r := h1
  unfold isNaN FloatKind.decode
  rw [h3]
  refine read_num _ ?_ s r h2
  cases k <;> decide +kernel
theorem nearest_num (k : FloatKind) (n : Int) : isNaN k (k.nearest n) = false := encode_num k _ _ _
theorem feq_nearest (k : FloatKind) (n : Int) : feq k (k.nearest n) (k.nearest n) = true := by rw [feq_self, nearest_num]; rfl

/-! Rows anywhere. -/
theorem idx_obj {σ : Heap} {b e off len cap : Nat} {k : IntKind} {j : Int} {cells : List Value} {r : Bool} (h : σ[b]? = some ⟨cells, e, r⟩) (hc : cells.length = off + cap * e) (he : e ≠ 0) (h0 : 0 ≤ j) (h1 : j < len) (h2 : len ≤ cap) :
    aIndexAddrS σ e (.slice (some ⟨b, off, none⟩) len cap) (.int k j) = some (.pointer (some ⟨b, off + j.toNat * e, some (off + cap * e)⟩)) := by
  have hr : rowAt σ e ⟨b, off, none⟩ cap = some ⟨cells, e, r⟩ := rowAt_mk h rfl hc he
  simp only [aIndexAddrS, hr]
  rw [if_pos ⟨h0, h1, h2⟩]
theorem load1_obj {σ : Heap} {b off c : Nat} {cells : List Value} {e : Nat} {r : Bool} (h : σ[b]? = some ⟨cells, e, r⟩) (hc : cells.length = c) (he : e ≠ 0) : aLoad1 σ (.pointer (some ⟨b, off, some c⟩)) = cells[off]? := by
  simp only [aLoad1, h]
  simp [ptrOk, nat_beq, hc, he]
theorem store1_obj {σ : Heap} {b off c : Nat} {v : Value} {cells : List Value} {e : Nat} (h : σ[b]? = some ⟨cells, e, true⟩) (hc : cells.length = c) (he : e ≠ 0) (ho : off < c) (hv : cellOk v = true) :
    aStore σ 1 (.pointer (some ⟨b, off, some c⟩)) v = some (σ.set b ⟨cells.set off v, e, true⟩) := by
  have hsp : splice cells off [v] = cells.set off v := by
    unfold splice
    rw [List.set_eq_take_append_cons_drop, if_pos (by omega)]
    simp
  simp only [aStore, h, cells_one hv, hsp]
  have : cells.length = c := hc
  simp [ptrOk, nat_beq, hc, he, hv]
  omega

theorem set_app (σ l : Heap) (i : Nat) (x : AObj) : (σ ++ l).set (σ.length + i) x = σ ++ l.set i x := by
  rw [List.set_append_right _ _ (by omega)]; congr 2; omega

theorem build0_app (σ l : Heap) (e : Nat) : aBuildSlice (σ ++ l) (e + 1) 0 [] [] = some (.slice (some ⟨σ.length + l.length, 0, none⟩) 0 0, σ ++ (l ++ [⟨[], e + 1, true⟩])) := by
  simp [aBuildSlice, newRow, fillS]

/-- To a whole own row something is appended. -/
theorem append_app (σ l : Heap) (e bytes i n k : Nat) {x : Value} {cells new : List Value} (h : l[i]? = some ⟨cells, e, true⟩) (hc : cells.length = n * e) (he : e ≠ 0) (hx : appCells (σ ++ l) e x = some (new, k)) (hk : (n + k) * bytes ≤ 2 ^ 44) (hk2 : n + k ≤ 2 ^ 44) (hn : new.all cellOk = true) :
    aAppend (σ ++ l) e bytes (.slice (some ⟨σ.length + i, 0, none⟩) n n) x = some (.slice (some ⟨σ.length + i, 0, none⟩) (n + k) (n + k), σ ++ l.set i ⟨cells ++ new, e, true⟩) := by
  have hr : rowAt (σ ++ l) e ⟨σ.length + i, 0, none⟩ n = some ⟨cells, e, true⟩ := rowAt_mk (by rw [hget]; exact h) rfl (by simp [hc]) he
  simp only [aAppend, hx, hr]
  rw [if_pos ⟨trivial, trivial, trivial, hk, hk2, hn⟩, set_app]

/-- To a new row with nothing in it. -/
theorem append_new (σ l : Heap) (e bytes i k : Nat) {x : Value} {new : List Value} (h : l[i]? = some ⟨[], e + 1, true⟩) (hx : appCells (σ ++ l) (e + 1) x = some (new, k)) (hk : k * bytes ≤ 2 ^ 44) (hk2 : k ≤ 2 ^ 44) (hn : new.all cellOk = true) :
    aAppend (σ ++ l) (e + 1) bytes (.slice (some ⟨σ.length + i, 0, none⟩) 0 0) x = some (.slice (some ⟨σ.length + i, 0, none⟩) k k, σ ++ l.set i ⟨new, e + 1, true⟩) := by
  have := append_app σ l (e + 1) bytes i 0 k h (by simp) (by omega) hx (by rw [Nat.zero_add]; exact hk) (by omega) hn
  rwa [Nat.zero_add, List.nil_append] at this

theorem f32s_ok (xs : List Nat) : (f32s xs).all cellOk = true := by simp [f32s, cellOk]
theorem f32s_append (xs ys : List Nat) : f32s xs ++ f32s ys = f32s (xs ++ ys) := by simp [f32s]

/-- Old rows were written; nothing new is kept. -/
theorem end_mod {σ σ1 τ : Heap} {v0 : Value} {Q : Value → Heap → Prop} (hlen : σ1.length = σ.length) (hold : ∀ o, o < σ.length → σ1[o]? = σ[o]? ∨ ∀ obj, σ1[o]? = some obj → allConst obj = true)
    (h : gcTop σ.length v0 = some (v0, [])) (hq : Q v0 σ1) : ∃ v ids σ', gcTop σ.length v0 = some (v, ids) ∧ Cleared σ (σ1 ++ τ) ids σ' ∧ QuietTo false σ σ' ∧ Q v σ' := by
  refine ⟨v0, [], σ1, h, ?_, (by intro h; cases h), hq⟩
  refine { le := by simp; omega, eq := by rw [← hlen]; simp, ge := (fun i h => by cases h), lt := (fun i h => by cases h), nd := List.nodup_nil, new := (fun i h => by cases h), old := fun o ho => ?_ }
  rw [List.getElem?_append_left (by omega)]
  exact hold o ho

theorem set_old {σ : Heap} {b : Nat} {x : AObj} (hx : allConst x = true) : ∀ o, o < σ.length → (σ.set b x)[o]? = σ[o]? ∨ ∀ obj, (σ.set b x)[o]? = some obj → allConst obj = true := by
  intro o ho
  by_cases h : b = o
  · subst h
    right
    intro obj hobj
    rw [List.getElem?_set_self ho] at hobj
    cases hobj; exact hx
  · left; rw [List.getElem?_set_ne h]

/-- A call of a function value. -/
theorem EvR.callD {C : Ctab} {F : Frame} {σ : Heap} {Q} {d : Option Nat} {f : Operand} {g : FuncId} {y : Array Value} {args : List Operand} {n : Nat} {rest : List SOper} {c : Contract} {R : Value → Heap → Prop} (hg : C g = some c) (hf : eval F f = .func (.func g) #[] y) {as : List Value} (ha : args.map (eval F) = as)
    (hr : Ret c (as ++ y.toList) σ R) {F' : Value → Frame} (hF : ∀ v, fput F d v = F' v) (h : ∀ v σ', R v σ' → EvR C rest (F' v) σ' Q) : EvR C (⟨d, none, .call f args, n⟩ :: rest) F σ Q := by
  subst ha
  refine EvR.call R hf hg (by simpa using hr) fun v σ' hv => ?_
  rw [hF v]; exact h v σ' hv

/-- Cells of an old variable from an offset on. -/
structure PtAt (σ : Heap) (b o : Nat) (cs : List Value) : Prop where
  get : ∃ cells r, σ[b]? = some ⟨cells, 0, r⟩ ∧ (cells.drop o).take cs.length = cs
theorem PtAt.whole {σ : Heap} {b : Nat} {cells : List Value} {r : Bool} (h : σ[b]? = some ⟨cells, 0, r⟩) : PtAt σ b 0 cells := ⟨cells, r, h, by simp⟩
theorem PtAt.part {σ : Heap} {b : Nat} {cells : List Value} {r : Bool} (h : σ[b]? = some ⟨cells, 0, r⟩) (o : Nat) (cs : List Value) (hc : (cells.drop o).take cs.length = cs) : PtAt σ b o cs := ⟨cells, r, h, hc⟩
theorem PtAt.lt {σ : Heap} {b o : Nat} {cs : List Value} (h : PtAt σ b o cs) : b < σ.length := by
  obtain ⟨cells, r, h1, _⟩ := h.get; exact (List.getElem?_eq_some_iff.1 h1).1
theorem PtAt.load {σ : Heap} {b o : Nat} {cs : List Value} (h : PtAt σ b o cs) (l : Heap) (k : Nat) (hk : k < cs.length) : aLoad1 (σ ++ l) (.pointer (some ⟨b, o + k, none⟩)) = cs[k]? := by
  obtain ⟨cells, r, h1, h2⟩ := h.get
  rw [load1_at h1]
  have h3 : cs[k]? = ((cells.drop o).take cs.length)[k]? := by rw [h2]
  rw [h3, List.getElem?_take, if_pos hk, List.getElem?_drop]
theorem PtAt.loadN {σ : Heap} {b o : Nat} {cs : List Value} (h : PtAt σ b o cs) (l : Heap) (hc : cs ≠ []) : aLoadN (σ ++ l) cs.length (.pointer (some ⟨b, o, none⟩)) = some (.agg cs.toArray) := by
  obtain ⟨cells, r, h1, h2⟩ := h.get
  have hl := congrArg List.length h2
  simp at hl
  have hpos : 0 < cs.length := List.length_pos_iff.2 hc
  rw [loadN_at h1 l cs.length o (by omega), h2]
theorem PtAt.ext {σ : Heap} {b o : Nat} {cs : List Value} (h : PtAt σ b o cs) (τ : Heap) : PtAt (σ ++ τ) b o cs := by
  obtain ⟨cells, r, h1, h2⟩ := h.get
  exact ⟨cells, r, by rw [List.getElem?_append_left (List.getElem?_eq_some_iff.1 h1).1]; exact h1, h2⟩

theorem EvR.mono {C : Ctab} {ops : List SOper} {F : Frame} {σ : Heap} {Q Q' : Frame → Heap → Prop} (h : EvR C ops F σ Q) (hq : ∀ F' σ', Q F' σ' → Q' F' σ') : EvR C ops F σ Q' := by
  unfold EvR at h ⊢
  obtain ⟨F', σ', h1, h2⟩ := h
  exact ⟨F', σ', h1, hq _ _ h2⟩

/-- A guard that was not met itself. -/
theorem EvR.opSU {C : Ctab} {F : Frame} {σ : Heap} {Q} {d : Nat} {op : SOp} {n t : Nat} {want : Bool} {rest : List SOper} (hg : fget F t = undef) (h : EvR C rest ((d, undef) :: F) σ Q) : EvR C (⟨some d, some (t, want), op, n⟩ :: rest) F σ Q := EvR.opU (x := #[]) hg rfl h
theorem EvR.opNU {C : Ctab} {F : Frame} {σ : Heap} {Q} {op : SOp} {n t : Nat} {want : Bool} {rest : List SOper} (hg : fget F t = undef) (h : EvR C rest F σ Q) : EvR C (⟨none, some (t, want), op, n⟩ :: rest) F σ Q := EvR.opU (x := #[]) hg rfl h

attribute [push_cast] aBuild fillS nat_beq build0_app List.map_cons List.map_nil

end Go.Abs
