/- The abstract machine: how its values and heaps stand for the model's. No condition. -/
import Derived.Test.YtnibmlgdnhiglaaWvA2
namespace Go.Abs

/-- Where an object lies: block, first cell, and (of one that may be written) how many cells the block has. -/
structure Spot where
  blk : Nat
  base : Nat
  K : Nat

abbrev Inj := Nat → Option Spot

def FRel (k : FloatKind) (a b : Nat) : Prop := a = b ∨ (isNaN k a = true ∧ isNaN k b = true)

def SlOk (β : Inj) (obj : AObj) (a : Addr) (cap : Nat) (c : Addr) (cap' : Nat) : Prop :=
  obj.esz ≠ 0 → obj.cells.length = a.off + cap * obj.esz → (cap ≠ 0 ∨ a.off = 0) →
    ∃ s, β a.block = some s ∧ c = ⟨s.blk, s.base + a.off, none⟩ ∧ (obj.rw = true → s.base + a.off + cap' * obj.esz ≤ s.K)

inductive VRel (β : Inj) (σ : Heap) : Value → Value → Prop where
  | dead (c : Value) : VRel β σ dead c
  | bool (b : Bool) : VRel β σ (.bool b) (.bool b)
  | int (k : IntKind) (n : Int) : VRel β σ (.int k n) (.int k n)
  | float {k : FloatKind} {a b : Nat} (h : FRel k a b) : VRel β σ (.float k a) (.float k b)
  | string (s : ByteArray) : VRel β σ (.string s) (.string s)
  | ptrNil : VRel β σ (.pointer none) (.pointer none)
  | ptr (a : Addr) (obj : AObj) (hσ : σ[a.block]? = some obj) (c : Addr) (hk : ∀ n, a.spot = some n → n ≤ obj.cells.length)
      (h : ptrOk obj a.spot = true → ∃ s, β a.block = some s ∧ c = ⟨s.blk, s.base + a.off, none⟩) : VRel β σ (.pointer (some a)) (.pointer (some c))
  | slNil (n m : Nat) : VRel β σ (.slice none n m) (.slice none n m)
  | sl (a : Addr) (obj : AObj) (hσ : σ[a.block]? = some obj) (len cap : Nat) (c : Addr) (cap' : Nat)
      (hsz : obj.esz ≠ 0 → a.off + cap * obj.esz ≤ obj.cells.length) (hcap : cap ≤ cap') (h : SlOk β obj a cap c cap') : VRel β σ (.slice (some a) len cap) (.slice (some c) len cap')
  | func (f : Fn) (x y x' y' : Array Value) (hx : x.size = x'.size) (hy : y.size = y'.size)
      (h1 : ∀ (i : Nat) (v v' : Value), x[i]? = some v → x'[i]? = some v' → VRel β σ v v')
      (h2 : ∀ (i : Nat) (v v' : Value), y[i]? = some v → y'[i]? = some v' → VRel β σ v v') : VRel β σ (.func f x y) (.func f x' y')
  | nilFunc : VRel β σ .nilFunc .nilFunc
  | nilIface : VRel β σ .nilIface .nilIface
  | iface (t : TypeId) (v v' : Value) (h : VRel β σ v v') : VRel β σ (.iface t v) (.iface t v')
  | agg (x x' : Array Value) (hx : x.size = x'.size) (h1 : ∀ (i : Nat) (v v' : Value), x[i]? = some v → x'[i]? = some v' → VRel β σ v v') : VRel β σ (.agg x) (.agg x')
  | tuple (x x' : Array Value) (hx : x.size = x'.size) (h1 : ∀ (i : Nat) (v v' : Value), x[i]? = some v → x'[i]? = some v' → VRel β σ v v') : VRel β σ (.tuple x) (.tuple x')

/-- What heaps may become, that what stood for something stands for it still. -/
structure Later (β : Inj) (σ : Heap) (β' : Inj) (σ' : Heap) : Prop where
  at_ : ∀ (o : Nat) (obj : AObj), σ[o]? = some obj → ∃ obj', σ'[o]? = some obj' ∧ obj'.esz = obj.esz ∧ obj'.rw = obj.rw ∧ obj.cells.length ≤ obj'.cells.length ∧
    (obj'.cells.length = obj.cells.length → β' o = β o) ∧ (obj.esz = 0 → obj'.cells.length = obj.cells.length)

theorem Later.refl (β : Inj) (σ : Heap) : Later β σ β σ := ⟨fun _ obj h => ⟨obj, h, rfl, rfl, Nat.le_refl _, fun _ => rfl, fun _ => rfl⟩⟩

theorem VRel.later {β β' : Inj} {σ σ' : Heap} (L : Later β σ β' σ') {v c : Value} (h : VRel β σ v c) : VRel β' σ' v c := by
  induction h with
  | dead c => exact .dead c
  | bool b => exact .bool b
  | int k n => exact .int k n
  | float h => exact .float h
  | string s => exact .string s
  | ptrNil => exact .ptrNil
  | ptr a obj hσ c hk h =>
    obtain ⟨obj', h1, he, _, hle, hb, h0⟩ := L.at_ _ _ hσ
    refine .ptr a obj' h1 c (fun n hn => Nat.le_trans (hk n hn) hle) fun hp => ?_
    have hlen : obj'.cells.length = obj.cells.length := by
      cases hs : a.spot with
      | none => rw [hs] at hp; simp only [ptrOk, Nat.beq_eq] at hp; exact h0 (by omega)
      | some n => rw [hs] at hp; simp [ptrOk] at hp; have := hk n hs; omega
    rw [hb hlen]
    refine h ?_
    cases hs : a.spot with
    | none => rw [hs] at hp; simpa [ptrOk, he] using hp
    | some n => rw [hs] at hp; simpa [ptrOk, he, hlen] using hp
  | slNil n m => exact .slNil n m
  | sl a obj hσ len cap c cap' hsz hcap h =>
    obtain ⟨obj', h1, he, hr, hle, hb, h0⟩ := L.at_ _ _ hσ
    refine .sl a obj' h1 len cap c cap' (fun h => ?_) hcap fun hne hl hc => ?_
    · rw [he] at h ⊢; exact Nat.le_trans (hsz h) hle
    · rw [he] at hne hl
      have := hsz hne
      have hlen : obj'.cells.length = obj.cells.length := by omega
      rw [hb hlen, hr, he]
      exact h hne (by omega) hc
  | func f x y x' y' hx hy _ _ i1 i2 => exact .func f x y x' y' hx hy i1 i2
  | nilFunc => exact .nilFunc
  | nilIface => exact .nilIface
  | iface t v v' _ ih => exact .iface t v v' ih
  | agg x x' hx _ ih => exact .agg x x' hx ih
  | tuple x x' hx _ ih => exact .tuple x x' hx ih

theorem Later.trans {β₁ β₂ β₃ : Inj} {σ₁ σ₂ σ₃ : Heap} (a : Later β₁ σ₁ β₂ σ₂) (b : Later β₂ σ₂ β₃ σ₃) : Later β₁ σ₁ β₃ σ₃ := by
  refine ⟨fun o obj h => ?_⟩
  obtain ⟨o2, h2, e2, r2, l2, b2, z2⟩ := a.at_ o obj h
  obtain ⟨o3, h3, e3, r3, l3, b3, z3⟩ := b.at_ o o2 h2
  refine ⟨o3, h3, by omega, by rw [r3, r2], by omega, fun hl => ?_, fun hz => ?_⟩
  · rw [b3 (by omega), b2 (by omega)]
  · rw [z3 (by omega), z2 hz]

/-- Lists of values, place by place. -/
def LRel (β : Inj) (σ : Heap) (xs cs : List Value) : Prop := xs.length = cs.length ∧ ∀ (i : Nat) (v c : Value), xs[i]? = some v → cs[i]? = some c → VRel β σ v c

structure InjOk (β : Inj) (σ : Heap) (w : World) : Prop where
  dom : ∀ o s, β o = some s → o < σ.length
  obj : ∀ (o : Nat) (obj : AObj) (s : Spot), σ[o]? = some obj → β o = some s →
    ∃ (c : Array Value) (e : TypeId) (fz : Nat × Nat), w.heap[s.blk]? = some (.cells c e fz) ∧
      (∀ (j : Nat) (v : Value), obj.cells[j]? = some v → ∃ u, c[s.base + j]? = some u ∧ VRel β σ v u) ∧
      (obj.rw = true → s.base = 0 ∧ c.size = s.K ∧ (fz.1 = fz.2 ∨ c.size ≤ fz.1))
  inj : ∀ (o o' : Nat) (obj : AObj) (s s' : Spot), σ[o]? = some obj → obj.rw = true → β o = some s → β o' = some s' → s.blk = s'.blk → o = o'

theorem frz {n : Nat} {fz : Nat × Nat} (h : fz.1 = fz.2 ∨ n ≤ fz.1) : ∀ i, i < n → (decide (fz.1 ≤ i) && decide (i < fz.2)) = false := by
  intro i hi
  rcases h with h | h
  · by_cases h1 : fz.1 ≤ i
    · have : ¬ i < fz.2 := by omega
      simp [this]
    · simp [h1]
  · have : ¬ fz.1 ≤ i := by omega
    simp [this]

/-- Written objects' blocks. -/
def IsRw (β : Inj) (σ : Heap) (b : Nat) : Prop := ∃ (o : Nat) (obj : AObj) (s : Spot), σ[o]? = some obj ∧ obj.rw = true ∧ β o = some s ∧ s.blk = b

/-- One world becomes another while one heap becomes another. -/
structure Trans (β : Inj) (σ : Heap) (w : World) (β' : Inj) (σ' : Heap) (w' : World) : Prop where
  ok : InjOk β' σ' w'
  later : Later β σ β' σ'
  len : σ.length ≤ σ'.length
  size : w.heap.size ≤ w'.heap.size
  keep : ∀ b, b < w.heap.size → ¬ IsRw β σ b → w'.heap[b]? = w.heap[b]?
  grow : ∀ b, b < w.heap.size → IsRw β' σ' b → IsRw β σ b
  os : w'.os = w.os
  tape : w'.tape = w.tape
  output : w'.output = w.output

theorem Trans.trans {β₁ β₂ β₃ : Inj} {σ₁ σ₂ σ₃ : Heap} {w₁ w₂ w₃ : World} (a : Trans β₁ σ₁ w₁ β₂ σ₂ w₂) (b : Trans β₂ σ₂ w₂ β₃ σ₃ w₃) : Trans β₁ σ₁ w₁ β₃ σ₃ w₃ :=
  { ok := b.ok, later := a.later.trans b.later, len := Nat.le_trans a.len b.len, size := Nat.le_trans a.size b.size
    keep := fun k hk hn => (b.keep k (Nat.lt_of_lt_of_le hk a.size) (fun h => hn (a.grow k hk h))).trans (a.keep k hk hn)
    grow := fun k hk h => a.grow k hk (b.grow k (Nat.lt_of_lt_of_le hk a.size) h)
    os := b.os.trans a.os, tape := b.tape.trans a.tape, output := b.output.trans a.output }

theorem Trans.refl {β : Inj} {σ : Heap} {w : World} (h : InjOk β σ w) : Trans β σ w β σ w :=
  { ok := h, later := Later.refl _ _, len := Nat.le_refl _, size := Nat.le_refl _, keep := fun _ _ _ => rfl, grow := fun _ _ h => h, os := rfl, tape := rfl, output := rfl }

theorem InjOk.drawn {β : Inj} {σ : Heap} {w : World} (h : InjOk β σ w) (n : Nat) : InjOk β σ { w with drawn := n } := ⟨h.dom, h.obj, h.inj⟩

theorem Trans.drawn {β : Inj} {σ : Heap} {w : World} (h : InjOk β σ w) (n : Nat) : Trans β σ w β σ { w with drawn := n } :=
  { ok := h.drawn n, later := Later.refl _ _, len := Nat.le_refl _, size := Nat.le_refl _, keep := fun _ _ _ => rfl, grow := fun _ _ h => h, os := rfl, tape := rfl, output := rfl }

theorem Trans.drew {β : Inj} {σ : Heap} {w : World} (h : InjOk β σ w) : Trans β σ w β σ w.drew := Trans.drawn h _

theorem block_lt {w : World} {b : Nat} {o : Obj} (h : w.heap[b]? = some o) : b < w.heap.size := by
  rcases Nat.lt_or_ge b w.heap.size with h' | h'
  · exact h'
  · simp [Array.getElem?_eq_none h'] at h

/-- A new object in a new block, whose cells behind those of the object are nobody's. -/
theorem Trans.alloc {β : Inj} {σ : Heap} {w : World} (h : InjOk β σ w) (cells : List Value) (esz : Nat) (cs : Array Value) (e : TypeId)
    (hc : ∀ (j : Nat) (v : Value), cells[j]? = some v → ∃ u, cs[j]? = some u ∧ VRel β σ v u) :
    Trans β σ w (fun o => if o = σ.length then some ⟨w.heap.size, 0, cs.size⟩ else β o) (σ ++ [⟨cells, esz, true⟩]) (w.alloc (.cells cs e)) := by
  have hlat : Later β σ (fun o => if o = σ.length then some ⟨w.heap.size, 0, cs.size⟩ else β o) (σ ++ [⟨cells, esz, true⟩]) := by
    refine ⟨fun o obj ho => ?_⟩
    have hlt : o < σ.length := by
      rcases Nat.lt_or_ge o σ.length with h' | h'
      · exact h'
      · simp [List.getElem?_eq_none h'] at ho
    refine ⟨obj, by rw [List.getElem?_append_left hlt]; exact ho, rfl, rfl, Nat.le_refl _, fun _ => ?_, fun _ => rfl⟩
    exact if_neg (by omega)
  have hold : ∀ b, b < w.heap.size → (w.alloc (.cells cs e)).heap[b]? = w.heap[b]? := fun b hb => by
    show (w.heap.push _)[b]? = _
    rw [Array.getElem?_push_lt hb]
    simp [hb]
  refine { ok := ⟨?_, ?_, ?_⟩, later := hlat, len := by simp, size := by simp, keep := fun b hb _ => hold b hb, grow := ?_, os := rfl, tape := rfl, output := rfl }
  · intro o s hs
    split at hs
    · rename_i he; simp [he]
    · have := h.dom o s hs; simp; omega
  · intro o obj s ho hs
    split at hs
    · rename_i he
      cases hs
      subst he
      simp at ho
      subst ho
      refine ⟨cs, e, (0, 0), by show (w.heap.push _)[w.heap.size]? = _; simp, fun j v hj => ?_, fun _ => ⟨rfl, rfl, .inl rfl⟩⟩
      obtain ⟨u, hu, hr⟩ := hc j v hj
      exact ⟨u, by simpa using hu, hr.later hlat⟩
    · rename_i hne
      have hlt := h.dom o s hs
      rw [List.getElem?_append_left hlt] at ho
      obtain ⟨c, e', fz, hb, hcells, hrw⟩ := h.obj o obj s ho hs
      refine ⟨c, e', fz, ?_, fun j v hj => ?_, hrw⟩
      · rw [hold _ (block_lt hb)]; exact hb
      · obtain ⟨u, hu, hr⟩ := hcells j v hj
        exact ⟨u, hu, hr.later hlat⟩
  · intro o o' obj s s' ho hrw hs hs' hb
    have aux : ∀ (o : Nat) (s : Spot), β o = some s → s.blk < w.heap.size := by
      intro o s hs
      have hlt := h.dom o s hs
      obtain ⟨c, e', fz, hb, _⟩ := h.obj o _ s (List.getElem?_eq_getElem hlt) hs
      exact block_lt hb
    split at hs <;> split at hs'
    · omega
    · cases hs; have := aux _ _ hs'; dsimp only at hb; omega
    · cases hs'; have := aux _ _ hs; dsimp only at hb; omega
    · have hlt := h.dom o s hs
      rw [List.getElem?_append_left hlt] at ho
      exact h.inj o o' obj s s' ho hrw hs hs' hb
  · rintro b hb ⟨o, obj, s, ho, hrw, hs, rfl⟩
    dsimp only at hs
    split at hs
    · cases hs; dsimp only at hb; omega
    · have hlt := h.dom o s hs
      rw [List.getElem?_append_left hlt] at ho
      exact ⟨o, obj, s, ho, hrw, hs, rfl⟩

theorem vrel_const {β : Inj} {σ : Heap} {v : Value} (h : constOk v = true) : VRel β σ v v := by
  cases v with
  | bool b => exact .bool b
  | int k n => exact .int k n
  | float k b => exact .float (.inl rfl)
  | string s => exact .string s
  | pointer a => cases a with | none => exact .ptrNil | some a => simp [constOk] at h
  | slice a n m => cases a with | none => exact .slNil n m | some a => simp [constOk] at h
  | nilFunc => exact .nilFunc
  | nilIface => exact .nilIface
  | _ => simp [constOk] at h

end Go.Abs
