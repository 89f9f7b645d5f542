/- The abstract machine: rows and variables in a heap that is known in part. No condition beyond those written. -/
import Derived.Test.YtnibmlgdnhiglaaWvD3
namespace Go.Abs

theorem hget (σ l : Heap) (i : Nat) : (σ ++ l)[σ.length + i]? = l[i]? := by
  rw [List.getElem?_append_right (by omega)]; congr 1; omega

theorem cells_one {v : Value} (h : cellOk v = true) : v.cells.toList = [v] := by cases v <;> simp [cellOk] at h <;> rfl
theorem ok_bool (b : Bool) : cellOk (.bool b) = true := rfl
theorem ok_int (k : IntKind) (n : Int) : cellOk (.int k n) = true := rfl
theorem ok_float (k : FloatKind) (n : Nat) : cellOk (.float k n) = true := rfl
theorem ok_string (b : ByteArray) : cellOk (.string b) = true := rfl
theorem ok_slice (a : Option Addr) (n c : Nat) : cellOk (.slice a n c) = true := rfl
theorem ok_pointer (a : Option Addr) : cellOk (.pointer a) = true := rfl
theorem ok_func (f : Fn) (x y : Array Value) : cellOk (.func f x y) = true := rfl
theorem ok_iface (t : TypeId) (v : Value) : cellOk (.iface t v) = true := rfl
theorem ok_nilf : cellOk .nilFunc = true := rfl
theorem ok_nili : cellOk .nilIface = true := rfl
theorem const_bool (b : Bool) : constOk (.bool b) = true := rfl
theorem const_int (k : IntKind) (n : Int) : constOk (.int k n) = true := rfl
theorem const_float (k : FloatKind) (n : Nat) : constOk (.float k n) = true := rfl
theorem const_string (b : ByteArray) : constOk (.string b) = true := rfl
theorem const_slice (n c : Nat) : constOk (.slice none n c) = (Nat.beq n 0 && Nat.beq c 0) := by cases n <;> cases c <;> rfl
theorem const_sl0 : constOk (.slice none 0 0) = true := rfl
theorem const_ptr : constOk (.pointer none) = true := rfl
theorem const_nilf : constOk .nilFunc = true := rfl
theorem const_nili : constOk .nilIface = true := rfl
theorem cells_bool (b : Bool) : (Value.bool b).cells = #[.bool b] := rfl
theorem cells_int (k : IntKind) (n : Int) : (Value.int k n).cells = #[.int k n] := rfl
theorem cells_float (k : FloatKind) (n : Nat) : (Value.float k n).cells = #[.float k n] := rfl
theorem cells_string (b : ByteArray) : (Value.string b).cells = #[.string b] := rfl
theorem cells_slice (a : Option Addr) (n c : Nat) : (Value.slice a n c).cells = #[.slice a n c] := rfl
theorem cells_pointer (a : Option Addr) : (Value.pointer a).cells = #[.pointer a] := rfl
theorem cells_func (f : Fn) (x y : Array Value) : (Value.func f x y).cells = #[.func f x y] := rfl
theorem cells_iface (t : TypeId) (v : Value) : (Value.iface t v).cells = #[.iface t v] := rfl
theorem cells_nilf : Value.nilFunc.cells = #[.nilFunc] := rfl
theorem cells_nili : Value.nilIface.cells = #[.nilIface] := rfl
theorem cells_ok {v : Value} (h : cellOk v = true) : v.cells = #[v] := by cases v <;> simp [cellOk] at h <;> rfl
theorem cells_agg (cs : Array Value) : (Value.agg cs).cells = cs := rfl

/-- The values of a row of numbers. -/
def f32s (xs : List Nat) : List Value := xs.map (Value.float .f32)
def f64s (xs : List Nat) : List Value := xs.map (Value.float .f64)
def i64s (xs : List Int) : List Value := xs.map (Value.int .i64)
def u8s (xs : List Int) : List Value := xs.map (Value.int .u8)
def bools (xs : List Bool) : List Value := xs.map Value.bool

/-- A slice of n elements of e cells that tells these cells. -/
def Row (σ : Heap) (e : Nat) (v : Value) (n : Nat) (cs : List Value) : Prop :=
  match v with
  | .slice none n' _ => n' = n ∧ n = 0 ∧ cs = []
  | .slice (some a) n' cap => n' = n ∧ n ≤ cap ∧ ∃ obj, rowAt σ e a cap = some obj ∧ cs = (obj.cells.drop a.off).take (n * e)
  | _ => False

def elemP (e : Nat) (v : Value) (i : Nat) : Value :=
  match v with
  | .slice (some a) _ cap => .pointer (some ⟨a.block, a.off + i * e, some (a.off + cap * e)⟩)
  | _ => .pointer none

theorem rowAt_spec {σ : Heap} {e : Nat} {a : Addr} {cap : Nat} {obj : AObj} (h : rowAt σ e a cap = some obj) : σ[a.block]? = some obj ∧ obj.esz = e ∧ obj.cells.length = a.off + cap * e ∧ e ≠ 0 := by
  unfold rowAt at h
  split at h
  · rename_i o ho
    split at h
    · rename_i hc
      cases h
      simp [nat_beq] at hc
      exact ⟨ho, hc.1.1, hc.1.2, hc.2⟩
    · cases h
  · cases h

theorem rowAt_mk {σ : Heap} {e : Nat} {a : Addr} {cap : Nat} {obj : AObj} (h1 : σ[a.block]? = some obj) (h2 : obj.esz = e) (h3 : obj.cells.length = a.off + cap * e) (h4 : e ≠ 0) : rowAt σ e a cap = some obj := by
  unfold rowAt
  rw [h1]
  simp [nat_beq, h2, h3, h4]

theorem rowAt_more {σ τ : Heap} {e : Nat} {a : Addr} {cap : Nat} {obj : AObj} (h : rowAt σ e a cap = some obj) : rowAt (σ ++ τ) e a cap = some obj := by
  obtain ⟨h1, h2, h3, h4⟩ := rowAt_spec h
  exact rowAt_mk (by rw [List.getElem?_append_left (List.getElem?_eq_some_iff.1 h1).1]; exact h1) h2 h3 h4

section
variable {σ : Heap} {e n : Nat} {v : Value} {cs : List Value}

theorem Row.ext (h : Row σ e v n cs) (τ : Heap) : Row (σ ++ τ) e v n cs := by
  unfold Row at h ⊢
  split at h
  · exact h
  · obtain ⟨h1, h2, obj, h3, h4⟩ := h
    exact ⟨h1, h2, obj, rowAt_more h3, h4⟩
  · exact h.elim

theorem Row.len (h : Row σ e v n cs) : aLen false v = some (.int .i64 n) := by
  unfold Row at h
  split at h
  · rw [h.1.symm]; rfl
  · rw [h.1.symm]; rfl
  · exact h.elim

theorem Row.ok (h : Row σ e v n cs) : cellOk v = true := by
  unfold Row at h
  split at h
  · rfl
  · rfl
  · exact h.elim

theorem Row.length (h : Row σ e v n cs) : cs.length = n * e := by
  unfold Row at h
  split at h
  · obtain ⟨_, rfl, rfl⟩ := h; simp
  · rename_i a n' cap
    obtain ⟨_, h2, obj, h3, rfl⟩ := h
    obtain ⟨_, _, h5, _⟩ := rowAt_spec h3
    have := Nat.mul_le_mul_right e h2
    simp; omega
  · exact h.elim

theorem Row.idx (h : Row σ e v n cs) (k : IntKind) {j : Int} (h0 : 0 ≤ j) (h1 : j < n) : aIndexAddrS σ e v (.int k j) = some (elemP e v j.toNat) := by
  unfold Row at h
  split at h
  · obtain ⟨_, rfl, _⟩ := h; omega
  · rename_i a n' cap
    obtain ⟨rfl, h2, obj, h3, _⟩ := h
    simp only [aIndexAddrS, h3]
    rw [if_pos (by omega)]
    rfl
  · exact h.elim

theorem Row.load (h : Row σ 1 v n cs) {i : Nat} (h1 : i < n) : aLoad1 σ (elemP 1 v i) = cs[i]? := by
  unfold Row at h
  split at h
  · obtain ⟨_, rfl, _⟩ := h; omega
  · rename_i a n' cap
    obtain ⟨rfl, h2, obj, h3, rfl⟩ := h
    obtain ⟨h4, h5, h6, _⟩ := rowAt_spec h3
    simp only [elemP, aLoad1, h4]
    have : ptrOk obj (some (a.off + cap * 1)) = true := by simp [ptrOk, nat_beq, h5, h6]
    rw [if_pos this, List.getElem?_take, if_pos (by omega), List.getElem?_drop]
    congr 1; omega
  · exact h.elim

theorem Row.cells (h : Row σ e v n cs) : sliceCells σ e v n = some cs := by
  unfold Row at h
  split at h
  · obtain ⟨_, rfl, rfl⟩ := h; rfl
  · rename_i a n' cap
    obtain ⟨rfl, h2, obj, h3, rfl⟩ := h
    simp only [sliceCells, h3]
    rw [if_pos ⟨Nat.le_refl _, h2⟩]
  · exact h.elim

theorem Row.app (h : Row σ e v n cs) : appCells σ e v = some (cs, n) := by
  have hc := h.cells
  unfold Row at h
  split at h
  · obtain ⟨rfl, _, _⟩ := h; simp only [appCells, hc, Option.map_some]
  · rename_i a n' cap
    obtain ⟨rfl, _⟩ := h
    simp only [appCells, hc, Option.map_some]
  · exact h.elim

/-- A row that is an object's whole. -/
theorem Row.whole {b : Nat} {rw_ : Bool} (h : σ[b]? = some ⟨cs, e, rw_⟩) (he : e ≠ 0) (hn : cs.length = n * e) : Row σ e (.slice (some ⟨b, 0, none⟩) n n) n cs := by
  refine ⟨rfl, Nat.le_refl _, ⟨cs, e, rw_⟩, rowAt_mk h rfl (by simp [hn]) he, ?_⟩
  rw [List.drop_zero, List.take_of_length_le (Nat.le_of_eq hn)]

end

theorem Row.loadF {σ : Heap} {v : Value} {n : Nat} {xs : List Nat} (h : Row σ 1 v n (f32s xs)) {i : Nat} (h1 : i < n) : aLoad1 σ (elemP 1 v i) = some (.float .f32 (xs.getD i 0)) := by
  have hl := h.length
  rw [h.load h1]
  simp only [f32s, List.length_map, Nat.mul_one] at hl ⊢
  rw [List.getElem?_map, List.getElem?_eq_getElem (by omega), List.getD_eq_getElem?_getD, List.getElem?_eq_getElem (by omega)]
  rfl
theorem Row.loadI {σ : Heap} {v : Value} {n : Nat} {xs : List Int} (h : Row σ 1 v n (i64s xs)) {i : Nat} (h1 : i < n) : aLoad1 σ (elemP 1 v i) = some (.int .i64 (xs.getD i 0)) := by
  have hl := h.length
  rw [h.load h1]
  simp only [i64s, List.length_map, Nat.mul_one] at hl ⊢
  rw [List.getElem?_map, List.getElem?_eq_getElem (by omega), List.getD_eq_getElem?_getD, List.getElem?_eq_getElem (by omega)]
  rfl
theorem Row.loadB {σ : Heap} {v : Value} {n : Nat} {xs : List Bool} (h : Row σ 1 v n (bools xs)) {i : Nat} (h1 : i < n) : aLoad1 σ (elemP 1 v i) = some (.bool (xs.getD i false)) := by
  have hl := h.length
  rw [h.load h1]
  simp only [bools, List.length_map, Nat.mul_one] at hl ⊢
  rw [List.getElem?_map, List.getElem?_eq_getElem (by omega), List.getD_eq_getElem?_getD, List.getElem?_eq_getElem (by omega)]
  rfl

/-! ### Single operations on a heap that is known in part -/
section
variable (σ l : Heap)

theorem alloc_app (zero : List Value) : aAlloc (σ ++ l) zero = if zero.all constOk = true then some (.pointer (some ⟨σ.length + l.length, 0, none⟩), σ ++ (l ++ [⟨zero, 0, true⟩])) else none := by
  simp [aAlloc, newVar]
theorem box_app (v : Value) : aBox (σ ++ l) v = if v.cells.toList.all cellOk = true then some (.pointer (some ⟨σ.length + l.length, 0, none⟩), σ ++ (l ++ [⟨v.cells.toList, 0, true⟩])) else none := by
  simp [aBox, newVar]
theorem load1_app (i off : Nat) : aLoad1 (σ ++ l) (.pointer (some ⟨σ.length + i, off, none⟩)) = (match l[i]? with | some obj => if obj.esz = 0 then obj.cells[off]? else none | none => none) := by
  simp only [aLoad1, hget]
  cases l[i]? with
  | none => rfl
  | some obj => simp [ptrOk, nat_beq]
theorem loadN_app (n i off : Nat) : aLoadN (σ ++ l) n (.pointer (some ⟨σ.length + i, off, none⟩)) = (match l[i]? with | some obj => if obj.esz = 0 ∧ off + n ≤ obj.cells.length then some (.agg ((obj.cells.drop off).take n).toArray) else none | none => none) := by
  simp only [aLoadN, hget]
  cases l[i]? with
  | none => rfl
  | some obj => simp [ptrOk, nat_beq]
theorem store_app (n i off : Nat) (v : Value) : aStore (σ ++ l) n (.pointer (some ⟨σ.length + i, off, none⟩)) v =
    (match l[i]? with | some obj => if obj.esz = 0 ∧ obj.rw = true ∧ off + n ≤ obj.cells.length ∧ v.cells.toList.length = n ∧ v.cells.toList.all cellOk = true then some (σ ++ l.set i { obj with cells := splice obj.cells off v.cells.toList }) else none | none => none) := by
  simp only [aStore, hget]
  cases l[i]? with
  | none => rfl
  | some obj =>
    simp only [ptrOk, nat_beq]
    have : (σ ++ l).set (σ.length + i) { obj with cells := splice obj.cells off v.cells.toList } = σ ++ l.set i { obj with cells := splice obj.cells off v.cells.toList } := by
      rw [List.set_append_right _ _ (by omega)]; congr 2; omega
    rw [this]
    simp [and_assoc]
end

end Go.Abs
