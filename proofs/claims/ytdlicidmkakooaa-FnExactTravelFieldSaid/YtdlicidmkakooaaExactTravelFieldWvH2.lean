/- The abstract machine: texts and rows of bytes; what is appended. No condition beyond those written. -/
import Derived.Test.YtdlicidmkakooaaExactTravelFieldWvH1
namespace Go.Abs
set_option linter.unusedVariables false
set_option linter.unusedSimpArgs false

/-! ### Texts as lists of bytes -/
/-- The text of bytes. -/
def str (l : List UInt8) : ByteArray := ⟨l.toArray⟩
theorem mk_str (l : List UInt8) : ByteArray.mk (List.toArray l) = str l := rfl
theorem str_data (l : List UInt8) : (str l).data.toList = l := rfl
theorem str_size (l : List UInt8) : (str l).size = l.length := rfl
theorem str_toList (l : List UInt8) : (str l).toList = l := by rw [ByteArray.toList_eq]; rfl
theorem str_append (a b : List UInt8) : str a ++ str b = str (a ++ b) := by
  apply Go.WideShapes.bytes_inj
  rw [ByteArray.data_append]
  simp [str]
theorem str_extract (a : List UInt8) (i j : Nat) : (str a).extract i j = str ((a.take j).drop i) := by
  apply Go.WideShapes.bytes_inj
  rw [ByteArray.data_extract]
  simp [str, List.drop_take]
theorem beq_lst (a b : List UInt8) : (a == b) = decide (a = b) := by
  by_cases h : a = b
  · subst h; simp
  · simp [h]
theorem bin_streq (ek : EqK) (a b : List UInt8) : aBin .eql ek (.string (str a)) (.string (str b)) = some (.bool (decide (a = b))) := by
  rw [bin_seq, str_toList, str_toList, beq_lst]
theorem bin_strne (ek : EqK) (a b : List UInt8) : aBin .neq ek (.string (str a)) (.string (str b)) = some (.bool (!decide (a = b))) := by
  rw [bin_sne, str_toList, str_toList, beq_lst]
theorem bin_strcat (ek : EqK) {a b : List UInt8} (h : a.length + b.length ≤ 9223372036854775807) : aBin .add ek (.string (str a)) (.string (str b)) = some (.string (str (a ++ b))) := by
  have hm : maxI = 9223372036854775807 := rfl
  simp only [aBin, sArith, str_size, hm]
  rw [if_pos h, str_append]
/-- A byte's value. -/
abbrev byteV (b : UInt8) : Value := .int .u8 (b.toNat : Int)
def b8s (l : List UInt8) : List Value := l.map byteV
theorem b8s_length (l : List UInt8) : (b8s l).length = l.length := List.length_map _
theorem b8s_append (a b : List UInt8) : b8s a ++ b8s b = b8s (a ++ b) := by simp [b8s]
theorem b8s_ok (l : List UInt8) : (b8s l).all cellOk = true := by simp [b8s, cellOk]
theorem b8s_get {l : List UInt8} {i : Nat} (h : i < l.length) : (b8s l)[i]? = some (byteV (l.getD i 0)) := by
  unfold b8s
  rw [List.getElem?_map, List.getElem?_eq_getElem h, List.getD_eq_getElem?_getD, List.getElem?_eq_getElem h]; rfl
theorem bytesOf_b8s : ∀ l : List UInt8, bytesOfCells (b8s l) = some l
  | [] => rfl
  | b :: l => by
    have h := bytesOf_b8s l
    unfold b8s at h ⊢
    rw [List.map_cons]
    simp only [bytesOfCells] at h ⊢
    rw [h]
    simp
theorem index_str {l : List UInt8} {k : IntKind} {j : Int} (h0 : 0 ≤ j) (h1 : j < l.length) : aIndexStr (.string (str l)) (.int k j) = some (byteV (l.getD j.toNat 0)) := by
  have hj : j.toNat < l.length := by omega
  simp only [aIndexStr, str_data]
  rw [if_pos h0, List.getElem?_eq_getElem hj, List.getD_eq_getElem?_getD, List.getElem?_eq_getElem hj]
  rfl
/-- The byte of a number. -/
def byteOf (n : Int) : UInt8 := UInt8.ofNat (n % 256).toNat
theorem u8_wrap (n : Int) : IntKind.u8.wrap n = ((byteOf n).toNat : Int) := by
  simp only [IntKind.wrap, byteOf]
  simp [IntKind.bits, IntKind.signed]
  omega
theorem convP_u8 (k : IntKind) (n : Int) : aConvP (.toInt .u8) (.int k n) = some (byteV (byteOf n)) := by
  simp only [aConvP, u8_wrap]
theorem slice_str {l : List UInt8} {k k' : IntKind} {i j : Int} (h0 : 0 ≤ i) (h1 : i ≤ j) (h2 : j ≤ l.length) : aSliceStr (.string (str l)) (some (.int k i)) (some (.int k' j)) = some (.string (str ((l.take j.toNat).drop i.toNat))) := by
  simp only [aSliceStr, idx, str_size, str_extract]
  rw [if_pos ⟨h0, h1, h2⟩]
theorem slice_strL {l : List UInt8} {k : IntKind} {i : Int} (h0 : 0 ≤ i) (h2 : i ≤ l.length) : aSliceStr (.string (str l)) (some (.int k i)) none = some (.string (str (l.drop i.toNat))) := by
  simp only [aSliceStr, idx, str_size, str_extract]
  rw [if_pos ⟨h0, by omega, by omega⟩, Int.toNat_natCast, List.take_length]
theorem slice_strR {l : List UInt8} {k : IntKind} {j : Int} (h0 : 0 ≤ j) (h2 : j ≤ l.length) : aSliceStr (.string (str l)) none (some (.int k j)) = some (.string (str (l.take j.toNat))) := by
  simp only [aSliceStr, idx, str_size, str_extract]
  rw [if_pos ⟨by omega, by omega, h2⟩]; simp
theorem len_strl (l : List UInt8) : aLen true (.string (str l)) = some (.int .i64 (l.length : Int)) := rfl

/-! ### What is appended -/
def isOwn (o : Option AObj) (e n : Nat) : Prop := match o with | some obj => obj.esz = e ∧ obj.cells.length = n ∧ e ≠ 0 ∧ obj.rw = true | none => False
theorem isOwn_some (cells : List Value) (e e' n : Nat) (r : Bool) : isOwn (some ⟨cells, e, r⟩) e' n = (e = e' ∧ cells.length = n ∧ e' ≠ 0 ∧ r = true) := rfl
def appRow (l : Heap) (i : Nat) (new : List Value) : Heap := match l[i]? with | some ⟨c, e, r⟩ => l.set i ⟨c ++ new, e, r⟩ | none => l
def appTo (σ l : Heap) (i bytes n : Nat) : Option (List Value × Nat) → Option (Value × Heap)
  | some (new, k) => if (n + k) * bytes ≤ 17592186044416 ∧ n + k ≤ 17592186044416 ∧ new.all cellOk = true then some (.slice (some ⟨σ.length + i, 0, none⟩) (n + k) (n + k), σ ++ appRow l i new) else none
  | none => none
theorem appTo_some (σ l : Heap) (i bytes n k : Nat) (new : List Value) : appTo σ l i bytes n (some (new, k)) = if (n + k) * bytes ≤ 17592186044416 ∧ n + k ≤ 17592186044416 ∧ new.all cellOk = true then some (.slice (some ⟨σ.length + i, 0, none⟩) (n + k) (n + k), σ ++ appRow l i new) else none := rfl
theorem appendO {σ l : Heap} {e bytes i n : Nat} {x : Value} (hr : isOwn l[i]? e (n * e)) : aAppend (σ ++ l) e bytes (.slice (some ⟨σ.length + i, 0, none⟩) n n) x = appTo σ l i bytes n (appCells (σ ++ l) e x) := by
  cases hl : l[i]? with
  | none => rw [hl] at hr; exact hr.elim
  | some obj =>
    obtain ⟨cells, e', r⟩ := obj
    rw [hl] at hr
    obtain ⟨g1, g2, g3, g4⟩ := hr
    dsimp only at g1 g2 g4
    subst g1 g4
    cases hx : appCells (σ ++ l) e' x with
    | none => simp only [aAppend, hx, appTo]
    | some p =>
      obtain ⟨new, k⟩ := p
      rw [appTo_some]
      by_cases hc : (n + k) * bytes ≤ 17592186044416 ∧ n + k ≤ 17592186044416 ∧ new.all cellOk = true
      · rw [if_pos hc]
        have := append_app σ l e' bytes i n k hl g2 g3 hx hc.1 hc.2.1 hc.2.2
        rw [this]
        unfold appRow
        rw [hl]
      · rw [if_neg hc]
        have hrow : rowAt (σ ++ l) e' ⟨σ.length + i, 0, none⟩ n = some ⟨cells, e', true⟩ := rowAt_mk (by rw [hget]; exact hl) rfl (by simp [g2]) g3
        simp only [aAppend, hx, hrow]
        rw [if_neg, if_neg]
        · rintro ⟨_, h1, _⟩
          omega
        · rintro ⟨_, _, _, h1, h2, h3⟩
          exact hc ⟨h1, h2, h3⟩
/-- To a slice that is nil. -/
def appNil (σ : Heap) (e bytes : Nat) : Option (List Value × Nat) → Option (Value × Heap)
  | some (new, k) => if k * bytes ≤ 17592186044416 ∧ k ≤ 17592186044416 ∧ new.all cellOk = true ∧ 1 ≤ e then (if k = 0 then some (.slice none 0 0, σ) else some (.slice (some ⟨σ.length, 0, none⟩) k k, σ ++ [⟨new, e, true⟩])) else none
  | none => none
theorem appNil_some (σ : Heap) (e bytes k : Nat) (new : List Value) : appNil σ e bytes (some (new, k)) = if k * bytes ≤ 17592186044416 ∧ k ≤ 17592186044416 ∧ new.all cellOk = true ∧ 1 ≤ e then (if k = 0 then some (.slice none 0 0, σ) else some (.slice (some ⟨σ.length, 0, none⟩) k k, σ ++ [⟨new, e, true⟩])) else none := rfl
theorem appendN {σ : Heap} {e bytes : Nat} {x : Value} : aAppend σ e bytes (.slice none 0 0) x = appNil σ e bytes (appCells σ e x) := by
  cases hx : appCells σ e x with
  | none => simp only [aAppend, hx, appNil]
  | some p =>
    obtain ⟨new, k⟩ := p
    rw [appNil_some]
    simp only [aAppend, hx]
    by_cases hc : k * bytes ≤ 17592186044416 ∧ k ≤ 17592186044416 ∧ new.all cellOk = true ∧ 1 ≤ e
    · rw [if_pos hc, if_pos ⟨trivial, trivial, hc.2.2.2, hc.1, hc.2.1, hc.2.2.1⟩]; rfl
    · rw [if_neg hc, if_neg]
      rintro ⟨_, _, h1, h2, h3, h4⟩
      exact hc ⟨h2, h3, h4, h1⟩
theorem appCellsR {σ l : Heap} {e n : Nat} {v : Value} {cs : List Value} (h : Row σ e v n cs) : appCells (σ ++ l) e v = some (cs, n) := (h.ext l).app
def cellsAt (l : Heap) (i : Nat) : List Value := match l[i]? with | some obj => obj.cells | none => []
theorem appCellsO {σ l : Heap} {e i n : Nat} (hr : isRow l[i]? e (n * e)) : appCells (σ ++ l) e (.slice (some ⟨σ.length + i, 0, none⟩) n n) = some (cellsAt l i, n) := by
  cases hl : l[i]? with
  | none => rw [hl] at hr; exact hr.elim
  | some obj =>
    obtain ⟨cells, e', r⟩ := obj
    rw [hl] at hr
    obtain ⟨g1, g2, g3⟩ := hr
    dsimp only at g1 g2
    subst g1
    have := (Row.own (σ := σ) hl g3 g2).app
    rw [this]
    unfold cellsAt
    rw [hl]
theorem appCellsN (σ : Heap) (e : Nat) : appCells σ e (.slice none 0 0) = some ([], 0) := by simp [appCells, sliceCells]
theorem appCellsS (σ : Heap) (l : List UInt8) : appCells σ 1 (.string (str l)) = some (b8s l, l.length) := rfl
theorem ite_opt {α : Type} {c : Prop} [Decidable c] {a b : Option α} (h : c) : (if c then a else b) = a := if_pos h

theorem buildL_app {σ l : Heap} {e len : Nat} (parts : List (Nat × Nat × Value)) (zero : List Value) : aBuildSlice (σ ++ l) e len zero parts = if zero.all constOk = true ∧ zero.length = len * e ∧ e ≠ 0 then (fillS zero parts).map fun cs => (.slice (some ⟨σ.length + l.length, 0, none⟩) len len, σ ++ (l ++ [⟨cs, e, true⟩])) else none := by
  unfold aBuildSlice
  by_cases hc : zero.all constOk = true ∧ zero.length = len * e ∧ e ≠ 0
  · rw [if_pos hc]
    have : (zero.all constOk && Nat.beq zero.length (len * e) && !(Nat.beq e 0)) = true := by simp [nat_beq, hc]
    rw [if_pos this]
    simp [newRow]
  · rw [if_neg hc]
    have : ¬ (zero.all constOk && Nat.beq zero.length (len * e) && !(Nat.beq e 0)) = true := by
      intro h; apply hc; simpa [nat_beq, and_assoc] using h
    rw [if_neg this]

/-! Bytes and texts. -/
theorem conv_toBytes {σ l : Heap} {bs : List UInt8} (h : bs.length ≤ 70368744177664) : aConv (σ ++ l) .toBytes (.string (str bs)) = some (.slice (some ⟨σ.length + l.length, 0, none⟩) bs.length bs.length, σ ++ (l ++ [⟨b8s bs, 1, true⟩])) := by
  have hs : (str bs).size ≤ 2 ^ 46 := by rw [str_size]; omega
  simp only [aConv]
  rw [if_pos hs]
  simp [newRow, str_data, b8s, str_size]
def bytesAt (l : Heap) (i : Nat) : Option (List UInt8) := match l[i]? with | some obj => bytesOfCells obj.cells | none => none
theorem conv_toStrO {σ l : Heap} {i n : Nat} (hr : isRow l[i]? 1 n) : aConv (σ ++ l) .toStr (.slice (some ⟨σ.length + i, 0, none⟩) n n) = (bytesAt l i).map fun bs => (.string (str bs), σ ++ l) := by
  cases hl : l[i]? with
  | none => rw [hl] at hr; exact hr.elim
  | some obj =>
    obtain ⟨cells, e', r⟩ := obj
    rw [hl] at hr
    obtain ⟨g1, g2, g3⟩ := hr
    dsimp only at g1 g2
    subst g1
    have := (Row.own (σ := σ) (n := n) hl g3 (by omega)).cells
    simp only [aConv, this, Option.bind_some, bytesAt, hl]
    rfl
theorem conv_toStrR {σ l : Heap} {n : Nat} {v : Value} {bs : List UInt8} (h : Row σ 1 v n (b8s bs)) : aConv (σ ++ l) .toStr v = some (.string (str bs), σ ++ l) := by
  have hc := (h.ext l).cells
  have hl := (h.ext l).len
  have hb := bytesOf_b8s bs
  unfold Row at h
  split at h
  · obtain ⟨rfl, rfl, hb0⟩ := h
    rename_i n' cap
    cases bs with
    | nil => simp only [aConv, hc, Option.bind_some, b8s, List.map_nil, bytesOfCells]; rfl
    | cons b bs => simp [b8s] at hb0
  · rename_i a n' cap
    obtain ⟨rfl, _⟩ := h
    simp only [aConv, hc, Option.bind_some, hb]; rfl
  · exact h.elim

theorem i64s_length (l : List Int) : (i64s l).length = l.length := List.length_map _
theorem i64s_append (a b : List Int) : i64s a ++ i64s b = i64s (a ++ b) := by simp [i64s]
theorem i64s_ok (l : List Int) : (i64s l).all cellOk = true := by simp [i64s, cellOk]
theorem i64s_get {l : List Int} {i : Nat} (h : i < l.length) : (i64s l)[i]? = some (.int .i64 (l.getD i 0)) := by
  unfold i64s
  rw [List.getElem?_map, List.getElem?_eq_getElem h, List.getD_eq_getElem?_getD, List.getElem?_eq_getElem h]; rfl
theorem bools_length (l : List Bool) : (bools l).length = l.length := List.length_map _
theorem bools_append (a b : List Bool) : bools a ++ bools b = bools (a ++ b) := by simp [bools]
theorem bools_ok (l : List Bool) : (bools l).all cellOk = true := by simp [bools, cellOk]
theorem bools_get {l : List Bool} {i : Nat} (h : i < l.length) : (bools l)[i]? = some (.bool (l.getD i false)) := by
  unfold bools
  rw [List.getElem?_map, List.getElem?_eq_getElem h, List.getD_eq_getElem?_getD, List.getElem?_eq_getElem h]; rfl
theorem i64s_cat (l : List Int) (x : Int) : i64s l ++ [Value.int .i64 x] = i64s (l ++ [x]) := by simp [i64s]
theorem f32s_cat (l : List Nat) (x : Nat) : f32s l ++ [Value.float .f32 x] = f32s (l ++ [x]) := by simp [f32s]
theorem b8s_cat (l : List UInt8) (x : UInt8) : b8s l ++ [Value.int .u8 (x.toNat : Int)] = b8s (l ++ [x]) := by simp [b8s]
theorem bools_cat (l : List Bool) (x : Bool) : bools l ++ [Value.bool x] = bools (l ++ [x]) := by simp [bools]

attribute [push_cast] beq_self_eq_true mk_str str_size bin_streq bin_strne bin_strcat index_str convP_u8 slice_str slice_strL slice_strR len_strl isOwn_some appRow appTo_some appendO appNil_some appendN appCellsR cellsAt appCellsO appCellsN appCellsS ite_opt buildL_app conv_toBytes bytesAt conv_toStrO conv_toStrR bytesOf_b8s b8s_length b8s_append b8s_ok b8s_get i64s_length i64s_append i64s_ok i64s_get bools_length bools_append bools_ok bools_get i64s_cat f32s_cat b8s_cat bools_cat f32s_ok
end Go.Abs

