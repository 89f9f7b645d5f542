/- The abstract machine: rules by which the walk finds its way by itself. No condition beyond those written. -/
import Derived.Test.YtdlicidmkakooaaExactTravelFieldWvMF
namespace Go.Abs
set_option linter.unusedVariables false
set_option linter.unusedSimpArgs false

/-! ### Rows and variables as conditional rewriting rules -/
section
variable {σ : Heap} {e n : Nat} {v : Value} {cs : List Value}
theorem Row.idxR {l : Heap} {k : IntKind} {j : Int} (h : Row σ e v n cs) (h0 : 0 ≤ j) (h1 : j < n) : aIndexAddrS (σ ++ l) e v (.int k j) = some (elemP e v j.toNat) := (h.ext l).idx k h0 h1
theorem Row.loadR {l : Heap} {i : Nat} {xs : List Nat} (h : Row σ 1 v n (f32s xs)) (h1 : i < n) : aLoad1 (σ ++ l) (elemP 1 v i) = some (.float .f32 (xs.getD i 0)) := (h.ext l).loadF h1
theorem Row.loadRI {l : Heap} {i : Nat} {xs : List Int} (h : Row σ 1 v n (i64s xs)) (h1 : i < n) : aLoad1 (σ ++ l) (elemP 1 v i) = some (.int .i64 (xs.getD i 0)) := (h.ext l).loadI h1
theorem Row.loadRB {l : Heap} {i : Nat} {xs : List Bool} (h : Row σ 1 v n (bools xs)) (h1 : i < n) : aLoad1 (σ ++ l) (elemP 1 v i) = some (.bool (xs.getD i false)) := (h.ext l).loadB h1
theorem Row.okR (h : Row σ e v n cs) : cellOk v = true := h.ok
theorem Row.oneR (h : Row σ e v n cs) : v.cells = #[v] := cells_ok h.ok
theorem Row.lenR (h : Row σ e v n cs) : aLen false v = some (.int .i64 n) := h.len
theorem cells_okR (h : cellOk v = true) : v.cells = #[v] := cells_ok h
end

theorem PtAt.load1R {σ : Heap} {b o k : Nat} {cs : List Value} {l : Heap} (h : PtAt σ b o cs) (hk : k < cs.length) : aLoad1 (σ ++ l) (.pointer (some ⟨b, o + k, none⟩)) = cs[k]? := h.load l k hk
theorem PtAt.loadNR {σ : Heap} {b o n : Nat} {cs : List Value} {l : Heap} (h : PtAt σ b o cs) (hk : cs.length = n) (hn : 0 < n) : aLoadN (σ ++ l) n (.pointer (some ⟨b, o, none⟩)) = some (.agg cs.toArray) := by
  subst hk; exact h.loadN l (by intro hc; subst hc; simp at hn)

/-! Own rows. -/
def isRow (o : Option AObj) (e n : Nat) : Prop := match o with | some obj => obj.esz = e ∧ obj.cells.length = n ∧ e ≠ 0 | none => False
theorem isRow_some (cells : List Value) (e e' n : Nat) (r : Bool) : isRow (some ⟨cells, e, r⟩) e' n = (e = e' ∧ cells.length = n ∧ e' ≠ 0) := rfl

section
variable {σ l : Heap}
theorem idxO {e i off len cap : Nat} {k : IntKind} {j : Int} (hr : isRow l[i]? e (off + cap * e)) (h0 : 0 ≤ j) (h1 : j < len) (h2 : len ≤ cap) :
    aIndexAddrS (σ ++ l) e (.slice (some ⟨σ.length + i, off, none⟩) len cap) (.int k j) = some (.pointer (some ⟨σ.length + i, off + j.toNat * e, some (off + cap * e)⟩)) := by
  cases hl : l[i]? with
  | none => rw [hl] at hr; exact hr.elim
  | some obj =>
    obtain ⟨cells, e', r⟩ := obj
    rw [hl] at hr
    obtain ⟨g1, g2, g3⟩ := hr
    dsimp only at g1 g2
    subst g1
    exact idx_app σ l _ i off len cap k j hl g2 g3 h0 h1 h2
theorem load1O {i off c e : Nat} (hr : isRow l[i]? e c) : aLoad1 (σ ++ l) (.pointer (some ⟨σ.length + i, off, some c⟩)) = (l[i]?).bind fun o => o.cells[off]? := by
  cases hl : l[i]? with
  | none => rw [hl] at hr; exact hr.elim
  | some obj =>
    obtain ⟨cells, e', r⟩ := obj
    rw [hl] at hr
    obtain ⟨g1, g2, g3⟩ := hr
    dsimp only at g1 g2
    subst g1
    rw [load1_elem σ l i off c hl g2 g3]; rfl
def setRow (l : Heap) (i off : Nat) (v : Value) : Option Heap := match l[i]? with | some ⟨cells, e, true⟩ => some (l.set i ⟨cells.set off v, e, true⟩) | _ => none
theorem store1O {i off c e : Nat} {v : Value} (hr : isRow l[i]? e c) (ho : off < c) (hv : cellOk v = true) :
    aStore (σ ++ l) 1 (.pointer (some ⟨σ.length + i, off, some c⟩)) v = (setRow l i off v).map (σ ++ ·) := by
  cases hl : l[i]? with
  | none => rw [hl] at hr; exact hr.elim
  | some obj =>
    obtain ⟨cells, e', r⟩ := obj
    rw [hl] at hr
    obtain ⟨g1, g2, g3⟩ := hr
    dsimp only at g1 g2
    subst g1
    unfold setRow
    rw [hl]
    cases r with
    | true =>
      have := store1_elem σ l i off c v hl g2 g3 ho hv
      rw [this]; rfl
    | false =>
      have hg : (σ ++ l)[σ.length + i]? = some ⟨cells, e', false⟩ := by rw [hget]; exact hl
      simp only [aStore, hg]
      simp
end

/-- A row of an object of the known part. -/
theorem Row.own {σ l : Heap} {i e n : Nat} {cs : List Value} {r : Bool} (h : l[i]? = some ⟨cs, e, r⟩) (he : e ≠ 0) (hn : cs.length = n * e) : Row (σ ++ l) e (.slice (some ⟨σ.length + i, 0, none⟩) n n) n cs := Row.whole (by rw [hget]; exact h) he hn
theorem Row.ownF {σ l : Heap} {i n : Nat} {xs : List Nat} {r : Bool} (h : l[i]? = some ⟨f32s xs, 1, r⟩) (hn : xs.length = n) : Row (σ ++ l) 1 (.slice (some ⟨σ.length + i, 0, none⟩) n n) xs.length (f32s xs) := by
  subst hn; exact Row.own h (by omega) (by rw [f32s_length]; omega)
theorem Row.nilF {σ : Heap} : Row σ 1 (.slice none 0 0) ([] : List Nat).length (f32s []) := ⟨rfl, rfl, rfl⟩
theorem PtAt.own {σ l : Heap} {i : Nat} {cs : List Value} {r : Bool} (h : l[i]? = some ⟨cs, 0, r⟩) : PtAt (σ ++ l) (σ.length + i) 0 cs := PtAt.whole (by rw [hget]; exact h)

/-! Objects behind a rest that is not told. -/
theorem get_end0 {α : Type} (r l : List α) (x : α) : (r ++ x :: l)[r.length]? = some x := by simp
theorem get_end {α : Type} (r l : List α) (i : Nat) : (r ++ l)[r.length + i]? = l[i]? := by
  rw [List.getElem?_append_right (by omega)]; congr 1; omega
theorem set_end0 {α : Type} (r l : List α) (x y : α) : (r ++ x :: l).set r.length y = r ++ y :: l := by
  rw [List.set_append_right _ _ (by omega)]; simp
theorem set_end {α : Type} (r l : List α) (i : Nat) (y : α) : (r ++ l).set (r.length + i) y = r ++ l.set i y := by
  rw [List.set_append_right _ _ (by omega)]; congr 2; omega

theorem cond_t {α : Type} (a b : α) : (bif true then a else b) = a := rfl
theorem cond_f {α : Type} (a b : α) : (bif false then a else b) = b := rfl

section
variable {C : Ctab} {F : Frame} {σ : Heap}

theorem EvR.met {Q} {d : Option Nat} {op : SOp} {n t : Nat} {want b : Bool} {rest : List SOper} (hg : fget F t = .bool b) (hb : (b == want) = true) (h : EvR C (⟨d, none, op, n⟩ :: rest) F σ Q) : EvR C (⟨d, some (t, want), op, n⟩ :: rest) F σ Q := by
  unfold EvR at h ⊢
  obtain ⟨F', σ', h1, h2⟩ := h
  refine ⟨F', σ', ?_, h2⟩
  rw [← h1]
  simp only [evOps, guardOf, hg, hb]
end

/-! How the ends of codes are looked at. -/
def thenQ (K : Frame → Heap → Prop) (Q : Out → Frame → Heap → Prop) : Out → Frame → Heap → Prop := fun o F σ => match o with | .normal => K F σ | o => Q o F σ
def blkQ (id : Nat) (Q : Out → Frame → Heap → Prop) : Out → Frame → Heap → Prop := fun o F σ => match o with | .exit id' => if id' = id then Q .normal F σ else Q (.exit id') F σ | o => Q o F σ
section
variable {C : Ctab} {F : Frame} {σ : Heap} {K : Frame → Heap → Prop} {Q : Out → Frame → Heap → Prop}
theorem Ev.sq {a b : SCode} (h : Ev C a F σ (thenQ (fun F' σ' => Ev C b F' σ' Q) Q)) : Ev C (.seq a b) F σ Q := Ev.seq h
theorem Ev.bk {id : Nat} {a : SCode} (h : Ev C a F σ (blkQ id Q)) : Ev C (.block id a) F σ Q := Ev.block h
theorem Ev.rg {ops : List SOper} (h : EvR C ops F σ fun F' σ' => Q .normal F' σ') : Ev C (.region ops false) F σ Q := Ev.region h
theorem thenQ.n (h : K F σ) : thenQ K Q .normal F σ := h
theorem thenQ.e {i : Nat} (h : Q (.exit i) F σ) : thenQ K Q (.exit i) F σ := h
theorem thenQ.r (h : Q .ret F σ) : thenQ K Q .ret F σ := h
theorem blkQ.n {id : Nat} (h : Q .normal F σ) : blkQ id Q .normal F σ := h
theorem blkQ.r {id : Nat} (h : Q .ret F σ) : blkQ id Q .ret F σ := h
theorem blkQ.e {id : Nat} (h : Q .normal F σ) : blkQ id Q (.exit id) F σ := by unfold blkQ; simp only [if_true]; exact h
theorem blkQ.x {id i : Nat} (h : Q (.exit i) F σ) (hn : Nat.beq i id = false) : blkQ id Q (.exit i) F σ := by
  unfold blkQ
  have : i ≠ id := by intro hc; subst hc; simp at hn
  simp only [this, if_false]; exact h
theorem EvR.nl {Q : Frame → Heap → Prop} (h : Q F σ) : EvR C [] F σ Q := EvR.nil h
end

/-! Steps that do not look at the heap. -/
def aConvP (c : ConvK) (x : Value) : Option Value :=
  match c, x with
  | .toInt k, .int _ n => some (.int k (k.wrap n))
  | .toFloat k, .int _ n => some (.float k (k.nearest n))
  | .toInt k, .float s b => (floatToIntVal s b k).map fun n => .int k n
  | .toFloat k, .float s b => (f2f s b k).map fun r => .float k r
  | .same, .string s => some (.string s)
  | _, _ => none
theorem aConvP_ok {σ : Heap} {c : ConvK} {x v : Value} (h : aConvP c x = some v) : aConv σ c x = some (v, σ) := by
  unfold aConvP at h
  split at h
  · cases h; rfl
  · cases h; rfl
  · rw [Option.map_eq_some_iff] at h
    obtain ⟨n, h1, rfl⟩ := h
    simp only [aConv, h1, Option.map_some]
  · rw [Option.map_eq_some_iff] at h
    obtain ⟨n, h1, rfl⟩ := h
    simp only [aConv, h1, Option.map_some]
  · cases h; rfl
  · cases h
def evP (F : Frame) : SOp → Option Value
  | .mov x => some (eval F x)
  | .pick c a b => aPick (eval F c) (eval F a) (eval F b)
  | .build zero parts => aBuild zero (parts.map fun p => (p.1, p.2.1, eval F p.2.2))
  | .nilCheck x => aNilCheck (eval F x)
  | .bin op ek x y => aBin op ek (eval F x) (eval F y)
  | .un op x => aUn op (eval F x)
  | .conv c x => aConvP c (eval F x)
  | .makeFunc f first captured => some (.func (.func f) (first.map (eval F)).toArray (captured.map (eval F)).toArray)
  | .sliceStr x lo hi => aSliceStr (eval F x) (lo.map (eval F)) (hi.map (eval F))
  | .fieldAddr off x => aFieldAddr off (eval F x)
  | .field1 off x => aField1 off (eval F x)
  | .fieldN off n x => aFieldN off n (eval F x)
  | .indexAddrA len esz x i => aIndexAddrA len esz (eval F x) (eval F i)
  | .indexStr x i => aIndexStr (eval F x) (eval F i)
  | .index1 len x i => aIndex1 len (eval F x) (eval F i)
  | .indexN len esz x i => aIndexN len esz (eval F x) (eval F i)
  | .extract x i => aExtract (eval F x) i
  | .len b x => aLen b (eval F x)
  | .cap x => aCap (eval F x)
  | .minmax mx xs => aMinMax mx (xs.map (eval F))
  | _ => none
theorem evP_ok {C : Ctab} {F : Frame} {σ : Heap} {op : SOp} {v : Value} (h : evP F op = some v) : evOp C F σ op = some (v, σ) := by
  cases op with
  | conv c x => exact aConvP_ok h
  | mov x => simp only [evP] at h; cases h; rfl
  | makeFunc f a b => simp only [evP] at h; cases h; rfl
  | _ => first | (simp only [evP] at h; simp only [evOp, h, Option.map_some]; done) | (simp [evP] at h; done)
/-! Steps that read the heap. -/
def evL (F : Frame) (σ : Heap) : SOp → Option Value
  | .load1 x => aLoad1 σ (eval F x)
  | .loadN n x => aLoadN σ n (eval F x)
  | .sliceSl esz x lo hi => aSliceSl σ esz (eval F x) (lo.map (eval F)) (hi.map (eval F))
  | .indexAddrS esz x i => aIndexAddrS σ esz (eval F x) (eval F i)
  | _ => none
theorem evL_ok {C : Ctab} {F : Frame} {σ : Heap} {op : SOp} {v : Value} (h : evL F σ op = some v) : evOp C F σ op = some (v, σ) := by
  cases op with
  | _ => first | (simp only [evL] at h; simp only [evOp, h, Option.map_some]; done) | (simp [evL] at h; done)
theorem convP_wide (x : Nat) : aConvP (.toFloat .f64) (.float .f32 x) = some (.float .f64 (wide x)) := by simp [aConvP, f2f_wide]
theorem convP_int (k k' : IntKind) (n : Int) : aConvP (.toInt k) (.int k' n) = some (.int k (k.wrap n)) := rfl
theorem convP_nearest (k : FloatKind) (k' : IntKind) (n : Int) : aConvP (.toFloat k) (.int k' n) = some (.float k (k.nearest n)) := rfl
theorem convP_same (s : ByteArray) : aConvP .same (.string s) = some (.string s) := rfl

/-! The single steps; what is to be computed is found by the tactic that stands with it. -/
section
variable {C : Ctab} {F : Frame} {σ : Heap}
theorem EvR.mv {Q} {d n : Nat} {rest : List SOper} {t : Nat} {v : Value} (h : EvR C rest ((d, v) :: F) σ Q) (h1 : eval F (.tmp t) = v := by (conv => lhs; whnf)) : EvR C (⟨some d, none, .mov (.tmp t), n⟩ :: rest) F σ Q := EvR.opS (evP_ok (by simp only [evP, h1])) h
theorem EvR.mvc {Q} {d n : Nat} {rest : List SOper} {c v : Value} (h : EvR C rest ((d, v) :: F) σ Q) (h1 : eval F (.const c) = v := by (conv => lhs; whnf)) : EvR C (⟨some d, none, .mov (.const c), n⟩ :: rest) F σ Q := EvR.opS (evP_ok (by simp only [evP, h1])) h
theorem EvR.pkT {Q} {d n : Nat} {rest : List SOper} {c a b : Operand} {v : Value} (h : EvR C rest ((d, v) :: F) σ Q) (h0 : eval F c = .bool true := by (exact rfl))(h1 : eval F a = v := by (conv => lhs; whnf)) : EvR C (⟨some d, none, .pick c a b, n⟩ :: rest) F σ Q := EvR.opS (evP_ok (by simp only [evP, h0, h1]; rfl)) h
theorem EvR.pkF {Q} {d n : Nat} {rest : List SOper} {c a b : Operand} {v : Value} (h : EvR C rest ((d, v) :: F) σ Q) (h0 : eval F c = .bool false := by (exact rfl))(h1 : eval F b = v := by (conv => lhs; whnf)) : EvR C (⟨some d, none, .pick c a b, n⟩ :: rest) F σ Q := EvR.opS (evP_ok (by simp only [evP, h0, h1]; rfl)) h
theorem EvR.fa {Q} {d n : Nat} {rest : List SOper} {x : Operand} {b o off : Nat} {s : Option Nat} (h : EvR C rest ((d, .pointer (some ⟨b, o + off, s⟩)) :: F) σ Q) (h1 : eval F x = .pointer (some ⟨b, o, s⟩) := by (exact rfl)) : EvR C (⟨some d, none, .fieldAddr off x, n⟩ :: rest) F σ Q := EvR.opS (evP_ok (by simp only [evP, h1]; rfl)) h
theorem EvR.nc {Q} {d n : Nat} {rest : List SOper} {x : Operand} {a : Addr} (h : EvR C rest ((d, .pointer (some a)) :: F) σ Q) (h1 : eval F x = .pointer (some a) := by (exact rfl)) : EvR C (⟨some d, none, .nilCheck x, n⟩ :: rest) F σ Q := EvR.opS (evP_ok (by simp only [evP, h1]; rfl)) h
theorem EvR.ex {Q} {d n : Nat} {rest : List SOper} {x : Operand} {i : Nat} {vs : Array Value} {v : Value} (h : EvR C rest ((d, v) :: F) σ Q) (h1 : eval F x = .tuple vs := by (exact rfl))(h2 : vs.toList[i]? = some v := by (exact rfl)) : EvR C (⟨some d, none, .extract x i, n⟩ :: rest) F σ Q := EvR.opS (evP_ok (by simp only [evP, h1, aExtract, h2])) h
theorem EvR.f1 {Q} {d n : Nat} {rest : List SOper} {x : Operand} {i : Nat} {vs : Array Value} {v : Value} (h : EvR C rest ((d, v) :: F) σ Q) (h1 : eval F x = .agg vs := by (exact rfl))(h2 : vs.toList[i]? = some v := by (exact rfl)) : EvR C (⟨some d, none, .field1 i x, n⟩ :: rest) F σ Q := EvR.opS (evP_ok (by simp only [evP, h1, aField1, h2])) h
theorem EvR.nt {Q} {d n : Nat} {rest : List SOper} {x : Operand} {b : Bool} (h : EvR C rest ((d, .bool (!b)) :: F) σ Q) (h1 : eval F x = .bool b := by (exact rfl)) : EvR C (⟨some d, none, .un .not x, n⟩ :: rest) F σ Q := EvR.opS (evP_ok (by simp only [evP, h1]; rfl)) h
theorem EvR.lt {Q} {d n : Nat} {rest : List SOper} {x y : Operand} {k : IntKind} {a b : Int} {ek : EqK} (h : EvR C rest ((d, .bool (decide (a < b))) :: F) σ Q) (h1 : eval F x = .int k a := by (exact rfl))(h2 : eval F y = .int k b := by (exact rfl)) : EvR C (⟨some d, none, .bin .lss ek x y, n⟩ :: rest) F σ Q := EvR.opS (evP_ok (by simp only [evP, h1, h2, bin_lss, bin_leq, bin_gtr, bin_geq, bin_eql])) h
theorem EvR.le_ {Q} {d n : Nat} {rest : List SOper} {x y : Operand} {k : IntKind} {a b : Int} {ek : EqK} (h : EvR C rest ((d, .bool (decide (a ≤ b))) :: F) σ Q) (h1 : eval F x = .int k a := by (exact rfl))(h2 : eval F y = .int k b := by (exact rfl)) : EvR C (⟨some d, none, .bin .leq ek x y, n⟩ :: rest) F σ Q := EvR.opS (evP_ok (by simp only [evP, h1, h2, bin_lss, bin_leq, bin_gtr, bin_geq, bin_eql])) h
theorem EvR.gt {Q} {d n : Nat} {rest : List SOper} {x y : Operand} {k : IntKind} {a b : Int} {ek : EqK} (h : EvR C rest ((d, .bool (decide (b < a))) :: F) σ Q) (h1 : eval F x = .int k a := by (exact rfl))(h2 : eval F y = .int k b := by (exact rfl)) : EvR C (⟨some d, none, .bin .gtr ek x y, n⟩ :: rest) F σ Q := EvR.opS (evP_ok (by simp only [evP, h1, h2, bin_lss, bin_leq, bin_gtr, bin_geq, bin_eql])) h
theorem EvR.ge {Q} {d n : Nat} {rest : List SOper} {x y : Operand} {k : IntKind} {a b : Int} {ek : EqK} (h : EvR C rest ((d, .bool (decide (b ≤ a))) :: F) σ Q) (h1 : eval F x = .int k a := by (exact rfl))(h2 : eval F y = .int k b := by (exact rfl)) : EvR C (⟨some d, none, .bin .geq ek x y, n⟩ :: rest) F σ Q := EvR.opS (evP_ok (by simp only [evP, h1, h2, bin_lss, bin_leq, bin_gtr, bin_geq, bin_eql])) h
theorem EvR.eqi {Q} {d n : Nat} {rest : List SOper} {x y : Operand} {k : IntKind} {a b : Int} {ek : EqK} (h : EvR C rest ((d, .bool (decide (a = b))) :: F) σ Q) (h1 : eval F x = .int k a := by (exact rfl))(h2 : eval F y = .int k b := by (exact rfl)) : EvR C (⟨some d, none, .bin .eql ek x y, n⟩ :: rest) F σ Q := EvR.opS (evP_ok (by simp only [evP, h1, h2, bin_lss, bin_leq, bin_gtr, bin_geq, bin_eql])) h
theorem EvR.nei {Q} {d n : Nat} {rest : List SOper} {x y : Operand} {k : IntKind} {a b : Int} {ek : EqK} (h : EvR C rest ((d, .bool (!decide (a = b))) :: F) σ Q) (h1 : eval F x = .int k a := by (exact rfl))(h2 : eval F y = .int k b := by (exact rfl)) : EvR C (⟨some d, none, .bin .neq ek x y, n⟩ :: rest) F σ Q := EvR.opS (evP_ok (by simp only [evP, h1, h2, bin_neq])) h
theorem EvR.add {Q} {d n : Nat} {rest : List SOper} {x y : Operand} {a b c : Int} {ek : EqK} (h : EvR C rest ((d, .int .i64 c) :: F) σ Q) (h1 : eval F x = .int .i64 a := by (exact rfl))(h2 : eval F y = .int .i64 b := by (exact rfl))(h3 : a + b = c := by (first | ((simp only [Int.reduceAdd, Int.reduceSub, Int.reduceMul, Int.reduceNeg, Int.toNat_natCast, Int.reduceToNat, Int.toNat_zero, Int.sub_zero, Int.zero_add, Int.add_zero, Nat.zero_add, Nat.mul_one, Nat.add_zero, Int.zero_sub, Nat.reduceMul, Nat.reduceAdd]) <;> with_reducible rfl) | with_reducible rfl))(h4 : -9223372036854775808 ≤ c := by omega)(h5 : c < 9223372036854775808 := by omega) : EvR C (⟨some d, none, .bin .add ek x y, n⟩ :: rest) F σ Q := EvR.opS (evP_ok (by simp only [evP, h1, h2, bin_add, h3, wrap64 h4 h5])) h
theorem EvR.sub {Q} {d n : Nat} {rest : List SOper} {x y : Operand} {a b c : Int} {ek : EqK} (h : EvR C rest ((d, .int .i64 c) :: F) σ Q) (h1 : eval F x = .int .i64 a := by (exact rfl))(h2 : eval F y = .int .i64 b := by (exact rfl))(h3 : a - b = c := by (first | ((simp only [Int.reduceAdd, Int.reduceSub, Int.reduceMul, Int.reduceNeg, Int.toNat_natCast, Int.reduceToNat, Int.toNat_zero, Int.sub_zero, Int.zero_add, Int.add_zero, Nat.zero_add, Nat.mul_one, Nat.add_zero, Int.zero_sub, Nat.reduceMul, Nat.reduceAdd]) <;> with_reducible rfl) | with_reducible rfl))(h4 : -9223372036854775808 ≤ c := by omega)(h5 : c < 9223372036854775808 := by omega) : EvR C (⟨some d, none, .bin .sub ek x y, n⟩ :: rest) F σ Q := EvR.opS (evP_ok (by simp only [evP, h1, h2, bin_sub, h3, wrap64 h4 h5])) h
theorem EvR.mul {Q} {d n : Nat} {rest : List SOper} {x y : Operand} {a b c : Int} {ek : EqK} (h : EvR C rest ((d, .int .i64 c) :: F) σ Q) (h1 : eval F x = .int .i64 a := by (exact rfl))(h2 : eval F y = .int .i64 b := by (exact rfl))(h3 : a * b = c := by (first | ((simp only [Int.reduceAdd, Int.reduceSub, Int.reduceMul, Int.reduceNeg, Int.toNat_natCast, Int.reduceToNat, Int.toNat_zero, Int.sub_zero, Int.zero_add, Int.add_zero, Nat.zero_add, Nat.mul_one, Nat.add_zero, Int.zero_sub, Nat.reduceMul, Nat.reduceAdd]) <;> with_reducible rfl) | with_reducible rfl))(h4 : -9223372036854775808 ≤ c := by omega)(h5 : c < 9223372036854775808 := by omega) : EvR C (⟨some d, none, .bin .mul ek x y, n⟩ :: rest) F σ Q := EvR.opS (evP_ok (by simp only [evP, h1, h2, bin_mul, h3, wrap64 h4 h5])) h
theorem EvR.rem {Q} {d n : Nat} {rest : List SOper} {x y : Operand} {a b : Int} {ek : EqK} (h : EvR C rest ((d, .int .i64 (a % b)) :: F) σ Q) (h1 : eval F x = .int .i64 a := by (exact rfl))(h2 : eval F y = .int .i64 b := by (exact rfl))(h3 : b ≠ 0 := by omega)(h4 : 0 ≤ a := by omega) : EvR C (⟨some d, none, .bin .rem ek x y, n⟩ :: rest) F σ Q := EvR.opS (evP_ok (by simp only [evP, h1, h2, bin_rem ek .i64 a b h3, Int.tmod_eq_emod_of_nonneg h4])) h
theorem EvR.quo {Q} {d n : Nat} {rest : List SOper} {x y : Operand} {a b : Int} {ek : EqK} (h : EvR C rest ((d, .int .i64 (a / b)) :: F) σ Q) (h1 : eval F x = .int .i64 a := by (exact rfl))(h2 : eval F y = .int .i64 b := by (exact rfl))(h3 : 0 < b := by omega)(h4 : 0 ≤ a := by omega)(h5 : a < 9223372036854775808 := by omega) : EvR C (⟨some d, none, .bin .quo ek x y, n⟩ :: rest) F σ Q := EvR.opS (evP_ok (by rw [evP, h1, h2, bin_quo ek .i64 a b (by omega), Int.tdiv_eq_ediv_of_nonneg h4, wrap64 (by have := Int.ediv_nonneg h4 (Int.le_of_lt h3); omega) (by have := Int.ediv_le_self b h4; omega)])) h
theorem EvR.fadd {Q} {d n : Nat} {rest : List SOper} {x y : Operand} {k : FloatKind} {a b : Nat} {ek : EqK} (h : EvR C rest ((d, .float k (fbin .add k a b)) :: F) σ Q) (h1 : eval F x = .float k a := by (exact rfl))(h2 : eval F y = .float k b := by (exact rfl)) : EvR C (⟨some d, none, .bin .add ek x y, n⟩ :: rest) F σ Q := EvR.opS (evP_ok (by simp only [evP, h1, h2, bin_fadd])) h
theorem EvR.fsub {Q} {d n : Nat} {rest : List SOper} {x y : Operand} {k : FloatKind} {a b : Nat} {ek : EqK} (h : EvR C rest ((d, .float k (fbin .sub k a b)) :: F) σ Q) (h1 : eval F x = .float k a := by (exact rfl))(h2 : eval F y = .float k b := by (exact rfl)) : EvR C (⟨some d, none, .bin .sub ek x y, n⟩ :: rest) F σ Q := EvR.opS (evP_ok (by simp only [evP, h1, h2, bin_fsub])) h
theorem EvR.fmul {Q} {d n : Nat} {rest : List SOper} {x y : Operand} {k : FloatKind} {a b : Nat} {ek : EqK} (h : EvR C rest ((d, .float k (fbin .mul k a b)) :: F) σ Q) (h1 : eval F x = .float k a := by (exact rfl))(h2 : eval F y = .float k b := by (exact rfl)) : EvR C (⟨some d, none, .bin .mul ek x y, n⟩ :: rest) F σ Q := EvR.opS (evP_ok (by simp only [evP, h1, h2, bin_fmul])) h
theorem EvR.fquo {Q} {d n : Nat} {rest : List SOper} {x y : Operand} {k : FloatKind} {a b : Nat} {ek : EqK} (h : EvR C rest ((d, .float k (fbin .quo k a b)) :: F) σ Q) (h1 : eval F x = .float k a := by (exact rfl))(h2 : eval F y = .float k b := by (exact rfl)) : EvR C (⟨some d, none, .bin .quo ek x y, n⟩ :: rest) F σ Q := EvR.opS (evP_ok (by simp only [evP, h1, h2, bin_fquo])) h
theorem EvR.flt_ {Q} {d n : Nat} {rest : List SOper} {x y : Operand} {k : FloatKind} {a b : Nat} {ek : EqK} (h : EvR C rest ((d, .bool (flt k a b)) :: F) σ Q) (h1 : eval F x = .float k a := by (exact rfl))(h2 : eval F y = .float k b := by (exact rfl)) : EvR C (⟨some d, none, .bin .lss ek x y, n⟩ :: rest) F σ Q := EvR.opS (evP_ok (by simp only [evP, h1, h2, bin_flt])) h
theorem EvR.fle_ {Q} {d n : Nat} {rest : List SOper} {x y : Operand} {k : FloatKind} {a b : Nat} {ek : EqK} (h : EvR C rest ((d, .bool (fle k a b)) :: F) σ Q) (h1 : eval F x = .float k a := by (exact rfl))(h2 : eval F y = .float k b := by (exact rfl)) : EvR C (⟨some d, none, .bin .leq ek x y, n⟩ :: rest) F σ Q := EvR.opS (evP_ok (by simp only [evP, h1, h2, bin_fle])) h
theorem EvR.fgt_ {Q} {d n : Nat} {rest : List SOper} {x y : Operand} {k : FloatKind} {a b : Nat} {ek : EqK} (h : EvR C rest ((d, .bool (fgt k a b)) :: F) σ Q) (h1 : eval F x = .float k a := by (exact rfl))(h2 : eval F y = .float k b := by (exact rfl)) : EvR C (⟨some d, none, .bin .gtr ek x y, n⟩ :: rest) F σ Q := EvR.opS (evP_ok (by simp only [evP, h1, h2, bin_fgt])) h
theorem EvR.fge_ {Q} {d n : Nat} {rest : List SOper} {x y : Operand} {k : FloatKind} {a b : Nat} {ek : EqK} (h : EvR C rest ((d, .bool (fge k a b)) :: F) σ Q) (h1 : eval F x = .float k a := by (exact rfl))(h2 : eval F y = .float k b := by (exact rfl)) : EvR C (⟨some d, none, .bin .geq ek x y, n⟩ :: rest) F σ Q := EvR.opS (evP_ok (by simp only [evP, h1, h2, bin_fge])) h
theorem EvR.feq_ {Q} {d n : Nat} {rest : List SOper} {x y : Operand} {k : FloatKind} {a b : Nat} {ek : EqK} (h : EvR C rest ((d, .bool (feq k a b)) :: F) σ Q) (h1 : eval F x = .float k a := by (exact rfl))(h2 : eval F y = .float k b := by (exact rfl)) : EvR C (⟨some d, none, .bin .eql ek x y, n⟩ :: rest) F σ Q := EvR.opS (evP_ok (by simp only [evP, h1, h2, bin_feq])) h
theorem EvR.fne_ {Q} {d n : Nat} {rest : List SOper} {x y : Operand} {k : FloatKind} {a b : Nat} {ek : EqK} (h : EvR C rest ((d, .bool (!feq k a b)) :: F) σ Q) (h1 : eval F x = .float k a := by (exact rfl))(h2 : eval F y = .float k b := by (exact rfl)) : EvR C (⟨some d, none, .bin .neq ek x y, n⟩ :: rest) F σ Q := EvR.opS (evP_ok (by simp only [evP, h1, h2, bin_fne])) h
theorem EvR.lns {Q} {d n : Nat} {rest : List SOper} {x : Operand} {a : Option Addr} {m c : Nat} (h : EvR C rest ((d, .int .i64 m) :: F) σ Q) (h1 : eval F x = .slice a m c := by (exact rfl)) : EvR C (⟨some d, none, .len false x, n⟩ :: rest) F σ Q := EvR.opS (evP_ok (by simp only [evP, h1, len_sl])) h
theorem EvR.lnr {Q} {d n : Nat} {rest : List SOper} {x : Operand} {τ : Heap} {e m : Nat} {v : Value} {cs : List Value} (h : EvR C rest ((d, .int .i64 m) :: F) σ Q) (h1 : eval F x = v := by (conv => lhs; whnf))(h2 : Row τ e v m cs := by assumption) : EvR C (⟨some d, none, .len false x, n⟩ :: rest) F σ Q := EvR.opS (evP_ok (by simp only [evP, h1, h2.len])) h
theorem EvR.cv {Q} {d n : Nat} {rest : List SOper} {x : Operand} {m : Int} (h : EvR C rest ((d, .int .i64 m) :: F) σ Q) (h1 : eval F x = .int .i64 m := by (exact rfl))(h4 : -9223372036854775808 ≤ m := by omega)(h5 : m < 9223372036854775808 := by omega) : EvR C (⟨some d, none, .conv (.toInt .i64) x, n⟩ :: rest) F σ Q := EvR.opS (evP_ok (by simp only [evP, h1, aConvP, wrap64 h4 h5])) h
theorem EvR.cvu {Q} {d n : Nat} {rest : List SOper} {x : Operand} {m : Nat} (h : EvR C rest ((d, .int .i64 m) :: F) σ Q) (h1 : eval F x = .int .u8 m := by (exact rfl))(h5 : m < 9223372036854775808 := by first | omega | exact Nat.lt_trans (UInt8.toNat_lt _) (by decide)) : EvR C (⟨some d, none, .conv (.toInt .i64) x, n⟩ :: rest) F σ Q := EvR.opS (evP_ok (by simp only [evP, h1, aConvP, wrap64 (show -9223372036854775808 ≤ (m : Int) by omega) (show (m : Int) < 9223372036854775808 by omega)])) h
theorem EvR.cvf {Q} {d n : Nat} {rest : List SOper} {x : Operand} {k : FloatKind} {k1 : IntKind} {m : Int} (h : EvR C rest ((d, .float k (k.nearest m)) :: F) σ Q) (h1 : eval F x = .int k1 m := by (exact rfl)) : EvR C (⟨some d, none, .conv (.toFloat k) x, n⟩ :: rest) F σ Q := EvR.opS (evP_ok (by simp only [evP, h1, convP_nearest])) h
theorem EvR.cvw {Q} {d n : Nat} {rest : List SOper} {x : Operand} {m : Nat} (h : EvR C rest ((d, .float .f64 (wide m)) :: F) σ Q) (h1 : eval F x = .float .f32 m := by (exact rfl)) : EvR C (⟨some d, none, .conv (.toFloat .f64) x, n⟩ :: rest) F σ Q := EvR.opS (evP_ok (by simp only [evP, h1, convP_wide])) h
theorem EvR.l1 {Q} {d n : Nat} {rest : List SOper} {l : Heap} {x : Operand} {i off : Nat} {cells : List Value} {r : Bool} {v : Value} (h : EvR C rest ((d, v) :: F) (σ ++ l) Q) (h1 : eval F x = .pointer (some ⟨σ.length + i, off, none⟩) := by (exact rfl))(h2 : l[i]? = some ⟨cells, 0, r⟩ := by (exact rfl))(h3 : cells[off]? = some v := by (exact rfl)) : EvR C (⟨some d, none, .load1 x, n⟩ :: rest) F (σ ++ l) Q := EvR.opS (evL_ok (by simp only [evL, h1, load1_app, h2, h3, if_true])) h
theorem EvR.lp {Q} {d n : Nat} {rest : List SOper} {l : Heap} {x : Operand} {b o k : Nat} {cs : List Value} {v : Value} (h : EvR C rest ((d, v) :: F) (σ ++ l) Q) (h1 : eval F x = .pointer (some ⟨b, o + k, none⟩) := by (exact rfl))(h2 : PtAt σ b o cs := by assumption)(h3 : cs[k]? = some v := by (exact rfl)) : EvR C (⟨some d, none, .load1 x, n⟩ :: rest) F (σ ++ l) Q := EvR.opS (evL_ok (by rw [evL, h1, h2.load l k (List.getElem?_eq_some_iff.1 h3).1, h3])) h
theorem EvR.le {Q} {d n : Nat} {rest : List SOper} {l : Heap} {x : Operand} {v : Value} {i m : Nat} {xs : List Nat} (h : EvR C rest ((d, .float .f32 (xs.getD i 0)) :: F) (σ ++ l) Q) (h1 : eval F x = elemP 1 v i := by (conv => lhs; whnf))(h2 : Row σ 1 v m (f32s xs) := by assumption)(h3 : i < m := by omega) : EvR C (⟨some d, none, .load1 x, n⟩ :: rest) F (σ ++ l) Q := EvR.opS (evL_ok (by rw [evL, h1, h2.loadFE l i h3])) h
theorem EvR.lei {Q} {d n : Nat} {rest : List SOper} {l : Heap} {x : Operand} {v : Value} {i m : Nat} {xs : List Int} (h : EvR C rest ((d, .int .i64 (xs.getD i 0)) :: F) (σ ++ l) Q) (h1 : eval F x = elemP 1 v i := by (conv => lhs; whnf))(h2 : Row σ 1 v m (i64s xs) := by assumption)(h3 : i < m := by omega) : EvR C (⟨some d, none, .load1 x, n⟩ :: rest) F (σ ++ l) Q := EvR.opS (evL_ok (by rw [evL, h1, h2.loadIE l i h3])) h
theorem EvR.leb {Q} {d n : Nat} {rest : List SOper} {l : Heap} {x : Operand} {v : Value} {i m : Nat} {xs : List Bool} (h : EvR C rest ((d, .bool (xs.getD i false)) :: F) (σ ++ l) Q) (h1 : eval F x = elemP 1 v i := by (conv => lhs; whnf))(h2 : Row σ 1 v m (bools xs) := by assumption)(h3 : i < m := by omega) : EvR C (⟨some d, none, .load1 x, n⟩ :: rest) F (σ ++ l) Q := EvR.opS (evL_ok (by rw [evL, h1, h2.loadBE l i h3])) h
theorem EvR.ix {Q} {d n : Nat} {rest : List SOper} {l : Heap} {e : Nat} {x y : Operand} {k : IntKind} {j : Int} {i m : Nat} {v : Value} {cs : List Value} (h : EvR C rest ((d, elemP e v i) :: F) (σ ++ l) Q) (h1 : eval F x = v := by (conv => lhs; whnf))(h2 : Row σ e v m cs := by assumption)(h3 : eval F y = .int k j := by (exact rfl))(h4 : 0 ≤ j := by omega)(h5 : j < m := by omega)(h6 : j.toNat = i := by (first | ((simp only [Int.reduceAdd, Int.reduceSub, Int.reduceMul, Int.reduceNeg, Int.toNat_natCast, Int.reduceToNat, Int.toNat_zero, Int.sub_zero, Int.zero_add, Int.add_zero, Nat.zero_add, Nat.mul_one, Nat.add_zero, Int.zero_sub, Nat.reduceMul, Nat.reduceAdd]) <;> with_reducible rfl) | with_reducible rfl)) : EvR C (⟨some d, none, .indexAddrS e x y, n⟩ :: rest) F (σ ++ l) Q := EvR.opS (evL_ok (by rw [evL, h1, h3, h2.idxE l k j h4 h5, h6])) h
theorem EvR.ixo {Q} {d n : Nat} {rest : List SOper} {l : Heap} {e : Nat} {x y : Operand} {k : IntKind} {j : Int} {i m c q : Nat} (h : EvR C rest ((d, .pointer (some ⟨σ.length + i, q * e, some (c * e)⟩)) :: F) (σ ++ l) Q) (h1 : eval F x = .slice (some ⟨σ.length + i, 0, none⟩) m c := by (exact rfl))(h3 : eval F y = .int k j := by (exact rfl))(h2 : isRow l[i]? e (c * e) := by ((try simp only [true_and, and_true, isRow_some, isOwn_some, List.getElem?_cons_succ, List.getElem?_cons_zero, get_end0, get_end, f32s_length, i64s_length, b8s_length, bools_length, List.length_append, List.length_take, List.length_drop, List.length_replicate, List.length_map, List.length_range, List.length_set, List.length_cons, List.length_nil]); omega))(h4 : 0 ≤ j := by omega)(h5 : j < m := by omega)(h7 : m ≤ c := by first | exact Nat.le_refl _ | omega)(h6 : j.toNat = q := by (first | ((simp only [Int.reduceAdd, Int.reduceSub, Int.reduceMul, Int.reduceNeg, Int.toNat_natCast, Int.reduceToNat, Int.toNat_zero, Int.sub_zero, Int.zero_add, Int.add_zero, Nat.zero_add, Nat.mul_one, Nat.add_zero, Int.zero_sub, Nat.reduceMul, Nat.reduceAdd]) <;> with_reducible rfl) | with_reducible rfl)) : EvR C (⟨some d, none, .indexAddrS e x y, n⟩ :: rest) F (σ ++ l) Q := EvR.opS (evL_ok (by rw [evL, h1, h3, idxO (by rw [Nat.zero_add]; exact h2) h4 h5 h7, h6, Nat.zero_add, Nat.zero_add])) h
theorem EvR.l1o {Q} {d n : Nat} {rest : List SOper} {l : Heap} {x : Operand} {i off c : Nat} {r : Bool} {xs : List Nat} (h : EvR C rest ((d, .float .f32 (xs.getD off 0)) :: F) (σ ++ l) Q) (h1 : eval F x = .pointer (some ⟨σ.length + i, off * 1, some (c * 1)⟩) := by exact rfl) (h2 : l[i]? = some ⟨f32s xs, 1, r⟩ := by exact rfl) (h3 : xs.length = c * 1 := by ((try simp only [true_and, and_true, isRow_some, isOwn_some, List.getElem?_cons_succ, List.getElem?_cons_zero, get_end0, get_end, f32s_length, i64s_length, b8s_length, bools_length, List.length_append, List.length_take, List.length_drop, List.length_replicate, List.length_map, List.length_range, List.length_set, List.length_cons, List.length_nil]); omega)) (h4 : off < xs.length := by ((try simp only [true_and, and_true, isRow_some, isOwn_some, List.getElem?_cons_succ, List.getElem?_cons_zero, get_end0, get_end, f32s_length, i64s_length, b8s_length, bools_length, List.length_append, List.length_take, List.length_drop, List.length_replicate, List.length_map, List.length_range, List.length_set, List.length_cons, List.length_nil]); omega)) : EvR C (⟨some d, none, .load1 x, n⟩ :: rest) F (σ ++ l) Q := EvR.opS (evL_ok (by rw [evL, h1, load1_elem σ l i _ _ h2 (by rw [f32s_length]; exact h3) (by omega), Nat.mul_one, f32s_get _ _ h4])) h
theorem EvR.lv {Q} {d n : Nat} {rest : List SOper} {l : Heap} {x : Operand} {b o : Nat} {cs : List Value} {v : Value} (h : EvR C rest ((d, v) :: F) (σ ++ l) Q) (h1 : eval F x = .pointer (some ⟨b, o, none⟩) := by exact rfl) (h2 : PtAt σ b o cs := by assumption) (h3 : cs[0]? = some v := by exact rfl) : EvR C (⟨some d, none, .load1 x, n⟩ :: rest) F (σ ++ l) Q := EvR.opS (evL_ok (by have := h2.load l 0 (List.getElem?_eq_some_iff.1 h3).1; rw [Nat.add_zero] at this; rw [evL, h1, this, h3])) h
theorem EvR.lN {Q} {d n : Nat} {rest : List SOper} {l : Heap} {x : Operand} {i off m : Nat} {cells cs : List Value} {r : Bool} (h : EvR C rest ((d, .agg cs.toArray) :: F) (σ ++ l) Q) (h1 : eval F x = .pointer (some ⟨σ.length + i, off, none⟩) := by (exact rfl))(h2 : l[i]? = some ⟨cells, 0, r⟩ := by (exact rfl))(h3 : Nat.ble (off + m) cells.length = true := by (exact rfl))(h4 : (cells.drop off).take m = cs := by ((simp only [Nat.reduceAdd, List.drop_zero, List.drop_succ_cons, List.take_succ_cons, List.take_zero, List.drop_nil, List.take_nil]) <;> with_reducible rfl)) : EvR C (⟨some d, none, .loadN m x, n⟩ :: rest) F (σ ++ l) Q := EvR.opS (evL_ok (by rw [evL, h1, loadN_app, h2]; simp only [Nat.le_of_ble_eq_true h3, and_self, if_true, h4])) h
theorem EvR.lNp {Q} {d n : Nat} {rest : List SOper} {l : Heap} {x : Operand} {b o m : Nat} {cs : List Value} (h : EvR C rest ((d, .agg cs.toArray) :: F) (σ ++ l) Q) (h1 : eval F x = .pointer (some ⟨b, o, none⟩) := by (exact rfl))(h2 : PtAt σ b o cs := by assumption)(h3 : cs.length = m := by (exact rfl))(h4 : Nat.ble 1 m = true := by (exact rfl)) : EvR C (⟨some d, none, .loadN m x, n⟩ :: rest) F (σ ++ l) Q := EvR.opS (evL_ok (by subst h3; rw [evL, h1, h2.loadN l (by intro hc; subst hc; simp at h4)])) h
theorem EvR.bx {Q} {d n m : Nat} {rest : List SOper} {l l' : Heap} {x : Operand} {v : Value} {cs : List Value} (h : EvR C rest ((d, .pointer (some ⟨σ.length + m, 0, none⟩)) :: F) (σ ++ l') Q) (h1 : eval F x = v := by (conv => lhs; whnf)) (h2 : v.cells.toList = cs := by ((simp (disch := assumption) only [cells_agg, cells_bool, cells_int, cells_float, cells_string, cells_slice, cells_pointer, cells_func, cells_iface, cells_nilf, cells_nili, Row.oneR, cells_okR, List.toList_toArray]) <;> with_reducible rfl)) (h3 : cs.all cellOk = true := by first | exact rfl | (simp (disch := assumption) only [List.all_cons, List.all_nil, ok_bool, ok_int, ok_float, ok_string, ok_slice, ok_pointer, ok_func, ok_iface, ok_nilf, ok_nili, Row.okR, Bool.and_true, Bool.and_self, *])) (h4 : l ++ [⟨cs, 0, true⟩] = l' := by ((simp only [List.cons_append, List.nil_append, List.append_assoc]) <;> with_reducible rfl)) (h5 : l.length = m := by ((simp only [List.length_cons, List.length_nil, List.length_append, Nat.reduceAdd, Nat.zero_add, Nat.add_assoc]) <;> with_reducible rfl)) : EvR C (⟨some d, none, .box x, n⟩ :: rest) F (σ ++ l) Q := EvR.opS (by simp only [evOp, h1, box_app, h2, h3, if_true, h4, h5]) h
theorem EvR.aMetT {Q} {d : Option Nat} {op : SOp} {n t : Nat} {rest : List SOper} (h : EvR C (⟨d, none, op, n⟩ :: rest) F σ Q) (hg : fget F t = .bool true := by exact rfl) : EvR C (⟨d, some (t, true), op, n⟩ :: rest) F σ Q := EvR.met hg rfl h
theorem EvR.aMetF {Q} {d : Option Nat} {op : SOp} {n t : Nat} {rest : List SOper} (h : EvR C (⟨d, none, op, n⟩ :: rest) F σ Q) (hg : fget F t = .bool false := by exact rfl) : EvR C (⟨d, some (t, false), op, n⟩ :: rest) F σ Q := EvR.met hg rfl h
theorem EvR.aNotST {Q} {d : Nat} {op : SOp} {n t : Nat} {rest : List SOper} (h : EvR C rest ((d, undef) :: F) σ Q) (hg : fget F t = .bool false := by exact rfl) : EvR C (⟨some d, some (t, true), op, n⟩ :: rest) F σ Q := EvR.opSF hg rfl h
theorem EvR.aNotSF {Q} {d : Nat} {op : SOp} {n t : Nat} {rest : List SOper} (h : EvR C rest ((d, undef) :: F) σ Q) (hg : fget F t = .bool true := by exact rfl) : EvR C (⟨some d, some (t, false), op, n⟩ :: rest) F σ Q := EvR.opSF hg rfl h
theorem EvR.aNotNT {Q} {op : SOp} {n t : Nat} {rest : List SOper} (h : EvR C rest F σ Q) (hg : fget F t = .bool false := by exact rfl) : EvR C (⟨none, some (t, true), op, n⟩ :: rest) F σ Q := EvR.opNF hg rfl h
theorem EvR.aNotNF {Q} {op : SOp} {n t : Nat} {rest : List SOper} (h : EvR C rest F σ Q) (hg : fget F t = .bool true := by exact rfl) : EvR C (⟨none, some (t, false), op, n⟩ :: rest) F σ Q := EvR.opNF hg rfl h
theorem EvR.aUS {Q} {d : Nat} {op : SOp} {n t : Nat} {want : Bool} {rest : List SOper} (h : EvR C rest ((d, undef) :: F) σ Q) (hg : fget F t = undef := by exact rfl) : EvR C (⟨some d, some (t, want), op, n⟩ :: rest) F σ Q := EvR.opSU hg h
theorem EvR.aUN {Q} {op : SOp} {n t : Nat} {want : Bool} {rest : List SOper} (h : EvR C rest F σ Q) (hg : fget F t = undef := by exact rfl) : EvR C (⟨none, some (t, want), op, n⟩ :: rest) F σ Q := EvR.opNU hg h
theorem EvR.aS0 {Q} {d : Nat} {op : SOp} {n : Nat} {rest : List SOper} {v : Value} {σ' : Heap} (h1 : evOp C F σ op = some (v, σ')) (h : EvR C rest ((d, v) :: F) σ' Q) : EvR C (⟨some d, none, op, n⟩ :: rest) F σ Q := EvR.opS h1 h
theorem EvR.aN0 {Q} {op : SOp} {n : Nat} {rest : List SOper} {v : Value} {σ' : Heap} (h1 : evOp C F σ op = some (v, σ')) (h : EvR C rest F σ' Q) : EvR C (⟨none, none, op, n⟩ :: rest) F σ Q := EvR.opN h1 h
/-- A guard that is not known: both ways. -/
theorem EvR.aSplB {Q} {d : Option Nat} {op : SOp} {n t : Nat} {want : Bool} {rest : List SOper} {b : Bool} (h1 : b = true → EvR C (⟨d, some (t, want), op, n⟩ :: rest) F σ Q) (h2 : b = false → EvR C (⟨d, some (t, want), op, n⟩ :: rest) F σ Q)
    (hg : fget F t = .bool b := by exact rfl) : EvR C (⟨d, some (t, want), op, n⟩ :: rest) F σ Q := by
  cases b with
  | true => exact h1 rfl
  | false => exact h2 rfl
theorem Ev.aKp {Q} {K : List Nat} {a : SCode} {F' : Frame} (h : Ev C a F' σ Q) (hF : fkeep K F = F' := by ((simp only [fkeep_cons, fkeep_nil, argFrame, ↓fget_cons, Nat.reduceEqDiff, reduceIte, Nat.zero_add, Nat.reduceAdd]) <;> with_reducible rfl)) : Ev C (.kp K a) F σ Q := Ev.kp hF h
theorem Ev.aT {Q} {c : Operand} {a b : SCode} (h : Ev C a F σ Q) (hc : eval F c = .bool true := by exact rfl) : Ev C (.cond c a b) F σ Q := Ev.condT hc h
theorem Ev.aF {Q} {c : Operand} {a b : SCode} (h : Ev C b F σ Q) (hc : eval F c = .bool false := by exact rfl) : Ev C (.cond c a b) F σ Q := Ev.condF hc h
theorem Ev.aSplB {Q} {c : Operand} {a b : SCode} {t : Bool} (h1 : t = true → Ev C a F σ Q) (h2 : t = false → Ev C b F σ Q) (hc : eval F c = .bool t := by exact rfl) : Ev C (.cond c a b) F σ Q := Ev.cond hc h1 h2

/-- A call by the law of what is called. -/
theorem EvR.aCall {Q} {d : Option Nat} {g : FuncId} {args : List Operand} {n : Nat} {rest : List SOper} {c : Contract} {R : Value → Heap → Prop} {as : List Value} (hg : C g = some c) (ha : args.map (eval F) = as)
    (hr : Ret c as σ R) (h : ∀ v σ', R v σ' → EvR C rest (fput F d v) σ' Q) : EvR C (⟨d, none, .call (.func g) args, n⟩ :: rest) F σ Q :=
  EvR.callF hg ha hr (fun _ => rfl) h

/-- A call of a function value. -/
theorem EvR.aDyn {Q} {d : Option Nat} {f : Operand} {g : FuncId} {y : Array Value} {args : List Operand} {n : Nat} {rest : List SOper} {c : Contract} {R : Value → Heap → Prop} {as : List Value} (hg : C g = some c) (hf : eval F f = .func (.func g) #[] y) (ha : args.map (eval F) = as)
    (hr : Ret c (as ++ y.toList) σ R) (h : ∀ v σ', R v σ' → EvR C rest (fput F d v) σ' Q) : EvR C (⟨d, none, .call f args, n⟩ :: rest) F σ Q :=
  EvR.callD hg hf ha hr (fun _ => rfl) h

/-- The end of a function with a scalar result. -/
theorem endS {F : Frame} {σ l : Heap} {rs : List SRes} {Q : Value → Heap → Prop} {v : Value} {q : Bool} {o : Out} (ho : match o with | .exit _ => False | _ => True) (h : Q v σ) (h1 : resOf F (σ ++ l) rs = some v) (h2 : gcTop σ.length v = some (v, [])) :
    atEnd rs (fun v0 σ0 => ∃ v ids σ', gcTop σ.length v0 = some (v, ids) ∧ Cleared σ σ0 ids σ' ∧ QuietTo q σ σ' ∧ Q v σ') o F (σ ++ l) := by
  cases o with
  | exit id => exact ho.elim
  | normal => exact atEnd_normal h1 (end_scalar h2 h)
  | ret => exact atEnd_ret h1 (end_scalar h2 h)
/-- The end of a function whose result has new rows. -/
theorem endR {F : Frame} {σ l objs : Heap} {rs : List SRes} {Q : Value → Heap → Prop} {v0 v : Value} {q : Bool} {o : Out} (ids : List Nat) (ho : match o with | .exit _ => False | _ => True) (h : Q v (σ ++ objs)) (h1 : resOf F (σ ++ l) rs = some v0)
    (h2 : gcTop σ.length v0 = some (v, ids.map (fun i => σ.length + i))) (h3 : ids.map (fun i => l[i]?) = objs.map some) (h4 : ids.Nodup) (h5 : objs.all allConst = true) :
    atEnd rs (fun v0 σ0 => ∃ v ids σ', gcTop σ.length v0 = some (v, ids) ∧ Cleared σ σ0 ids σ' ∧ QuietTo q σ σ' ∧ Q v σ') o F (σ ++ l) := by
  cases o with
  | exit id => exact ho.elim
  | normal => exact atEnd_normal h1 (end_rows objs ids h2 h3 h4 h5 h)
  | ret => exact atEnd_ret h1 (end_rows objs ids h2 h3 h4 h5 h)

/-- A loop whose state is told by s; each round makes the measure less. -/
theorem Ev.whl {K : List Nat} {a : SCode} {Q : Out → Frame → Heap → Prop} {S : Type} (μ : S → Nat) (inv : S → Frame → Heap → Prop)
    (hstep : ∀ s F σ, inv s F σ → Ev C a F σ (thenQ (fun F' σ' => ∃ s', μ s' < μ s ∧ inv s' (fkeep K F') σ') Q))
    (s0 : S) {F0 : Frame} {σ0 : Heap} (h0 : inv s0 (fkeep K F0) σ0) : Ev C (.loop (.kp K a)) F0 σ0 Q := by
  refine Ev.loop (fun n F' σ' => ∃ s, n = μ s ∧ inv s (fkeep K F') σ') ?_ (μ s0) F0 σ0 ⟨s0, rfl, h0⟩
  rintro n F' σ' ⟨s, rfl, hi⟩
  refine Ev.kp rfl ((hstep s _ _ hi).mono fun o F2 σ2 h => ?_)
  cases o with
  | normal => obtain ⟨s', h1, h2⟩ := h; exact ⟨_, h1, s', rfl, h2⟩
  | exit id => exact h
  | ret => exact h
end

theorem Has.q {C : Ctab} {i : FuncId} {c : Contract} {ok : Contract → Prop} (h : Has C i c ok) : ∃ c, C i = some c ∧ c.quiet = true := ⟨c, h.at_, h.quiet⟩
theorem f32s_getR {xs : List Nat} {i : Nat} (h : i < xs.length) : (f32s xs)[i]? = some (.float .f32 (xs.getD i 0)) := f32s_get xs i h

/-- The same; the state tells which slots change, the heap stays. -/
theorem Ev.whlC {C : Ctab} {K : List Nat} {a : SCode} {Q : Out → Frame → Heap → Prop} {S : Type} (μ : S → Nat) (upd : S → Frame) (p : S → Prop) {F0 : Frame} {σ0 : Heap} (s0 : S)
    (hF : fkeep K F0 = fkeep K (upd s0 ++ F0)) (h0 : p s0)
    (hstep : ∀ s F, fkeep K (upd s ++ F0) = F → p s → Ev C a F σ0 (thenQ (fun F' σ' => ∃ s', μ s' < μ s ∧ fkeep K F' = fkeep K (upd s' ++ F0) ∧ σ' = σ0 ∧ p s') Q)) :
    Ev C (.loop (.kp K a)) F0 σ0 Q := by
  refine Ev.whl μ (fun s F τ => F = fkeep K (upd s ++ F0) ∧ τ = σ0 ∧ p s) ?_ s0 ⟨hF, rfl, h0⟩
  rintro s F τ ⟨rfl, rfl, hp⟩
  exact hstep s _ rfl hp
/-- The same; the heap is told, too. -/
theorem Ev.whlH {C : Ctab} {K : List Nat} {a : SCode} {Q : Out → Frame → Heap → Prop} {S : Type} (μ : S → Nat) (upd : S → Frame) (H : S → Heap) (p : S → Prop) {F0 : Frame} {σ0 : Heap} (s0 : S)
    (hF : fkeep K F0 = fkeep K (upd s0 ++ F0)) (hH : σ0 = H s0) (h0 : p s0)
    (hstep : ∀ s F, fkeep K (upd s ++ F0) = F → p s → Ev C a F (H s) (thenQ (fun F' σ' => ∃ s', μ s' < μ s ∧ fkeep K F' = fkeep K (upd s' ++ F0) ∧ σ' = H s' ∧ p s') Q)) :
    Ev C (.loop (.kp K a)) F0 σ0 Q := by
  refine Ev.whl μ (fun s F τ => F = fkeep K (upd s ++ F0) ∧ τ = H s ∧ p s) ?_ s0 ⟨hF, hH, h0⟩
  rintro s F τ ⟨rfl, rfl, hp⟩
  exact hstep s _ rfl hp

attribute [push_cast] evP evL convP_wide convP_int convP_nearest convP_same Row.idxR Row.loadR Row.loadRI Row.loadRB Row.okR Row.oneR Row.lenR cells_okR PtAt.load1R PtAt.loadNR isRow_some idxO load1O store1O setRow cond_t cond_f get_end0 get_end set_end0 set_end set_app f32s_set f32s_getR f32s_length f32s_append List.length_append List.append_assoc List.length_take List.length_drop List.length_replicate List.length_map List.length_range List.length_set Nat.mul_one Nat.add_assoc
/-- Tables of quiet functions. -/
theorem allq_nil : ∀ g c, cnil g = some c → c.quiet = true := fun g c h => by cases h
theorem allq_add {n : FuncId} {c : Contract} {C : Ctab} (h : c.quiet = true) (hC : ∀ g c, C g = some c → c.quiet = true) : ∀ g d, cadd n c C g = some d → d.quiet = true := by
  intro g d hd
  unfold cadd at hd
  cases hb : Nat.beq g n with
  | true => rw [hb] at hd; cases hd; exact h
  | false => rw [hb] at hd; exact hC g d hd

attribute [irreducible] thenQ blkQ
/-! Goals that are to be closed. -/
theorem evc {p : Prop} (h : p := by ((simp (disch := first | assumption | ((try simp only [true_and, and_true, isRow_some, isOwn_some, List.getElem?_cons_succ, List.getElem?_cons_zero, get_end0, get_end, f32s_length, i64s_length, b8s_length, bools_length, List.length_append, List.length_take, List.length_drop, List.length_replicate, List.length_map, List.length_range, List.length_set, List.length_cons, List.length_nil]); (first | show (_ : Int) ≤ _ | show (_ : Int) < _ | show (_ : Nat) ≤ _ | show (_ : Nat) < _ | show (_ : Int) ≠ _ | show (_ : Nat) ≠ _ | show (_ : Nat) = _ | show (_ : Int) = _ | show _ ∧ _); omega)) only [↓evOp, ↓eval_tmp, ↓fget_cons, push_cast, Nat.reduceEqDiff, reduceIte, Nat.reduceAdd, Nat.reduceLeDiff, Int.reduceMul, Int.reduceAdd, Int.reduceSub, Int.reduceNeg]) <;> with_reducible rfl)) : p := h
theorem eva {p : Prop} (h : p := by (simp (disch := first | assumption | ((try simp only [true_and, and_true, isRow_some, isOwn_some, List.getElem?_cons_succ, List.getElem?_cons_zero, get_end0, get_end, f32s_length, i64s_length, b8s_length, bools_length, List.length_append, List.length_take, List.length_drop, List.length_replicate, List.length_map, List.length_range, List.length_set, List.length_cons, List.length_nil]); (first | show (_ : Int) ≤ _ | show (_ : Int) < _ | show (_ : Nat) ≤ _ | show (_ : Nat) < _ | show (_ : Int) ≠ _ | show (_ : Nat) ≠ _ | show (_ : Nat) = _ | show (_ : Int) = _ | show _ ∧ _); omega)) only [↓eval_tmp, ↓fget_cons, push_cast, Nat.reduceEqDiff, reduceIte, Nat.reduceAdd, Nat.reduceLeDiff] <;> with_reducible rfl)) : p := h
theorem sid {p : Prop} (h : p := by (repeat' (first | assumption | exact Nat.zero_le _ | ((first | show (_ : Int) ≤ _ | show (_ : Int) < _ | show (_ : Nat) ≤ _ | show (_ : Nat) < _ | show (_ : Int) ≠ _ | show (_ : Nat) ≠ _ | show (_ : Nat) = _ | show (_ : Int) = _ | show _ ∧ _); omega) | exact trivial | (refine Row.ext ?_ _; assumption) | (refine Row.ownF (by first | rfl | (simp only [List.getElem?_cons_succ, List.getElem?_cons_zero, get_end0, get_end] <;> rfl)) (by first | rfl | omega | (simp <;> omega))) | exact Row.nilF | (refine PtAt.ext ?_ _; assumption) | exact PtAt.own (by first | rfl | (simp only [List.getElem?_cons_succ, List.getElem?_cons_zero, get_end0, get_end] <;> rfl)) | apply ShR.mk | apply FlR.mk | apply And.intro | exact Row.okR (by assumption) | rfl))) : p := h
theorem EvR.nrm {C : Ctab} {F F' : Frame} {σ σ' : Heap} {Q} {ops : List SOper} (h : EvR C ops F' σ' Q) (hF : F = F' := by first | ((simp only [List.length_append, List.length_cons, List.length_nil, List.append_assoc, List.cons_append, List.nil_append, Nat.reduceAdd, Nat.zero_add, Nat.add_assoc, List.set_cons_zero, List.set_cons_succ, set_app, set_end0, set_end, fput_some, fput_none, fset_eq]) <;> rfl) | rfl) (hs : σ = σ' := by first | ((simp only [List.length_append, List.length_cons, List.length_nil, List.append_assoc, List.cons_append, List.nil_append, Nat.reduceAdd, Nat.zero_add, Nat.add_assoc, List.set_cons_zero, List.set_cons_succ, set_app, set_end0, set_end, fput_some, fput_none, fset_eq]) <;> rfl) | rfl) : EvR C ops F σ Q := by subst hF hs; exact h
theorem drk {p : Prop} (h : p := by (simp only [push_cast]; done)) : p := h
theorem varRun.st {C : Ctab} {F : Frame} {σ σ' : Heap} {d : Option Nat} {op : SOp} {n : Nat} {rest : List SOper} {v : Value} (h : evOp C F σ op = some (v, σ')) (hs : spotOk F op = true) (hr : varRun C rest (fput F d v) σ' = true) : varRun C (⟨d, none, op, n⟩ :: rest) F σ = true := by
  unfold varRun
  simp only [guardOf, cond_true, h, hs, hr, Bool.and_self]
theorem quie {p : Prop} (h : p := by (repeat' (first | exact trivial | exact Has.q (by assumption) | refine ⟨?_, ?_⟩))) : p := h

end Go.Abs

