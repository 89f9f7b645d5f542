/- The abstract machine: rubbish is cleared behind a call; contracts that do so. Conditions: what is kept of new objects holds constants alone; old objects are as they were or hold constants. -/
import Derived.Test.YtnibmlgdnhiglaaWvD2
namespace Go.Abs

/-- The same value, its new objects under other numbers. -/
inductive Ren (m : Nat → Nat) (N : Nat) : Value → Value → Prop where
  | const {v : Value} (h : constOk v = true) : Ren m N v v
  | dead : Ren m N dead dead
  | ptr (a : Addr) (h : a.block < N) : Ren m N (.pointer (some a)) (.pointer (some ⟨m a.block, a.off, a.spot⟩))
  | sl (a : Addr) (len cap : Nat) (h : a.block < N) : Ren m N (.slice (some a) len cap) (.slice (some ⟨m a.block, a.off, a.spot⟩) len cap)
  | slNil (len cap : Nat) : Ren m N (.slice none len cap) (.slice none len cap)
  | func (f : Fn) (x y x' y' : Array Value) (hx : x.size = x'.size) (hy : y.size = y'.size)
      (h1 : ∀ (i : Nat) (v v' : Value), x[i]? = some v → x'[i]? = some v' → Ren m N v v')
      (h2 : ∀ (i : Nat) (v v' : Value), y[i]? = some v → y'[i]? = some v' → Ren m N v v') : Ren m N (.func f x y) (.func f x' y')
  | iface (t : TypeId) (v v' : Value) (h : Ren m N v v') : Ren m N (.iface t v) (.iface t v')
  | agg (x x' : Array Value) (hx : x.size = x'.size) (h1 : ∀ (i : Nat) (v v' : Value), x[i]? = some v → x'[i]? = some v' → Ren m N v v') : Ren m N (.agg x) (.agg x')
  | tuple (x x' : Array Value) (hx : x.size = x'.size) (h1 : ∀ (i : Nat) (v v' : Value), x[i]? = some v → x'[i]? = some v' → Ren m N v v') : Ren m N (.tuple x) (.tuple x')

theorem vrel_constOk {β β' : Inj} {σ σ' : Heap} {v c : Value} (h : VRel β σ v c) (hk : constOk v = true) : VRel β' σ' v c := by
  cases h with
  | bool b => exact .bool b
  | int k n => exact .int k n
  | float h => exact .float h
  | string s => exact .string s
  | ptrNil => exact .ptrNil
  | slNil n m => exact .slNil n m
  | nilFunc => exact .nilFunc
  | nilIface => exact .nilIface
  | _ => simp [constOk, Go.Abs.dead] at hk

theorem Ren.pull {m : Nat → Nat} {β0 : Inj} {σ0 σ' : Heap} (hm : ∀ o, o < σ'.length → σ'[o]? = σ0[m o]?) {v v0 : Value} (h : Ren m σ'.length v v0) :
    ∀ {c : Value}, VRel β0 σ0 v0 c → VRel (fun o => β0 (m o)) σ' v c := by
  induction h with
  | const hk => intro c hr; exact vrel_constOk hr hk
  | dead => intro c _; exact .dead c
  | ptr a hlt =>
    intro c hr
    cases hr with
    | ptr _ obj hσ c hk h => exact .ptr a obj ((hm _ hlt).trans hσ) c hk h
  | sl a len cap hlt =>
    intro c hr
    cases hr with
    | sl _ obj hσ _ _ c cap' hsz hcap h => exact .sl a obj ((hm _ hlt).trans hσ) len cap c cap' hsz hcap h
  | slNil len cap => intro c hr; cases hr with | slNil => exact .slNil _ _
  | func f x y x' y' hx hy _ _ i1 i2 =>
    intro c hr
    cases hr with
    | func _ _ _ a b ha hb g1 g2 =>
      refine .func f x y a b (by omega) (by omega) (fun i v c hv hc => ?_) (fun i v c hv hc => ?_)
      · have hlt : i < x'.size := by rw [← hx]; exact (Array.getElem?_eq_some_iff.1 hv).1
        have hz : x'[i]? = some x'[i] := Array.getElem?_eq_getElem hlt
        exact i1 i v _ hv hz (g1 i _ c hz hc)
      · have hlt : i < y'.size := by rw [← hy]; exact (Array.getElem?_eq_some_iff.1 hv).1
        have hz : y'[i]? = some y'[i] := Array.getElem?_eq_getElem hlt
        exact i2 i v _ hv hz (g2 i _ c hz hc)
  | iface t v v' _ ih => intro c hr; cases hr with | iface _ _ c h => exact .iface t v c (ih h)
  | agg x x' hx _ ih =>
    intro c hr
    cases hr with
    | agg _ a ha g =>
      refine .agg x a (by omega) fun i v c hv hc => ?_
      have hlt : i < x'.size := by rw [← hx]; exact (Array.getElem?_eq_some_iff.1 hv).1
      have hz : x'[i]? = some x'[i] := Array.getElem?_eq_getElem hlt
      exact ih i v _ hv hz (g i _ c hz hc)
  | tuple x x' hx _ ih =>
    intro c hr
    cases hr with
    | tuple _ a ha g =>
      refine .tuple x a (by omega) fun i v c hv hc => ?_
      have hlt : i < x'.size := by rw [← hx]; exact (Array.getElem?_eq_some_iff.1 hv).1
      have hz : x'[i]? = some x'[i] := Array.getElem?_eq_getElem hlt
      exact ih i v _ hv hz (g i _ c hz hc)

theorem arr_self {P : Value → Value → Prop} {x y : Array Value} (hxy : x.size = y.size) (h : ∀ (i : Nat) (v v' : Value), x[i]? = some v → y[i]? = some v' → P v v) : ∀ (i : Nat) (v v' : Value), x[i]? = some v → x[i]? = some v' → P v v' := by
  intro i v v' hv hv'
  rw [hv] at hv'; cases hv'
  have hlt : i < y.size := by rw [← hxy]; exact (Array.getElem?_eq_some_iff.1 hv).1
  exact h i v _ hv (Array.getElem?_eq_getElem hlt)

/-- What stood for something knows only objects that were. -/
theorem VRel.ren {m : Nat → Nat} {N : Nat} {β : Inj} {σ : Heap} (hm : ∀ o, o < σ.length → m o = o) (hN : σ.length ≤ N) {v c : Value} (h : VRel β σ v c) : Ren m N v v := by
  have lt : ∀ {b : Nat} {obj : AObj}, σ[b]? = some obj → b < σ.length := fun {b obj} h => (List.getElem?_eq_some_iff.1 h).1
  induction h with
  | dead c => exact .dead
  | bool b => exact .const rfl
  | int k n => exact .const rfl
  | float h => exact .const rfl
  | string s => exact .const rfl
  | ptrNil => exact .const rfl
  | ptr a obj hσ c hk h =>
    have h1 := Ren.ptr (m := m) (N := N) a (Nat.lt_of_lt_of_le (lt hσ) hN)
    rw [hm _ (lt hσ)] at h1; exact h1
  | slNil n m => exact .slNil _ _
  | sl a obj hσ len cap c cap' hsz hcap h =>
    have h1 := Ren.sl (m := m) (N := N) a len cap (Nat.lt_of_lt_of_le (lt hσ) hN)
    rw [hm _ (lt hσ)] at h1; exact h1
  | func f x y x' y' hx hy _ _ i1 i2 =>
    exact .func f x y x y rfl rfl (arr_self hx i1) (arr_self hy i2)
  | nilFunc => exact .const rfl
  | nilIface => exact .const rfl
  | iface t v v' _ ih => exact .iface t v v ih
  | agg x x' hx _ ih => exact .agg x x rfl (arr_self hx ih)
  | tuple x x' hx _ ih => exact .tuple x x rfl (arr_self hx ih)

def allConst (obj : AObj) : Bool := obj.cells.all constOk

/-- The number of an object before the clearing. -/
def oldId (n : Nat) (ids : List Nat) (L o : Nat) : Nat := if o < n then o else ids.getD (o - n) L

structure Cleared (σ σ0 : Heap) (ids : List Nat) (σ' : Heap) : Prop where
  le : σ.length ≤ σ0.length
  eq : σ' = σ0.take σ.length ++ ids.filterMap (fun i => σ0[i]?)
  ge : ∀ i ∈ ids, σ.length ≤ i
  lt : ∀ i ∈ ids, i < σ0.length
  nd : ids.Nodup
  new : ∀ i ∈ ids, ∀ obj, σ0[i]? = some obj → allConst obj = true
  old : ∀ o, o < σ.length → σ0[o]? = σ[o]? ∨ ∀ obj, σ0[o]? = some obj → allConst obj = true

theorem filterMap_get (σ0 : Heap) : ∀ (ids : List Nat), (∀ i ∈ ids, i < σ0.length) → (ids.filterMap (fun i => σ0[i]?)).length = ids.length ∧ ∀ (k : Nat), (ids.filterMap (fun i => σ0[i]?))[k]? = (ids[k]?).bind (fun i => σ0[i]?)
  | [], _ => ⟨rfl, fun k => by simp⟩
  | i :: ids, h => by
    have hi : σ0[i]? = some (σ0[i]'(h i (by simp))) := List.getElem?_eq_getElem (h i (by simp))
    obtain ⟨h1, h2⟩ := filterMap_get σ0 ids (fun j hj => h j (by simp [hj]))
    rw [List.filterMap_cons, hi]
    refine ⟨by simp [h1], fun k => ?_⟩
    cases k with
    | zero => simp [hi]
    | succ k => simp [h2]

theorem Cleared.length {σ σ0 σ' : Heap} {ids : List Nat} (h : Cleared σ σ0 ids σ') : σ'.length = σ.length + ids.length := by
  rw [h.eq, List.length_append, (filterMap_get σ0 ids h.lt).1, List.length_take, Nat.min_eq_left h.le]

theorem Cleared.at_ {σ σ0 σ' : Heap} {ids : List Nat} (h : Cleared σ σ0 ids σ') (o : Nat) (ho : o < σ'.length) : σ'[o]? = σ0[oldId σ.length ids σ0.length o]? := by
  have hl := h.length
  unfold oldId
  rw [h.eq]
  split
  · rename_i hlt
    rw [List.getElem?_append_left (by rw [List.length_take, Nat.min_eq_left h.le]; exact hlt), List.getElem?_take, if_pos hlt]
  · rename_i hge
    rw [List.getElem?_append_right (by rw [List.length_take, Nat.min_eq_left h.le]; omega), List.length_take, Nat.min_eq_left h.le, (filterMap_get σ0 ids h.lt).2]
    have : o - σ.length < ids.length := by omega
    rw [List.getElem?_eq_getElem this, List.getD_eq_getElem?_getD, List.getElem?_eq_getElem this]
    rfl

theorem Trans.clear {β β0 : Inj} {σ σ0 σ' : Heap} {w w' : World} {ids : List Nat} (ht : Trans β σ w β0 σ0 w') (hb : InjOk β σ w) (h : Cleared σ σ0 ids σ') :
    Trans β σ w (fun o => β0 (oldId σ.length ids σ0.length o)) σ' w' := by
  have hl := h.length
  have hm0 : ∀ o, o < σ.length → oldId σ.length ids σ0.length o = o := fun o ho => by simp [oldId, ho]
  have hdom : ∀ o s, β0 (oldId σ.length ids σ0.length o) = some s → o < σ'.length := by
    intro o s hs
    have := ht.ok.dom _ _ hs
    rcases Nat.lt_or_ge o σ'.length with h' | h'
    · exact h'
    · exfalso
      unfold oldId at this
      rw [if_neg (by omega), List.getD_eq_getElem?_getD, List.getElem?_eq_none (by omega)] at this
      simp at this
  refine { ok := ⟨hdom, ?_, ?_⟩, later := ?_, len := by omega, size := ht.size, keep := ht.keep, grow := ?_, os := ht.os, tape := ht.tape, output := ht.output }
  · intro o obj s ho hs
    have hlt := hdom o s hs
    have ho0 : σ0[oldId σ.length ids σ0.length o]? = some obj := (h.at_ o hlt).symm.trans ho
    obtain ⟨c, e, fz, hw, hcells, hrw⟩ := ht.ok.obj _ obj s ho0 hs
    refine ⟨c, e, fz, hw, fun j v hj => ?_, hrw⟩
    obtain ⟨u, hu, hr⟩ := hcells j v hj
    refine ⟨u, hu, ?_⟩
    have hconst : allConst obj = true → VRel (fun o => β0 (oldId σ.length ids σ0.length o)) σ' v u := by
      intro hc
      refine vrel_constOk hr ?_
      have := List.all_eq_true.1 hc v (List.mem_of_getElem? hj)
      exact this
    by_cases hlo : o < σ.length
    · rw [hm0 o hlo] at ho0 hs
      rcases h.old o hlo with he | hc
      · have hoσ : σ[o]? = some obj := he ▸ ho0
        obtain ⟨obj', h1, _, _, _, h5, _⟩ := ht.later.at_ o obj hoσ
        rw [ho0] at h1; cases h1
        rw [h5 rfl] at hs
        obtain ⟨c2, e2, fz2, hw2, hcells2, _⟩ := hb.obj o obj s hoσ hs
        obtain ⟨u2, _, hr2⟩ := hcells2 j v hj
        exact (hr2.ren hm0 (by omega)).pull (fun o ho => h.at_ o ho) hr
      · exact hconst (hc obj ho0)
    · refine hconst (h.new (oldId σ.length ids σ0.length o) ?_ obj ho0)
      unfold oldId
      rw [if_neg hlo, List.getD_eq_getElem?_getD, List.getElem?_eq_getElem (by omega)]
      simp
  · intro o o' obj s s' ho hrw hs hs' hblk
    have hlt := hdom o s hs
    have hlt' := hdom o' s' hs'
    have ho0 : σ0[oldId σ.length ids σ0.length o]? = some obj := (h.at_ o hlt).symm.trans ho
    have heq := ht.ok.inj _ _ obj s s' ho0 hrw hs hs' hblk
    have hmem : ∀ o, o < σ'.length → ¬ o < σ.length → ∃ (hk : o - σ.length < ids.length), oldId σ.length ids σ0.length o = ids[o - σ.length] := by
      intro o h1 h2
      have hk : o - σ.length < ids.length := by omega
      refine ⟨hk, ?_⟩
      unfold oldId
      rw [if_neg h2, List.getD_eq_getElem?_getD, List.getElem?_eq_getElem hk]
      rfl
    by_cases h1 : o < σ.length <;> by_cases h2 : o' < σ.length
    · rwa [hm0 o h1, hm0 o' h2] at heq
    · obtain ⟨hk, e⟩ := hmem o' hlt' h2
      have := h.ge ids[o' - σ.length] (by simp)
      rw [hm0 o h1, e] at heq; omega
    · obtain ⟨hk, e⟩ := hmem o hlt h1
      have := h.ge ids[o - σ.length] (by simp)
      rw [hm0 o' h2, e] at heq; omega
    · obtain ⟨hk, e⟩ := hmem o hlt h1
      obtain ⟨hk', e'⟩ := hmem o' hlt' h2
      rw [e, e'] at heq
      have := (List.getElem_inj h.nd).1 heq
      omega
  · refine ⟨fun o obj ho => ?_⟩
    have hlo : o < σ.length := (List.getElem?_eq_some_iff.1 ho).1
    obtain ⟨obj', h1, h2⟩ := ht.later.at_ o obj ho
    refine ⟨obj', ?_, ?_⟩
    · rw [h.at_ o (by omega), hm0 o hlo]; exact h1
    · rw [hm0 o hlo]; exact h2
  · rintro b hbl ⟨o, obj, s, ho, hrw, hs, rfl⟩
    have hlt := hdom o s hs
    exact ht.grow _ hbl ⟨_, obj, s, (h.at_ o hlt).symm.trans ho, hrw, hs, rfl⟩

theorem Good.clear {β : Inj} {σ σ0 σ' : Heap} {w w' : World} {ids : List Nat} {v0 v c : Value} (hb : InjOk β σ w) (hg : Good β σ w v0 σ0 c w') (h : Cleared σ σ0 ids σ')
    (hr : Ren (oldId σ.length ids σ0.length) σ'.length v v0) : Good β σ w v σ' c w' := by
  obtain ⟨β0, ht, hv⟩ := hg
  exact ⟨_, ht.clear hb h, hr.pull (fun o ho => h.at_ o ho) hv⟩

/-! ### Which objects are kept -/

def gcLeaf (n : Nat) (ids : List Nat) : Value → Option (Value × List Nat)
  | .slice (some a) len cap =>
    if a.block < n then some (.slice (some a) len cap, ids)
    else if a.block ∈ ids ∨ a.spot ≠ none then none
    else some (.slice (some ⟨n + ids.length, a.off, none⟩) len cap, ids ++ [a.block])
  | .slice none len cap => some (.slice none len cap, ids)
  | .pointer (some a) => if a.block < n then some (.pointer (some a), ids) else none
  | v => if constOk v = true then some (v, ids) else none

def gcLeaves (n : Nat) (ids : List Nat) : List Value → Option (List Value × List Nat)
  | [] => some ([], ids)
  | v :: vs =>
    match gcLeaf n ids v with
    | some (u, ids') => match gcLeaves n ids' vs with | some (us, ids'') => some (u :: us, ids'') | none => none
    | none => none

def gcVal (n : Nat) (ids : List Nat) : Value → Option (Value × List Nat)
  | .agg cs => match gcLeaves n ids cs.toList with | some (us, ids') => some (.agg us.toArray, ids') | none => none
  | v => gcLeaf n ids v

def gcVals (n : Nat) (ids : List Nat) : List Value → Option (List Value × List Nat)
  | [] => some ([], ids)
  | v :: vs =>
    match gcVal n ids v with
    | some (u, ids') => match gcVals n ids' vs with | some (us, ids'') => some (u :: us, ids'') | none => none
    | none => none

def gcTop (n : Nat) : Value → Option (Value × List Nat)
  | .tuple vs => match gcVals n [] vs.toList with | some (us, ids') => some (.tuple us.toArray, ids') | none => none
  | v => gcVal n [] v

def RenAll (n L : Nat) (ids : List Nat) (v v0 : Value) : Prop := ∀ rest, Ren (oldId n (ids ++ rest) L) (n + (ids ++ rest).length) v v0

theorem gcLeaf_ok {n L : Nat} {ids : List Nat} {v0 v : Value} {ids' : List Nat} (h : gcLeaf n ids v0 = some (v, ids')) : (∃ e, ids' = ids ++ e) ∧ RenAll n L ids' v v0 := by
  have same : ∀ (a : Addr) (rest : List Nat), a.block < n → (⟨oldId n (ids ++ rest) L a.block, a.off, a.spot⟩ : Addr) = a := by
    intro a rest h
    unfold oldId
    rw [if_pos h]
  unfold gcLeaf at h
  split at h
  · rename_i a len cap
    split at h
    · rename_i hlt
      cases h
      refine ⟨⟨[], by simp⟩, fun rest => ?_⟩
      have := Ren.sl (m := oldId n (ids ++ rest) L) (N := n + (ids ++ rest).length) a len cap (by omega)
      rw [same a rest hlt] at this
      exact this
    · split at h
      · cases h
      · rename_i hge hns
        cases h
        refine ⟨⟨[a.block], rfl⟩, fun rest => ?_⟩
        have hs : a.spot = none := Classical.byContradiction fun hc => hns (.inr hc)
        have h1 := Ren.sl (m := oldId n (ids ++ [a.block] ++ rest) L) (N := n + (ids ++ [a.block] ++ rest).length) ⟨n + ids.length, a.off, none⟩ len cap (by simp)
        have h2 : oldId n (ids ++ [a.block] ++ rest) L (n + ids.length) = a.block := by
          unfold oldId
          rw [if_neg (by omega), List.getD_eq_getElem?_getD]
          simp
        dsimp only at h1
        rw [h2] at h1
        obtain ⟨b, off, spot⟩ := a
        dsimp only at hs h1 ⊢
        subst hs
        exact h1
  · cases h
    exact ⟨⟨[], by simp⟩, fun rest => .slNil _ _⟩
  · rename_i a
    split at h
    · rename_i hlt
      cases h
      refine ⟨⟨[], by simp⟩, fun rest => ?_⟩
      have := Ren.ptr (m := oldId n (ids ++ rest) L) (N := n + (ids ++ rest).length) a (by omega)
      rw [same a rest hlt] at this
      exact this
    · cases h
  · split at h
    · rename_i hc
      cases h
      exact ⟨⟨[], by simp⟩, fun rest => .const hc⟩
    · cases h

theorem RenAll.ext {n L : Nat} {ids : List Nat} {v v0 : Value} (h : RenAll n L ids v v0) (e : List Nat) : RenAll n L (ids ++ e) v v0 := fun rest => by
  have := h (e ++ rest)
  rwa [List.append_assoc]

theorem gcLeaves_ok {n L : Nat} : ∀ {vs : List Value} {ids : List Nat} {us : List Value} {ids' : List Nat}, gcLeaves n ids vs = some (us, ids') →
    (∃ e, ids' = ids ++ e) ∧ us.length = vs.length ∧ ∀ (i : Nat) (v v0 : Value), us[i]? = some v → vs[i]? = some v0 → RenAll n L ids' v v0
  | [], ids, us, ids', h => by cases h; exact ⟨⟨[], by simp⟩, rfl, fun i v v0 h => by simp at h⟩
  | x :: vs, ids, us, ids', h => by
    unfold gcLeaves at h
    split at h
    · rename_i u ids1 h1
      split at h
      · rename_i us2 ids2 h2
        cases h
        obtain ⟨⟨e1, rfl⟩, r1⟩ := gcLeaf_ok (L := L) h1
        obtain ⟨⟨e2, rfl⟩, hl, r2⟩ := gcLeaves_ok h2
        refine ⟨⟨e1 ++ e2, by simp⟩, by simp [hl], fun i v v0 hv hv0 => ?_⟩
        cases i with
        | zero => simp at hv hv0; subst hv; subst hv0; exact r1.ext e2
        | succ i => exact r2 i v v0 (by simpa using hv) (by simpa using hv0)
      · cases h
    · cases h

theorem gcVal_ok {n L : Nat} {ids : List Nat} {v0 v : Value} {ids' : List Nat} (h : gcVal n ids v0 = some (v, ids')) : (∃ e, ids' = ids ++ e) ∧ RenAll n L ids' v v0 := by
  unfold gcVal at h
  split at h
  · rename_i cs
    split at h
    · rename_i us ids1 h1
      cases h
      obtain ⟨he, hl, r⟩ := gcLeaves_ok (L := L) h1
      refine ⟨he, fun rest => .agg _ _ (by simpa using hl) fun i v v' hv hv' => ?_⟩
      exact r i v v' (by simpa using hv) (by simpa using hv') rest
    · cases h
  · exact gcLeaf_ok h

theorem gcVals_ok {n L : Nat} : ∀ {vs : List Value} {ids : List Nat} {us : List Value} {ids' : List Nat}, gcVals n ids vs = some (us, ids') →
    (∃ e, ids' = ids ++ e) ∧ us.length = vs.length ∧ ∀ (i : Nat) (v v0 : Value), us[i]? = some v → vs[i]? = some v0 → RenAll n L ids' v v0
  | [], ids, us, ids', h => by cases h; exact ⟨⟨[], by simp⟩, rfl, fun i v v0 h => by simp at h⟩
  | x :: vs, ids, us, ids', h => by
    unfold gcVals at h
    split at h
    · rename_i u ids1 h1
      split at h
      · rename_i us2 ids2 h2
        cases h
        obtain ⟨⟨e1, rfl⟩, r1⟩ := gcVal_ok (L := L) h1
        obtain ⟨⟨e2, rfl⟩, hl, r2⟩ := gcVals_ok h2
        refine ⟨⟨e1 ++ e2, by simp⟩, by simp [hl], fun i v v0 hv hv0 => ?_⟩
        cases i with
        | zero => simp at hv hv0; subst hv; subst hv0; exact r1.ext e2
        | succ i => exact r2 i v v0 (by simpa using hv) (by simpa using hv0)
      · cases h
    · cases h

theorem gcTop_ok {n L : Nat} {v0 v : Value} {ids : List Nat} (h : gcTop n v0 = some (v, ids)) : Ren (oldId n ids L) (n + ids.length) v v0 := by
  unfold gcTop at h
  split at h
  · rename_i cs
    split at h
    · rename_i us ids1 h1
      cases h
      obtain ⟨he, hl, r⟩ := gcVals_ok (L := L) h1
      refine .tuple _ _ (by simpa using hl) fun i v v' hv hv' => ?_
      have := r i v v' (by simpa using hv) (by simpa using hv') []
      simpa using this
    · cases h
  · obtain ⟨_, r⟩ := gcVal_ok (L := L) h
    have := r []
    simpa using this

open Classical in
/-- What a function with a body does, its rubbish cleared, is its contract. -/
noncomputable def gcC (C : Ctab) (S : SFunc) (quiet : Bool) : Contract :=
  { quiet := quiet
    fn := fun args σ =>
      if args.length ≤ S.ntmps then
        match evFn C S args σ with
        | some (v0, σ0) =>
          match gcTop σ.length v0 with
          | some (v, ids) =>
            if h : ∃ σ', Cleared σ σ0 ids σ' ∧ (quiet = true → ∃ τ, σ' = σ ++ τ) then some (v, Classical.choose h) else none
          | none => none
        | none => none
      else none }

theorem Cleared.unique {σ σ0 σ1 σ2 : Heap} {ids : List Nat} (a : Cleared σ σ0 ids σ1) (b : Cleared σ σ0 ids σ2) : σ1 = σ2 := a.eq.trans b.eq.symm

theorem simOk_gc {P : Program} {C : Ctab} (hm : P.follows .mixedOrders = true) (hC : CtabOk P C) {f : FuncId} {fn : Func} {S : SFunc} (q : Bool) (hf : P.funcs[f]? = some fn)
    (hcall : ∀ args w, (callFunc f args).run P w = .ok (.enter f args) w) (hS : resolveFn P fn = some S.strip) : SimOk P f (gcC C S q) := by
  have key : ∀ args σ v σ', (gcC C S q).fn args σ = some (v, σ') → args.length ≤ S.ntmps ∧ ∃ v0 σ0 ids, evFn C S args σ = some (v0, σ0) ∧ gcTop σ.length v0 = some (v, ids) ∧ Cleared σ σ0 ids σ' ∧ (q = true → ∃ τ, σ' = σ ++ τ) := by
    intro args σ v σ' h
    unfold gcC at h
    dsimp only at h
    split at h
    · rename_i hn
      split at h
      · rename_i v0 σ0 he
        split at h
        · rename_i v1 ids hg
          split at h
          · rename_i hx
            cases h
            have := Classical.choose_spec hx
            exact ⟨hn, v0, σ0, ids, he, hg, this.1, this.2⟩
          · cases h
        · cases h
      · cases h
    · cases h
  refine ⟨fun args σ v σ' h β w cargs hok ha => ?_, fun hq args σ v σ' h => ?_⟩
  · obtain ⟨hn, v0, σ0, ids, he, hg, hc, _⟩ := key args σ v σ' h
    refine .inr (.inr ⟨f, cargs, w, hcall cargs w, (evFn_sound hm hC hf hS hn he hok ha).mono fun e w' ⟨c, h1, h2⟩ => ⟨c, h1, ?_⟩⟩)
    refine h2.clear hok hc ?_
    have := gcTop_ok (L := σ0.length) hg
    rwa [hc.length]
  · obtain ⟨hn, v0, σ0, ids, he, hg, hc, hτ⟩ := key args σ v σ' h
    exact hτ hq

theorem ret_of_ev_gc {C : Ctab} {S : SFunc} {args : List Value} {σ : Heap} {Q : Value → Heap → Prop} {q : Bool} (hn : args.length ≤ S.ntmps)
    (h : Ev C S.body (argFrame 0 args) σ (atEnd S.results fun v0 σ0 => ∃ v ids σ', gcTop σ.length v0 = some (v, ids) ∧ Cleared σ σ0 ids σ' ∧ (q = true → ∃ τ, σ' = σ ++ τ) ∧ Q v σ')) : Ret (gcC C S q) args σ Q := by
  unfold Ev at h
  unfold Ret
  obtain ⟨o, F, σ0, h1, h2⟩ := h
  have key : ∃ v0 v ids σ', evFn C S args σ = some (v0, σ0) ∧ gcTop σ.length v0 = some (v, ids) ∧ Cleared σ σ0 ids σ' ∧ (q = true → ∃ τ, σ' = σ ++ τ) ∧ Q v σ' := by
    cases o with
    | normal => obtain ⟨v0, h3, v, ids, σ', h4⟩ := h2; exact ⟨v0, v, ids, σ', by simp [evFn, h1, h3], h4⟩
    | ret => obtain ⟨v0, h3, v, ids, σ', h4⟩ := h2; exact ⟨v0, v, ids, σ', by simp [evFn, h1, h3], h4⟩
    | exit id => exact h2.elim
  obtain ⟨v0, v, ids, σ', h3, h4, h5, h6, h7⟩ := key
  have hx : ∃ σ', Cleared σ σ0 ids σ' ∧ (q = true → ∃ τ, σ' = σ ++ τ) := ⟨σ', h5, h6⟩
  refine ⟨v, σ', ?_, h7⟩
  unfold gcC
  dsimp only
  rw [if_pos hn, h3]
  dsimp only
  rw [h4]
  dsimp only
  rw [dif_pos hx, (Classical.choose_spec hx).1.unique h5]

/-- Nothing new is kept, nothing old was written. -/
theorem Cleared.none_ {σ τ : Heap} : Cleared σ (σ ++ τ) [] σ :=
  { le := by simp, eq := by simp, ge := (fun i h => by cases h), lt := (fun i h => by cases h), nd := List.nodup_nil, new := (fun i h => by cases h), old := fun o ho => .inl (List.getElem?_append_left ho) }

/-- Some new objects are kept, nothing old was written. -/
theorem Cleared.some_ {σ τ objs : Heap} {ids : List Nat} (h : ids.map (fun i => τ[i]?) = objs.map some) (hn : ids.Nodup) (hc : objs.all allConst = true) :
    Cleared σ (σ ++ τ) (ids.map (fun i => σ.length + i)) (σ ++ objs) := by
  have get : ∀ i : Nat, (σ ++ τ)[σ.length + i]? = τ[i]? := fun i => by rw [List.getElem?_append_right (by omega)]; congr 1; omega
  have hlt : ∀ (ids : List Nat) (objs : Heap), ids.map (fun i => τ[i]?) = objs.map some → ∀ i ∈ ids, i < τ.length ∧ ∃ obj ∈ objs, τ[i]? = some obj := by
    intro ids
    induction ids with
    | nil => intro objs _ i hi; cases hi
    | cons a l ih =>
      intro objs h i hi
      cases objs with
      | nil => simp at h
      | cons o os =>
        simp only [List.map_cons, List.cons.injEq] at h
        rcases List.mem_cons.1 hi with rfl | hi
        · exact ⟨(List.getElem?_eq_some_iff.1 h.1).1, o, by simp, h.1⟩
        · obtain ⟨h1, obj, h2, h3⟩ := ih os h.2 i hi
          exact ⟨h1, obj, by simp [h2], h3⟩
  refine ⟨by simp, ?_, ?_, ?_, ?_, ?_, fun o ho => .inl (List.getElem?_append_left ho)⟩
  · rw [List.take_left' rfl]
    congr 1
    rw [List.filterMap_map]
    have : ((fun i => (σ ++ τ)[i]?) ∘ fun i => σ.length + i) = fun i => τ[i]? := by funext i; exact get i
    rw [this]
    have h2 : ids.filterMap (fun i => τ[i]?) = (ids.map (fun i => τ[i]?)).filterMap id := by rw [List.filterMap_map]; rfl
    rw [h2, h, List.filterMap_map]
    simp
  · intro i hi; obtain ⟨j, _, rfl⟩ := List.mem_map.1 hi; omega
  · intro i hi; obtain ⟨j, hj, rfl⟩ := List.mem_map.1 hi; have := (hlt ids objs h j hj).1; simp; omega
  · exact List.Pairwise.map _ (fun a b (hab : a ≠ b) => by omega) hn
  · intro i hi obj ho
    obtain ⟨j, hj, rfl⟩ := List.mem_map.1 hi
    obtain ⟨_, o, h1, h2⟩ := hlt ids objs h j hj
    rw [get, h2] at ho; cases ho
    exact List.all_eq_true.1 hc _ h1

end Go.Abs
