/- The abstract machine: a row's start and end. Conditions: as at each theorem. -/
import Derived.Test.YtnibmlgdnhiglaaWvD9
import Derived.ProofKit
namespace Go.Abs
open Go.ChangeShapes Go.WideShapes Go.ChangeAt Go.RowKit

def AllRo (σ : Heap) : Prop := ∀ (o : Nat) (obj : AObj), σ[o]? = some obj → obj.rw = false

theorem injOk_nil (w : World) : InjOk (fun _ => none) [] w := { dom := (fun _ _ h => by cases h), obj := (fun o obj s h => by simp at h), inj := (fun o o' obj s s' h => by simp at h) }
theorem allRo_nil : AllRo [] := fun o obj h => by simp at h

/-- A slice of the world that tells xs. -/
def Slc {α : Type} (W : World) (mk : α → Value) (v : Value) (xs : List α) : Prop :=
  (v = .slice none 0 0 ∧ xs = []) ∨ ∃ a cap, v = .slice (some a) xs.length cap ∧ xs.length ≤ cap ∧ cap ≤ maxLen ∧ ∀ (i : Nat) (x : α), xs[i]? = some x → W.cell? (a.add i) = some (mk x)

theorem add_obj {β : Inj} {σ : Heap} {W : World} (h : InjOk β σ W) (hro : AllRo σ) (obj : AObj) (hobj : obj.rw = false) :
    InjOk β (σ ++ [obj]) W ∧ AllRo (σ ++ [obj]) ∧ Later β σ β (σ ++ [obj]) := by
  have hlat : Later β σ β (σ ++ [obj]) := ⟨fun o ob ho => by
    have hlt : o < σ.length := (List.getElem?_eq_some_iff.1 ho).1
    exact ⟨ob, by rw [List.getElem?_append_left hlt]; exact ho, rfl, rfl, Nat.le_refl _, fun _ => rfl, fun _ => rfl⟩⟩
  have hro' : AllRo (σ ++ [obj]) := by
    intro o ob ho
    rcases Nat.lt_or_ge o σ.length with hlt | hge
    · rw [List.getElem?_append_left hlt] at ho; exact hro o ob ho
    · rw [List.getElem?_append_right hge] at ho
      cases hk : o - σ.length with
      | zero => rw [hk] at ho; simp at ho; rw [← ho]; exact hobj
      | succ k => rw [hk] at ho; simp at ho
  refine ⟨⟨fun o s hs => by have := h.dom o s hs; simp; omega, fun o ob s ho hs => ?_, fun o o' ob s s' ho hrw => ?_⟩, hro', hlat⟩
  · have hlt := h.dom o s hs
    rw [List.getElem?_append_left hlt] at ho
    obtain ⟨c, e, fz, h1, h2, h3⟩ := h.obj o ob s ho hs
    exact ⟨c, e, fz, h1, fun j v hj => by obtain ⟨u, hu, hr⟩ := h2 j v hj; exact ⟨u, hu, hr.later hlat⟩, h3⟩
  · rw [hro' o ob ho] at hrw; cases hrw

theorem add_spot {β : Inj} {σ : Heap} {W : World} (h : InjOk β σ W) (hro : AllRo σ) (obj : AObj) (hobj : obj.rw = false) (s : Spot)
    (hs : ∃ (c : Array Value) (e : TypeId) (fz : Nat × Nat), W.heap[s.blk]? = some (.cells c e fz) ∧ ∀ (j : Nat) (v : Value), obj.cells[j]? = some v → ∃ u, c[s.base + j]? = some u ∧ constOk v = true ∧ v = u) :
    InjOk (fun o => if o = σ.length then some s else β o) (σ ++ [obj]) W ∧ AllRo (σ ++ [obj]) ∧ Later β σ (fun o => if o = σ.length then some s else β o) (σ ++ [obj]) := by
  obtain ⟨_, hro', _⟩ := add_obj h hro obj hobj
  have hlat : Later β σ (fun o => if o = σ.length then some s else β o) (σ ++ [obj]) := ⟨fun o ob ho => by
    have hlt : o < σ.length := (List.getElem?_eq_some_iff.1 ho).1
    exact ⟨ob, by rw [List.getElem?_append_left hlt]; exact ho, rfl, rfl, Nat.le_refl _, fun _ => if_neg (by omega), fun _ => rfl⟩⟩
  refine ⟨⟨fun o s' hs' => ?_, fun o ob s' ho hs' => ?_, fun o o' ob s s' ho hrw => ?_⟩, hro', hlat⟩
  · split at hs'
    · rename_i he; subst he; simp
    · have := h.dom o s' hs'; simp; omega
  · split at hs'
    · rename_i he
      subst he
      cases hs'
      simp at ho
      subst ho
      obtain ⟨c, e, fz, h1, h2⟩ := hs
      refine ⟨c, e, fz, h1, fun j v hj => ?_, fun hc => by rw [hobj] at hc; cases hc⟩
      obtain ⟨u, hu, hk, rfl⟩ := h2 j v hj
      exact ⟨v, hu, vrel_const hk⟩
    · have hlt := h.dom o s' hs'
      rw [List.getElem?_append_left hlt] at ho
      obtain ⟨c, e, fz, h1, h2, h3⟩ := h.obj o ob s' ho hs'
      exact ⟨c, e, fz, h1, fun j v hj => by obtain ⟨u, hu, hr⟩ := h2 j v hj; exact ⟨u, hu, hr.later hlat⟩, h3⟩
  · rw [hro' o ob ho] at hrw; cases hrw

/-- A slice of the world becomes a row that may be read. -/
theorem add_row {α : Type} {mk : α → Value} (hmk : ∀ x, constOk (mk x) = true) {β : Inj} {σ : Heap} {W : World} (h : InjOk β σ W) (hro : AllRo σ) {v : Value} {xs : List α} (hv : Slc W mk v xs) :
    ∃ β' τ av, InjOk β' (σ ++ τ) W ∧ AllRo (σ ++ τ) ∧ Later β σ β' (σ ++ τ) ∧ VRel β' (σ ++ τ) av v ∧ Row (σ ++ τ) 1 av xs.length (xs.map mk) := by
  rcases hv with ⟨rfl, rfl⟩ | ⟨a, cap, rfl, hl, hm, hcell⟩
  · refine ⟨β, [], .slice none 0 0, by simpa using h, by simpa using hro, by simpa using Later.refl β σ, .slNil _ _, ⟨rfl, rfl, rfl⟩⟩
  · cases xs with
    | nil =>
      obtain ⟨h1, h2, h3⟩ := add_obj h hro ⟨[dead], 1, false⟩ rfl
      refine ⟨β, [⟨[dead], 1, false⟩], .slice (some ⟨σ.length, 1, none⟩) 0 0, h1, h2, h3, ?_, ?_⟩
      · refine .sl _ ⟨[dead], 1, false⟩ (by simp) 0 0 a cap (fun _ => by simp) (Nat.zero_le _) fun _ _ hc => ?_
        simp at hc
      · exact ⟨rfl, Nat.le_refl _, ⟨[dead], 1, false⟩, rowAt_mk (by simp) rfl (by simp) (by omega), by simp⟩
    | cons x0 xs =>
      have c0 := hcell 0 x0 rfl
      have hspot : a.spot = none := by
        unfold World.cell? at c0
        split at c0
        · rename_i c e fz hb
          cases hs : a.spot with
          | none => rfl
          | some n => simp [Addr.add, hs] at c0
        · cases c0
      have hb : ∃ c e fz, W.heap[a.block]? = some (.cells c e fz) := by
        unfold World.cell? at c0
        split at c0
        · rename_i c e fz hb; exact ⟨c, e, fz, by simpa [Addr.add] using hb⟩
        · cases c0
      obtain ⟨c, e, fz, hb⟩ := hb
      have hat : ∀ (j : Nat) (x : α), (x0 :: xs)[j]? = some x → c[a.off + j]? = some (mk x) := by
        intro j x hj
        have := hcell j x hj
        unfold World.cell? Addr.add at this
        by_cases hj0 : j = 0
        · subst hj0; simpa [hb, hspot] using this
        · simpa [hb, hj0] using this
      obtain ⟨h1, h2, h3⟩ := add_spot h hro ⟨(x0 :: xs).map mk, 1, false⟩ rfl ⟨a.block, a.off, 0⟩ ⟨c, e, fz, hb, fun j v hj => by
        rw [List.getElem?_map, Option.map_eq_some_iff] at hj
        obtain ⟨x, hx, rfl⟩ := hj
        exact ⟨_, hat j x hx, hmk x, rfl⟩⟩
      refine ⟨_, [⟨(x0 :: xs).map mk, 1, false⟩], .slice (some ⟨σ.length, 0, none⟩) (x0 :: xs).length (x0 :: xs).length, h1, h2, h3, ?_, ?_⟩
      · refine .sl _ ⟨(x0 :: xs).map mk, 1, false⟩ (by simp) _ _ a cap (fun _ => by simp) hl fun _ _ _ => ?_
        refine ⟨⟨a.block, a.off, 0⟩, if_pos rfl, ?_, fun hc => by cases hc⟩
        obtain ⟨b, off, spot⟩ := a
        dsimp only at hspot ⊢
        subst hspot
        rfl
      · exact Row.whole (rw_ := false) (by simp) (by omega) (by simp)

/-- The call of a law, from a world of which nothing may be written. -/
theorem calls_of_ret {P : Program} {f : FuncId} {c : Contract} (hs : SimOk P f c) (hcall : ∀ args w, (callFunc f args).run P w = .ok (.enter f args) w) {β : Inj} {σ : Heap} {W : World} {as : List Value} {args : Array Value}
    (hok : InjOk β σ W) (hro : AllRo σ) (ha : LRel β σ as args.toList) (hr : Ret c as σ fun v _ => v = .bool true) :
    Calls P f args W fun e W' => e = .returned (.bool true) ∧ Below W.heap.size W W' := by
  unfold Ret at hr
  obtain ⟨v, σ', h1, rfl⟩ := hr
  have hd := hs.sim _ _ _ _ h1 β W args hok ha
  rw [hcall] at hd
  rcases hd with ⟨c, w', h, _⟩ | ⟨w', h, _⟩ | ⟨f', args', w', h, hc⟩
  · cases h
  · cases h
  · cases h
    refine hc.mono fun e W' ⟨c, he, β', ht, hv⟩ => ?_
    cases hv
    refine ⟨he, ht.os, ht.tape, ht.output, ht.size, fun k hk => ht.keep k hk ?_⟩
    rintro ⟨o, obj, s, ho, hrw, _⟩
    rw [hro o obj ho] at hrw; cases hrw

section
variable {H : Type} {enc : TypeId × Value → H} {P : Program}

theorem below_trodAll (hl : laidOutB P = true) {W W' : World} (hb : Below W.heap.size W W') : ∀ {ts : List TypeId} {vs : List Value} {ds : List (DataW H)} {ps : List MemPlace}, (∀ t ∈ ts, P.readableRec t = true ∧ t < P.types.size) →
    DataW.TrodAll enc P W 0 (fun _ => true) true ts vs ds ps → DataW.TrodAll enc P W' 0 (fun b => decide (b < W.heap.size)) true ts vs ds ps
  | [], _, _, _, _, h => by
    obtain ⟨rfl, rfl, rfl⟩ := trodAll_nil h
    exact rfl
  | t :: ts, _, _, _, ht, h => by
    obtain ⟨v, vs1, d, ds1, a, b, rfl, rfl, rfl, h1, h2⟩ := trodAll_cons h
    refine ⟨a, b, ?_, below_trodAll hl hb (fun t h => ht t (by simp [h])) h2, rfl⟩
    obtain ⟨fuel, hf⟩ := h1
    exact Below.trod hl (ht t (by simp)).1 (ht t (by simp)).2 ⟨fuel, hf⟩ hb (DataW.trod_lt _ _ _ _ hf)

/-- A row that returns true and leaves its arguments. -/
theorem row_post {f : Func} {s : ChangeSpec} {fresh handsOn : Bool} {W W' : World} {args : Array Value} {ds gs : List (DataW H)} {before : List MemPlace} {rt : TypeId}
    (hl : laidOutB P = true) (hp : ∀ t ∈ f.params.toList, P.readableRec t = true ∧ t < P.types.size) (hv : s.vars = []) (hrt : f.resultTypes = #[rt]) (hb : P.underlying rt = some .bool)
    (hfn : s.fn H (ds ++ gs) = { results := [.lit (.bool true)], args := ds, vars := [] })
    (hW : DataW.Whole enc P f.params.toList s.vars false W args.toList ds gs before) (hB : Below W.heap.size W W') :
    s.post enc P f false fresh handsOn false W args (.bool true) W' := by
  have hlt := hW.lt
  have hW' := hW
  obtain ⟨p, q, h1, h2, rfl, h3, h4⟩ := hW'
  refine ⟨ds, gs, p ++ q, [], p, [], hW, ?_, ?_, ?_, hB.frame _, fun h => by cases h⟩
  · rw [hfn, hrt]
    exact trodAll_mk1 ⟨1, by simp [DataW.trod, hb, Value.cells]⟩
  · rw [hfn]
    exact below_trodAll hl hB hp h1
  · rw [hfn, hv]; rfl

end
end Go.Abs
