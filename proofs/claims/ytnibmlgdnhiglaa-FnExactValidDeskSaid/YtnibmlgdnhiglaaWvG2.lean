/- The abstract machine: the arguments of a row, by the kinds of their cells. Conditions: as at each theorem. -/
import Derived.Test.YtnibmlgdnhiglaaWvG1
namespace Go.Abs
open Go.ChangeShapes Go.WideShapes Go.ChangeAt Go.RowKit

inductive CK where
  | int (k : IntKind) | bool | float (k : FloatKind) | str | rowI (k : IntKind) | rowF (k : FloatKind) | rowB | rowS
  deriving DecidableEq

def inK (k : IntKind) (n : Int) : Prop := k.min ≤ n ∧ n ≤ k.max

/-- What a cell of the world is. -/
def CK.is (W : World) : CK → Value → Prop
  | .int k, v => ∃ n, v = .int k n ∧ inK k n
  | .bool, v => ∃ b, v = .bool b
  | .float k, v => ∃ b, v = .float k b ∧ (Lit.float k b).wf = true
  | .str, v => ∃ s, v = .string s ∧ s.size ≤ maxLen
  | .rowI k, v => ∃ xs : List Int, Slc W (.int k) v xs ∧ ∀ x ∈ xs, inK k x
  | .rowF k, v => ∃ xs : List Nat, Slc W (.float k) v xs ∧ ∀ x ∈ xs, (Lit.float k x).wf = true
  | .rowB, v => ∃ xs : List Bool, Slc W .bool v xs
  | .rowS, v => ∃ xs : List ByteArray, Slc W .string v xs ∧ ∀ x ∈ xs, x.size ≤ maxLen

/-- What it is for the abstract machine. -/
def CK.abs (σ : Heap) : CK → Value → Prop
  | .int k, v => ∃ n, v = .int k n ∧ inK k n
  | .bool, v => ∃ b, v = .bool b
  | .float k, v => ∃ b, v = .float k b ∧ (Lit.float k b).wf = true
  | .str, v => ∃ s, v = .string s ∧ s.size ≤ maxLen
  | .rowI k, v => ∃ xs : List Int, Row σ 1 v xs.length (xs.map (.int k)) ∧ xs.length ≤ maxLen ∧ ∀ x ∈ xs, inK k x
  | .rowF k, v => ∃ xs : List Nat, Row σ 1 v xs.length (xs.map (.float k)) ∧ xs.length ≤ maxLen ∧ ∀ x ∈ xs, (Lit.float k x).wf = true
  | .rowB, v => ∃ xs : List Bool, Row σ 1 v xs.length (xs.map .bool) ∧ xs.length ≤ maxLen
  | .rowS, v => ∃ xs : List ByteArray, Row σ 1 v xs.length (xs.map .string) ∧ xs.length ≤ maxLen ∧ ∀ x ∈ xs, x.size ≤ maxLen

theorem CK.abs_more {σ : Heap} (τ : Heap) {k : CK} {v : Value} (h : k.abs σ v) : k.abs (σ ++ τ) v := by
  cases k with
  | rowI k => obtain ⟨xs, h1, h2⟩ := h; exact ⟨xs, h1.ext τ, h2⟩
  | rowF k => obtain ⟨xs, h1, h2⟩ := h; exact ⟨xs, h1.ext τ, h2⟩
  | rowB => obtain ⟨xs, h1, h2⟩ := h; exact ⟨xs, h1.ext τ, h2⟩
  | rowS => obtain ⟨xs, h1, h2⟩ := h; exact ⟨xs, h1.ext τ, h2⟩
  | _ => exact h

theorem Slc.len {α : Type} {W : World} {mk : α → Value} {v : Value} {xs : List α} (h : Slc W mk v xs) : xs.length ≤ maxLen := by
  rcases h with ⟨_, rfl⟩ | ⟨a, cap, _, h1, h2, _⟩
  · simp
  · omega

/-- One cell more. -/
theorem add_cell {β : Inj} {σ : Heap} {W : World} (h : InjOk β σ W) (hro : AllRo σ) {k : CK} {v : Value} (hv : k.is W v) :
    ∃ β' τ av, InjOk β' (σ ++ τ) W ∧ AllRo (σ ++ τ) ∧ Later β σ β' (σ ++ τ) ∧ VRel β' (σ ++ τ) av v ∧ k.abs (σ ++ τ) av := by
  have stay : ∀ {av : Value}, VRel β σ av v → k.abs σ av → ∃ β' τ av, InjOk β' (σ ++ τ) W ∧ AllRo (σ ++ τ) ∧ Later β σ β' (σ ++ τ) ∧ VRel β' (σ ++ τ) av v ∧ k.abs (σ ++ τ) av := by
    intro av h1 h2
    exact ⟨β, [], av, by simpa using h, by simpa using hro, by simpa using Later.refl β σ, by simpa using h1, by simpa using h2⟩
  cases k with
  | int k => obtain ⟨n, rfl, hn⟩ := hv; exact stay (.int k n) ⟨n, rfl, hn⟩
  | bool => obtain ⟨n, rfl⟩ := hv; exact stay (.bool n) ⟨n, rfl⟩
  | float k => obtain ⟨n, rfl, hn⟩ := hv; exact stay (.float (.inl rfl)) ⟨n, rfl, hn⟩
  | str => obtain ⟨n, rfl, hn⟩ := hv; exact stay (.string n) ⟨n, rfl, hn⟩
  | rowI k => obtain ⟨xs, h1, h2⟩ := hv; obtain ⟨β', τ, av, a, b, c, d, e⟩ := add_row (fun _ => rfl) h hro h1; exact ⟨β', τ, av, a, b, c, d, xs, e, h1.len, h2⟩
  | rowF k => obtain ⟨xs, h1, h2⟩ := hv; obtain ⟨β', τ, av, a, b, c, d, e⟩ := add_row (fun _ => rfl) h hro h1; exact ⟨β', τ, av, a, b, c, d, xs, e, h1.len, h2⟩
  | rowB => obtain ⟨xs, h1⟩ := hv; obtain ⟨β', τ, av, a, b, c, d, e⟩ := add_row (fun _ => rfl) h hro h1; exact ⟨β', τ, av, a, b, c, d, xs, e, h1.len⟩
  | rowS => obtain ⟨xs, h1, h2⟩ := hv; obtain ⟨β', τ, av, a, b, c, d, e⟩ := add_row (fun _ => rfl) h hro h1; exact ⟨β', τ, av, a, b, c, d, xs, e, h1.len, h2⟩

def isAll (W : World) : List CK → List Value → Prop
  | [], [] => True
  | k :: ks, v :: vs => k.is W v ∧ isAll W ks vs
  | _, _ => False
def absAll (σ : Heap) : List CK → List Value → Prop
  | [], [] => True
  | k :: ks, v :: vs => k.abs σ v ∧ absAll σ ks vs
  | _, _ => False

theorem absAll_cons {σ : Heap} {k : CK} {ks : List CK} {vs : List Value} (h : absAll σ (k :: ks) vs) : ∃ v vs', vs = v :: vs' ∧ k.abs σ v ∧ absAll σ ks vs' := by
  cases vs with
  | nil => exact h.elim
  | cons v vs => exact ⟨v, vs, rfl, h.1, h.2⟩
theorem absAll_nil {σ : Heap} {vs : List Value} (h : absAll σ [] vs) : vs = [] := by
  cases vs with
  | nil => rfl
  | cons v vs => exact h.elim
theorem maxLen_eq : maxLen = 9223372036854775807 := by decide +kernel

theorem absAll_more {σ : Heap} (τ : Heap) : ∀ {ks : List CK} {vs : List Value}, absAll σ ks vs → absAll (σ ++ τ) ks vs
  | [], [], h => h
  | _ :: _, _ :: _, h => ⟨CK.abs_more τ h.1, absAll_more τ h.2⟩
  | [], _ :: _, h => h
  | _ :: _, [], h => h

theorem LRel.later {β β' : Inj} {σ σ' : Heap} (L : Later β σ β' σ') {xs cs : List Value} (h : LRel β σ xs cs) : LRel β' σ' xs cs := ⟨h.1, fun i v c hv hc => (h.2 i v c hv hc).later L⟩
theorem LRel.cons {β : Inj} {σ : Heap} {x c : Value} {xs cs : List Value} (h : VRel β σ x c) (hr : LRel β σ xs cs) : LRel β σ (x :: xs) (c :: cs) := by
  refine ⟨by simp [hr.1], fun i v u hv hu => ?_⟩
  cases i with
  | zero => simp at hv hu; subst hv; subst hu; exact h
  | succ i => exact hr.2 i v u (by simpa using hv) (by simpa using hu)
theorem LRel.nil {β : Inj} {σ : Heap} : LRel β σ [] [] := ⟨rfl, fun i v u hv => by simp at hv⟩

theorem add_cells {W : World} : ∀ {ks : List CK} {vs : List Value} {β : Inj} {σ : Heap}, InjOk β σ W → AllRo σ → isAll W ks vs →
    ∃ β' τ avs, InjOk β' (σ ++ τ) W ∧ AllRo (σ ++ τ) ∧ Later β σ β' (σ ++ τ) ∧ LRel β' (σ ++ τ) avs vs ∧ absAll (σ ++ τ) ks avs
  | [], [], β, σ, h, hro, _ => ⟨β, [], [], by simpa using h, by simpa using hro, by simpa using Later.refl β σ, LRel.nil, trivial⟩
  | k :: ks, v :: vs, β, σ, h, hro, hv => by
    obtain ⟨β1, τ1, a1, h1, h2, h3, h4, h5⟩ := add_cell h hro hv.1
    obtain ⟨β2, τ2, a2, g1, g2, g3, g4, g5⟩ := add_cells h1 h2 hv.2
    rw [List.append_assoc] at g1 g2 g3 g4 g5
    refine ⟨β2, τ1 ++ τ2, a1 :: a2, g1, g2, h3.trans g3, LRel.cons (h4.later g3) g4, ?_, g5⟩
    rw [← List.append_assoc]; exact CK.abs_more τ2 h5
  | [], _ :: _, _, _, _, _, h => h.elim
  | _ :: _, [], _, _, _, _, h => h.elim

/-! ### Kinds out of types -/

def rowKind (u : Option TypeDesc) : Option CK :=
  match u with
  | some (.int k) => some (.rowI k)
  | some (.float k) => some (.rowF k)
  | some .bool => some .rowB
  | some .string => some .rowS
  | _ => none

def fieldsK (P : Program) (K : TypeId → Option (List CK)) : List Field → Nat → Option (List CK)
  | [], _ => some []
  | f :: fs, off =>
    if f.offset = off then
      match K f.type with
      | some ks => if ks.length = P.cellsOf f.type then (fieldsK P K fs (off + ks.length)).map (ks ++ ·) else none
      | none => none
    else none

def kindsOf (P : Program) : Nat → TypeId → Option (List CK)
  | 0, _ => none
  | d + 1, t =>
    match P.underlying t with
    | some (.int k) => some [.int k]
    | some (.float k) => some [.float k]
    | some .bool => some [.bool]
    | some .string => some [.str]
    | some (.slice e) => if P.cellsOf e = 1 then (rowKind (P.underlying e)).map fun k => [k] else none
    | some (.struct fs) => match fieldsK P (kindsOf P d) fs.toList 0 with | some ks => if ks.length = P.cellsOf t then some ks else none | none => none
    | _ => none

section
variable {H : Type} {enc : TypeId × Value → H} {P : Program} {W : World} {base : Nat} {spare : Nat → Bool} {held : Bool}

theorem trod_float {t : TypeId} {k : FloatKind} {fuel : Nat} {cs : List Value} {x : DataW H × List MemPlace} (ht : P.underlying t = some (.float k)) (h : DataW.trod enc P W base spare held fuel t cs = some x) :
    ∃ b, cs = [.float k b] ∧ (Lit.float k b).wf = true := by
  cases fuel with
  | zero => simp [DataW.trod] at h
  | succ n =>
    unfold DataW.trod at h
    rw [ht] at h
    split at h <;> simp_all

theorem list_of {α : Type} {p : Nat → α → Prop} : ∀ {n : Nat}, (∀ i, i < n → ∃ x, p i x) → ∃ xs : List α, xs.length = n ∧ ∀ (i : Nat) (x : α), xs[i]? = some x → p i x
  | 0, _ => ⟨[], rfl, fun i x h => by simp at h⟩
  | n + 1, h => by
    obtain ⟨xs, h1, h2⟩ := list_of (n := n) (fun i hi => h i (by omega))
    obtain ⟨y, hy⟩ := h n (by omega)
    refine ⟨xs ++ [y], by simp [h1], fun i x hx => ?_⟩
    rcases Nat.lt_or_ge i n with hlt | hge
    · rw [List.getElem?_append_left (by omega)] at hx; exact h2 i x hx
    · rw [List.getElem?_append_right (by omega), h1] at hx
      cases hk : i - n with
      | zero => rw [hk] at hx; simp at hx; subst hx; rw [show i = n by omega]; exact hy
      | succ k => rw [hk] at hx; simp at hx

theorem slc_of {α : Type} {mk : α → Value} {q : α → Prop} {t e : TypeId} {fuel : Nat} {cs : List Value} {x : DataW H × List MemPlace} (ht : P.underlying t = some (.slice e)) (hc : P.cellsOf e = 1)
    (he : ∀ (n : Nat) (cs : List Value) (x : DataW H × List MemPlace), DataW.trod enc P W base spare held n e cs = some x → ∃ b, cs = [mk b] ∧ q b)
    (h : DataW.trod enc P W base spare held fuel t cs = some x) : ∃ v xs, cs = [v] ∧ Slc W mk v xs ∧ ∀ b ∈ xs, q b := by
  rcases DataW.trod_slice ht h with ⟨rfl, _⟩ | ⟨a, len, cap, elems, rest, n, _, rfl, _, hb, hl, hm, hlen, hel, _, _⟩
  · exact ⟨_, [], rfl, .inl ⟨rfl, rfl⟩, fun b hb => by cases hb⟩
  · have each : ∀ i, i < len → ∃ b, W.cell? (a.add i) = some (mk b) ∧ q b := by
      intro i hi
      have h1 := hel i hi
      rw [List.getElem?_eq_getElem (by omega), hc, Nat.mul_one, Option.bind_eq_some_iff] at h1
      obtain ⟨cs', h2, h3⟩ := h1
      obtain ⟨b, rfl, hq⟩ := he _ _ _ h3
      refine ⟨b, ?_, hq⟩
      unfold World.cells? at h2
      split at h2
      · have hr : List.range 1 = [0] := rfl
        rw [hr] at h2
        simp only [List.mapM_cons, List.mapM_nil] at h2
        cases hw : W.cell? ((a.add i).add 0) with
        | none => rw [hw] at h2; cases h2
        | some u =>
          rw [hw] at h2
          have : (a.add i).add 0 = a.add i := rfl
          rw [this] at hw
          cases h2
          exact hw
      · cases h2
    obtain ⟨xs, h1, h2⟩ := list_of (p := fun i b => W.cell? (a.add i) = some (mk b) ∧ q b) each
    subst h1
    exact ⟨_, xs, rfl, .inr ⟨a, cap, rfl, hl, hm, fun i x hx => (h2 i x hx).1⟩, fun b hb => by
      obtain ⟨i, hi⟩ := List.mem_iff_getElem?.1 hb
      exact (h2 i b hi).2⟩

theorem isAll_append {W : World} : ∀ {ks ks' : List CK} {vs vs' : List Value}, isAll W ks vs → isAll W ks' vs' → isAll W (ks ++ ks') (vs ++ vs')
  | [], _, [], _, _, h => h
  | _ :: _, _, _ :: _, _, h, h' => ⟨h.1, isAll_append h.2 h'⟩
  | [], _, _ :: _, _, h, _ => h.elim
  | _ :: _, _, [], _, h, _ => h.elim

theorem isAll_length {W : World} : ∀ {ks : List CK} {vs : List Value}, isAll W ks vs → vs.length = ks.length
  | [], [], _ => rfl
  | _ :: _, _ :: _, h => by simp [isAll_length h.2]
  | [], _ :: _, h => h.elim
  | _ :: _, [], h => h.elim

theorem wf_in {k : IntKind} {n : Int} (h : (Lit.int k n).wf = true) : inK k n := by
  simp only [Lit.wf, Bool.and_eq_true, decide_eq_true_eq] at h
  exact h

theorem fields_sound {K : TypeId → Option (List CK)} {n : Nat} {cs : List Value} (hK : ∀ t ks, K t = some ks → ∀ cs x, DataW.trod enc P W base spare held n t cs = some x → isAll W ks cs) :
    ∀ {fs : List Field} {off : Nat} {ks : List CK}, fieldsK P K fs off = some ks → (∀ f ∈ fs, ∃ x, DataW.trod enc P W base spare held n f.type ((cs.drop f.offset).take (P.cellsOf f.type)) = some x) → isAll W ks ((cs.drop off).take ks.length)
  | [], off, ks, h, _ => by cases h; simp [isAll]
  | f :: fs, off, ks, h, hx => by
    unfold fieldsK at h
    split at h
    · rename_i ho
      split at h
      · rename_i k1 hk
        split at h
        · rename_i hl
          rw [Option.map_eq_some_iff] at h
          obtain ⟨k2, h2, rfl⟩ := h
          obtain ⟨x, hx1⟩ := hx f (by simp)
          have a1 := hK _ _ hk _ _ hx1
          have a2 := fields_sound hK h2 (fun g hg => hx g (by simp [hg]))
          rw [ho, ← hl] at a1
          have := isAll_append a1 a2
          rw [← List.drop_drop, ← List.take_add] at this
          rwa [List.length_append]
        · cases h
      · cases h
    · cases h

theorem kinds_sound : ∀ (d : Nat) (t : TypeId) (ks : List CK), kindsOf P d t = some ks → ∀ (fuel : Nat) (cs : List Value) (x : DataW H × List MemPlace), DataW.trod enc P W base spare held fuel t cs = some x → isAll W ks cs
  | 0, t, ks, h, _, _, _, _ => by cases h
  | d + 1, t, ks, h, fuel, cs, x, hx => by
    unfold kindsOf at h
    split at h
    · rename_i k hu
      cases h
      obtain ⟨n, rfl, _, hw⟩ := DataW.trod_int hu hx
      exact ⟨⟨n, rfl, wf_in hw⟩, trivial⟩
    · rename_i k hu
      cases h
      obtain ⟨n, rfl, hw⟩ := trod_float hu hx
      exact ⟨⟨n, rfl, hw⟩, trivial⟩
    · rename_i hu
      cases h
      obtain ⟨n, rfl, _⟩ := DataW.trod_bool hu hx
      exact ⟨⟨n, rfl⟩, trivial⟩
    · rename_i hu
      cases h
      obtain ⟨n, rfl, _, hw⟩ := DataW.trod_string hu hx
      exact ⟨⟨n, rfl, hw⟩, trivial⟩
    · rename_i e hu
      split at h
      · rename_i hc
        rw [Option.map_eq_some_iff] at h
        obtain ⟨k, hk, rfl⟩ := h
        unfold rowKind at hk
        split at hk
        · rename_i k' he
          cases hk
          obtain ⟨v, xs, rfl, h1, h2⟩ := slc_of (mk := Value.int k') (q := inK k') hu hc (fun n cs x h => by obtain ⟨b, h1, _, h2⟩ := DataW.trod_int he h; exact ⟨b, h1, wf_in h2⟩) hx
          exact ⟨⟨xs, h1, h2⟩, trivial⟩
        · rename_i k' he
          cases hk
          obtain ⟨v, xs, rfl, h1, h2⟩ := slc_of (mk := Value.float k') (q := fun b => (Lit.float k' b).wf = true) hu hc (fun n cs x h => trod_float he h) hx
          exact ⟨⟨xs, h1, h2⟩, trivial⟩
        · rename_i he
          cases hk
          obtain ⟨v, xs, rfl, h1, h2⟩ := slc_of (mk := Value.bool) (q := fun _ => True) hu hc (fun n cs x h => by obtain ⟨b, h1, _⟩ := DataW.trod_bool he h; exact ⟨b, h1, trivial⟩) hx
          exact ⟨⟨xs, h1⟩, trivial⟩
        · rename_i he
          cases hk
          obtain ⟨v, xs, rfl, h1, h2⟩ := slc_of (mk := Value.string) (q := fun b => b.size ≤ maxLen) hu hc (fun n cs x h => by obtain ⟨b, h1, _, h2⟩ := DataW.trod_string he h; exact ⟨b, h1, h2⟩) hx
          exact ⟨⟨xs, h1, h2⟩, trivial⟩
        · cases hk
      · cases h
    · rename_i fs hu
      split at h
      · rename_i k1 hf
        split at h
        · rename_i hl
          cases h
          obtain ⟨xs, n, rfl, _, hlen, hxs, hat⟩ := DataW.trod_struct hu hx
          have := fields_sound (cs := cs) (n := n) (fun t ks hk cs x h => kinds_sound d t ks hk n cs x h) hf (fun f hf => by
            obtain ⟨i, hi⟩ := List.mem_iff_getElem?.1 hf
            have hlt : i < fs.size := by have := (List.getElem?_eq_some_iff.1 hi).1; simpa using this
            refine ⟨xs[i]'(by omega), ?_⟩
            rw [hat i f (by simpa using hi)]
            exact List.getElem?_eq_getElem _)
          rw [List.drop_zero, List.take_of_length_le (by omega)] at this
          exact this
        · cases h
      · cases h
    · cases h

/-- The outer form of an argument. -/
def isAgg (P : Program) (t : TypeId) : Bool := match P.underlying t with | some (.struct _) => true | _ => false

theorem outer_ok {t : TypeId} {v : Value} {d : Nat} {ks : List CK} (hk : kindsOf P d t = some ks) (h : Value.okWide P W .any base t v) : if isAgg P t = true then ∃ cs, v = .agg cs else cellOk v = true := by
  cases d with
  | zero => cases hk
  | succ d =>
    unfold kindsOf at hk
    unfold isAgg
    unfold Value.okWide Cell.okWide Cell.ok at h
    cases hu : P.underlying t with
    | none => rw [hu] at hk; cases hk
    | some u =>
      rw [hu] at hk h
      cases u with
      | struct fs => obtain ⟨cs, h1, _⟩ := h; simp only [if_true]; exact ⟨cs, h1⟩
      | int k => cases v <;> simp_all [cellOk]
      | float k => cases v <;> simp_all [cellOk]
      | bool => cases v <;> simp_all [cellOk]
      | string => cases v <;> simp_all [cellOk]
      | slice e => cases v <;> simp_all [cellOk]
      | _ => cases hk

/-- An argument for the abstract machine. -/
def argAbs (σ : Heap) (agg : Bool) (ks : List CK) (v : Value) : Prop := ∃ cs, absAll σ ks cs ∧ (if agg = true then v = .agg cs.toArray else cs = [v])
def argsAbs (σ : Heap) : List (Bool × List CK) → List Value → Prop
  | [], [] => True
  | (b, ks) :: l, v :: vs => argAbs σ b ks v ∧ argsAbs σ l vs
  | _, _ => False
def shapeOf (P : Program) (d : Nat) : List TypeId → Option (List (Bool × List CK))
  | [] => some []
  | t :: ts => match kindsOf P d t with | some ks => (shapeOf P d ts).map ((isAgg P t, ks) :: ·) | none => none

theorem argAbs_more {σ : Heap} (τ : Heap) {b : Bool} {ks : List CK} {v : Value} (h : argAbs σ b ks v) : argAbs (σ ++ τ) b ks v := by
  obtain ⟨cs, h1, h2⟩ := h; exact ⟨cs, absAll_more τ h1, h2⟩

theorem open_args {d : Nat} : ∀ {ts : List TypeId} {sh : List (Bool × List CK)} {vs : List Value} {ds : List (DataW H)} {ps : List MemPlace} {β : Inj} {σ : Heap}, shapeOf P d ts = some sh →
    (∀ (j : Nat) t v, ts[j]? = some t → vs[j]? = some v → Value.okWide P W .any base t v) → DataW.TrodAll enc P W 0 (fun _ => true) true ts vs ds ps → InjOk β σ W → AllRo σ →
    ∃ β' τ avs, InjOk β' (σ ++ τ) W ∧ AllRo (σ ++ τ) ∧ Later β σ β' (σ ++ τ) ∧ LRel β' (σ ++ τ) avs vs ∧ argsAbs (σ ++ τ) sh avs
  | [], sh, vs, ds, ps, β, σ, hs, _, h, hok, hro => by
    cases hs
    obtain ⟨rfl, rfl, rfl⟩ := trodAll_nil h
    exact ⟨β, [], [], by simpa using hok, by simpa using hro, by simpa using Later.refl β σ, LRel.nil, trivial⟩
  | t :: ts, sh, vs, ds, ps, β, σ, hs, hv, h, hok, hro => by
    unfold shapeOf at hs
    split at hs
    · rename_i ks hk
      rw [Option.map_eq_some_iff] at hs
      obtain ⟨sh', hs', rfl⟩ := hs
      obtain ⟨v, vs1, e, ds1, a, b, rfl, rfl, rfl, ⟨fuel, h1⟩, h2⟩ := trodAll_cons h
      have hall := kinds_sound _ _ _ hk _ _ _ h1
      obtain ⟨β1, τ1, cs, g1, g2, g3, g4, g5⟩ := add_cells hok hro hall
      obtain ⟨β2, τ2, avs, k1, k2, k3, k4, k5⟩ := open_args hs' (fun j t v h1 h2 => hv (j + 1) t v (by simpa using h1) (by simpa using h2)) h2 g1 g2
      rw [List.append_assoc] at k1 k2 k3 k4 k5
      have hout := outer_ok hk (hv 0 t v rfl rfl)
      have g5' : absAll (σ ++ (τ1 ++ τ2)) ks cs := by rw [← List.append_assoc]; exact absAll_more τ2 g5
      split at hout
      · rename_i hb
        obtain ⟨arr, rfl⟩ := hout
        refine ⟨β2, τ1 ++ τ2, .agg cs.toArray :: avs, k1, k2, g3.trans k3, LRel.cons ?_ k4, ⟨cs, g5', by rw [if_pos hb]⟩, k5⟩
        have g4' := g4.later k3
        refine .agg _ _ (by have := g4'.1; simpa [Value.cells] using this) fun i v c hv hc => g4'.2 i v c (by simpa using hv) (by simpa [Value.cells] using hc)
      · rename_i hb
        have hc1 : v.cells.toList = [v] := cells_one hout
        have g4' := g4.later k3
        rw [hc1] at g4'
        have hl : cs.length = 1 := g4'.1
        match cs, hl with
        | [c], _ =>
          refine ⟨β2, τ1 ++ τ2, c :: avs, k1, k2, g3.trans k3, LRel.cons (g4'.2 0 c v rfl rfl) k4, ⟨[c], g5', by rw [if_neg hb]⟩, k5⟩
    · cases hs

/-- From a law of the abstract machine to a row that returns true whatever its arguments. -/
theorem row_contract {f : FuncId} {fn : Func} {c : Contract} {s : ChangeSpec} {fresh handsOn : Bool} {args : Array Value} {ds gs : List (DataW H)} {before : List MemPlace} {rt : TypeId} {d : Nat} {sh : List (Bool × List CK)}
    (hs : SimOk P f c) (hcall : ∀ args w, (callFunc f args).run P w = .ok (.enter f args) w) (hsh : shapeOf P d fn.params.toList = some sh)
    (hlaw : ∀ σ avs, argsAbs σ sh avs → Ret c avs σ fun v _ => v = .bool true)
    (hl : laidOutB P = true) (hp : fn.params.toList.all (fun t => P.readableRec t && decide (t < P.types.size)) = true) (hv : s.vars = []) (hrt : fn.resultTypes = #[rt]) (hb : P.underlying rt = some .bool)
    {n : Nat} (hn : fn.params.toList.length = n) (hfn : ∀ ds : List (DataW H), ds.length = n → s.fn H ds = { results := [.lit (.bool true)], args := ds, vars := [] })
    (hval : ∀ (j : Nat) t v, fn.params[j]? = some t → args[j]? = some v → Value.okWide P W .any base t v)
    (hW : DataW.Whole enc P fn.params.toList s.vars false W args.toList ds gs before) :
    Calls P f args W fun e W' => ∃ v, e = .returned v ∧ s.post enc P fn false fresh handsOn false W args v W' := by
  have hW' := hW
  obtain ⟨p, q, h1, h2, rfl, h3, h4⟩ := hW'
  obtain ⟨β, τ, avs, k1, k2, k3, k4, k5⟩ := open_args hsh (fun j t v a b => hval j t v (by simpa using a) (by simpa using b)) h1 (injOk_nil W) allRo_nil
  refine (calls_of_ret hs hcall k1 k2 k4 (hlaw _ _ k5)).mono fun e W' ⟨he, hB⟩ => ⟨_, he, ?_⟩
  have hgs : gs = [] := by
    rw [hv] at h2
    cases gs with
    | nil => rfl
    | cons g gs => exact h2.elim
  subst hgs
  have hlen : ∀ {ts : List TypeId} {vs : List Value} {ds : List (DataW H)} {ps : List MemPlace}, DataW.TrodAll enc P W 0 (fun _ => true) true ts vs ds ps → ds.length = ts.length := by
    intro ts
    induction ts with
    | nil => intro vs ds ps h; obtain ⟨rfl, rfl, rfl⟩ := trodAll_nil h; rfl
    | cons t ts ih =>
      intro vs ds ps h
      obtain ⟨v, vs1, e, ds1, a, b, rfl, rfl, rfl, _, h2⟩ := trodAll_cons h
      simp [ih h2]
  refine row_post hl (fun t ht => by have := List.all_eq_true.1 hp t ht; simpa using this) hv hrt hb ?_ hW hB
  rw [List.append_nil]
  exact hfn ds (by rw [hlen h1, hn])
end
/-! ### Tables of contracts -/
def cnil : Ctab := fun _ => none
def cadd (n : FuncId) (c : Contract) (C : Ctab) : Ctab := fun g => bif Nat.beq g n then some c else C g
theorem ctab_nil (P : Program) : CtabOk P cnil := fun f c h => by cases h
theorem ctab_add {P : Program} {n : FuncId} {c : Contract} {C : Ctab} (h : SimOk P n c) (hC : CtabOk P C) : CtabOk P (cadd n c C) := by
  intro f d hd
  unfold cadd at hd
  cases hb : Nat.beq f n with
  | true =>
    rw [hb] at hd
    cases hd
    have := Nat.eq_of_beq_eq_true hb
    subst this
    exact h
  | false => rw [hb] at hd; exact hC f d hd

end Go.Abs
