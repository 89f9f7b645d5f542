/- The abstract machine: what a region that is run in the order of the text tells of each of its operations. No condition. -/
import Derived.Test.YtnibmlgdnhiglaaWvB6
namespace Go.Abs

section
variable {C : Ctab}

/-- One operation: its value, and what it leaves. -/
def stepS (C : Ctab) (s : SOper) (F : Frame) (σ : Heap) : Option (Value × Frame × Heap) :=
  match guardOf F s.guard with
  | some g => bif g then (evOp C F σ s.op).map fun r => (r.1, fput F s.dst r.1, r.2) else some (undef, fput F s.dst undef, σ)
  | none => none

theorem trace : ∀ (l : List SOper) (F : Frame) (σ : Heap) (F' : Frame) (σ' : Heap), evOps C l F σ = some (F', σ') →
    ∃ (Fs : Nat → Frame) (σs : Nat → Heap) (us : Nat → Value), Fs 0 = F ∧ σs 0 = σ ∧ Fs l.length = F' ∧ σs l.length = σ' ∧
      ∀ (i : Nat) (s : SOper), l[i]? = some s → stepS C s (Fs i) (σs i) = some (us i, Fs (i + 1), σs (i + 1))
  | [], F, σ, F', σ', h => by
    simp [evOps] at h
    obtain ⟨rfl, rfl⟩ := h
    exact ⟨fun _ => F, fun _ => σ, fun _ => undef, rfl, rfl, rfl, rfl, fun i s h => by simp at h⟩
  | s :: l, F, σ, F', σ', h => by
    simp only [evOps] at h
    have key : ∃ u F1 σ1, stepS C s F σ = some (u, F1, σ1) ∧ evOps C l F1 σ1 = some (F', σ') := by
      unfold stepS
      split at h
      · rename_i g hg
        rw [hg]
        cases g with
        | true =>
          simp only [cond_true] at h ⊢
          cases he : evOp C F σ s.op with
          | none => rw [he] at h; cases h
          | some r => rw [he] at h; exact ⟨_, _, _, rfl, h⟩
        | false => simp only [cond_false] at h ⊢; exact ⟨_, _, _, rfl, h⟩
      · cases h
    obtain ⟨u, F1, σ1, h1, h2⟩ := key
    obtain ⟨Fs, σs, us, a1, a2, a3, a4, a5⟩ := trace l F1 σ1 F' σ' h2
    refine ⟨fun i => match i with | 0 => F | i + 1 => Fs i, fun i => match i with | 0 => σ | i + 1 => σs i, fun i => match i with | 0 => u | i + 1 => us i, rfl, rfl, a3, a4, fun i s' hi => ?_⟩
    cases i with
    | zero => simp at hi; subst hi; simp only [Nat.zero_add]; rw [a1, a2]; exact h1
    | succ i => exact a5 i s' (by simpa using hi)

/-- The value that a slot has when the marked ones of the first operations have been done. -/
def lastW (l : List SOper) (us : Nat → Value) (L : Nat → Bool) (base : Nat → Value) : Nat → Nat → Value
  | 0, t => base t
  | i + 1, t => if L i = true ∧ (l[i]?).bind (·.dst) = some t then us i else lastW l us L base i t

theorem lastW_congr {l : List SOper} {us : Nat → Value} {L L' : Nat → Bool} {base : Nat → Value} {t : Nat} : ∀ {m : Nat}, (∀ j, j < m → (l[j]?).bind (·.dst) = some t → L j = L' j) → lastW l us L base m t = lastW l us L' base m t
  | 0, _ => rfl
  | m + 1, h => by
    simp only [lastW]
    rw [lastW_congr (m := m) fun j hj => h j (by omega)]
    by_cases hd : (l[m]?).bind (·.dst) = some t
    · rw [h m (by omega) hd]
    · simp [hd]

theorem lastW_cut {l : List SOper} {us : Nat → Value} {L : Nat → Bool} {base : Nat → Value} {t i : Nat} : ∀ {m : Nat}, i ≤ m → (∀ j, i ≤ j → j < m → (l[j]?).bind (·.dst) = some t → L j = false) → lastW l us L base m t = lastW l us L base i t
  | 0, hi, _ => by obtain rfl : i = 0 := by omega
                   rfl
  | m + 1, hi, h => by
    by_cases e : i = m + 1
    · subst e; rfl
    · simp only [lastW]
      rw [if_neg (fun hc => by have := h m (by omega) (by omega) hc.2; rw [this] at hc; simp at hc)]
      exact lastW_cut (by omega) fun j h1 h2 => h j h1 (by omega)

theorem fget_fput (F : Frame) (d : Option Nat) (v : Value) (t : Nat) : fget (fput F d v) t = if d = some t then v else fget F t := by
  cases d with
  | none => simp [fput]
  | some d =>
    simp only [fput]
    rw [fget_fset]
    by_cases e : t = d
    · subst e; simp
    · rw [if_neg e, if_neg (fun h => e (by simpa using h.symm))]

theorem frame_lastW {l : List SOper} {Fs : Nat → Frame} {σs : Nat → Heap} {us : Nat → Value} (h : ∀ (i : Nat) (s : SOper), l[i]? = some s → stepS C s (Fs i) (σs i) = some (us i, Fs (i + 1), σs (i + 1))) :
    ∀ i, i ≤ l.length → ∀ t, fget (Fs i) t = lastW l us (fun _ => true) (fget (Fs 0)) i t := by
  intro i
  induction i with
  | zero => intro _ t; rfl
  | succ i ih =>
    intro hi t
    have hs := h i l[i] (by simp [show i < l.length by omega])
    have hF : Fs (i + 1) = fput (Fs i) l[i].dst (us i) := by
      unfold stepS at hs
      split at hs
      · rename_i g hg
        cases g with
        | true =>
          simp only [cond_true] at hs
          cases he : evOp C (Fs i) (σs i) l[i].op with
          | none => rw [he] at hs; cases hs
          | some r =>
            rw [he] at hs
            simp only [Option.map_some, Option.some.injEq, Prod.mk.injEq] at hs
            rw [← hs.2.1, hs.1]
        | false =>
          simp only [cond_false, Option.some.injEq, Prod.mk.injEq] at hs
          rw [← hs.2.1, hs.1]
      · cases hs
    rw [hF, fget_fput]
    simp only [lastW, true_and]
    have hl : (l[i]?).bind (·.dst) = l[i].dst := by simp [show i < l.length by omega]
    rw [hl, ih (by omega) t]

/-- The heap of an operation that makes and writes none. -/
theorem light_heap {F : Frame} {σ : Heap} {s : SOp} (hl : s.heavy = false) {v : Value} {σ' : Heap} (h : evOp C F σ s = some (v, σ')) : σ' = σ := by
  cases s <;> first | (simp [SOp.heavy] at hl; done) | (exact (map_pair h).2) | (simp only [evOp, Option.some.injEq, Prod.mk.injEq] at h; exact h.2.symm) | skip
  rename_i c x
  cases c <;> first | (simp [SOp.heavy] at hl; done) | skip
  all_goals
    simp only [evOp] at h
    generalize eval F x = y at h
    cases y <;> first | (simp [aConv] at h; done) | (simp only [aConv, Option.some.injEq, Prod.mk.injEq] at h; exact h.2.symm) | skip
  · rename_i s' b
    simp only [aConv] at h
    cases hh : floatToIntVal s' b _ with
    | none => rw [hh] at h; cases h
    | some n => rw [hh] at h; simp at h; exact h.2.symm
  · rename_i s' b
    simp only [aConv] at h
    cases hh : f2f s' b _ with
    | none => rw [hh] at h; cases h
    | some n => rw [hh] at h; simp at h; exact h.2.symm
  · rename_i p len cap
    simp only [aConv] at h
    cases hh : (sliceCells σ 1 (.slice p len cap) len).bind bytesOfCells with
    | none => rw [hh] at h; cases h
    | some n => rw [hh] at h; simp at h; exact h.2.symm

/-- The heap of an operation that writes to nothing that was there. -/
theorem quiet_heap {P : Program} (hC : CtabOk P C) {F : Frame} {σ : Heap} {s : SOp} (hq : s.writes C = false) {v : Value} {σ' : Heap} (h : evOp C F σ s = some (v, σ')) : ∃ τ, σ' = σ ++ τ := by
  by_cases hl : s.heavy = false
  · exact ⟨[], by rw [light_heap hl h]; simp⟩
  · cases s <;> first | (simp [SOp.heavy] at hl; done) | (simp [SOp.writes] at hq; done) | skip
    · simp only [evOp, aAlloc] at h
      split at h
      · cases h; exact ⟨_, rfl⟩
      · cases h
    · simp only [evOp, aBox] at h
      split at h
      · cases h; exact ⟨_, rfl⟩
      · cases h
    · rename_i esz len zero parts
      simp only [evOp, aBuildSlice] at h
      split at h
      · cases hr : fillS zero (parts.map fun p => (p.1, p.2.1, eval F p.2.2)) with
        | none => rw [hr] at h; cases h
        | some r => rw [hr] at h; cases h; exact ⟨_, rfl⟩
      · cases h
    · rename_i c x
      simp only [evOp] at h
      generalize eval F x = y at h
      cases c <;> first | (simp [SOp.heavy] at hl; done) | skip
      · cases y <;> first | (simp [aConv] at h; done) | skip
        simp only [aConv] at h
        split at h
        · cases h; exact ⟨_, rfl⟩
        · cases h
      · cases y <;> first | (simp [aConv] at h; done) | skip
        rename_i p len cap
        cases p with
        | none => simp [aConv] at h
        | some p =>
          simp only [aConv] at h
          split at h
          · split at h
            · cases h; exact ⟨[], by simp⟩
            · cases h
          · cases h
    · simp only [evOp, aMakeSlice] at h
      split at h
      · split at h
        · cases h; exact ⟨_, rfl⟩
        · cases h
      · cases h
    · rename_i f xs
      simp only [evOp, aCall] at h
      cases f with
      | func g =>
        simp only [eval] at h
        simp only [SOp.writes] at hq
        cases hc : C g with
        | none => rw [hc] at h; cases h
        | some c =>
          rw [hc] at h hq
          simp only [Bool.not_eq_false'] at hq
          exact (hC g c hc).quiet hq _ _ _ _ h
      | tmp t => simp [SOp.writes] at hq
      | const v => simp [SOp.writes] at hq
      | global g => simp [SOp.writes] at hq

theorem getD_ext {σ τ : Heap} {b : Nat} {x : AObj} (h : σ[b]? = some x) : (σ ++ τ)[b]? = some x := by
  have : b < σ.length := by
    rcases Nat.lt_or_ge b σ.length with h' | h'
    · exact h'
    · rw [List.getElem?_eq_none h'] at h; cases h
  rw [List.getElem?_append_left this]; exact h

theorem rowAt_ext {σ τ : Heap} {esz cap : Nat} {p : Addr} {x : AObj} (h : σ[p.block]? = some x) : rowAt (σ ++ τ) esz p cap = rowAt σ esz p cap := by
  unfold rowAt; rw [getD_ext h, h]

theorem sliceCells_ext {σ τ : Heap} {esz n : Nat} {v : Value} (h : ∀ p len cap, v = .slice (some p) len cap → ∃ x, σ[p.block]? = some x) : sliceCells (σ ++ τ) esz v n = sliceCells σ esz v n := by
  unfold sliceCells
  split
  · rfl
  · rename_i p len cap
    obtain ⟨x, hx⟩ := h p len cap rfl
    rw [rowAt_ext hx]
  · rfl

/-- A light operation, all that it points to being there, tells the same in a heap that has more. -/
theorem light_ext {F : Frame} {σ τ : Heap} {s : SOp} (hl : s.heavy = false) (hp : ∀ x ∈ s.operands, (∀ p, eval F x = .pointer (some p) → ∃ y, σ[p.block]? = some y) ∧ (∀ p len cap, eval F x = .slice (some p) len cap → ∃ y, σ[p.block]? = some y)) :
    (evOp C F (σ ++ τ) s).map (·.1) = (evOp C F σ s).map (·.1) := by
  have mp : ∀ (q : Option Value) (σ' : Heap), (q.map (·, σ')).map (·.1) = q := by intro q σ'; cases q <;> rfl
  cases s <;> first | (simp [SOp.heavy] at hl; done) | (simp only [evOp, mp]; done) | (simp only [evOp, Option.map_some]; done) | skip
  · -- load1
    rename_i x
    simp only [evOp, mp]
    unfold aLoad1
    split
    · rename_i p he
      obtain ⟨y, hy⟩ := (hp x (by simp [SOp.operands])).1 p he
      rw [getD_ext hy, hy]
    · rfl
  · rename_i n x
    simp only [evOp, mp]
    unfold aLoadN
    split
    · rename_i p he
      obtain ⟨y, hy⟩ := (hp x (by simp [SOp.operands])).1 p he
      rw [getD_ext hy, hy]
    · rfl
  · -- conv
    rename_i c x
    simp only [evOp]
    have hx := (hp x (by simp [SOp.operands])).2
    generalize eval F x = y at hx
    cases c <;> first | (simp [SOp.heavy] at hl; done) | skip
    all_goals cases y <;> first | (simp [aConv]; done) | skip
    · simp only [aConv]
      rename_i s' b
      cases floatToIntVal s' b _ <;> rfl
    · simp only [aConv]
      rename_i s' b
      cases f2f s' b _ <;> rfl
    · simp only [aConv]
      rename_i p len cap
      rw [sliceCells_ext hx]
      cases (sliceCells σ 1 (.slice p len cap) len).bind bytesOfCells <;> rfl
  · -- sliceSl
    rename_i esz x lo hi
    simp only [evOp, mp]
    unfold aSliceSl
    split
    · rfl
    · rename_i p len cap he
      obtain ⟨y, hy⟩ := (hp x (by simp [SOp.operands])).2 p len cap he
      rw [rowAt_ext hy]
    · rfl
  · rename_i esz x i
    simp only [evOp, mp]
    unfold aIndexAddrS
    split
    · rename_i p len cap k j he1 he2
      obtain ⟨y, hy⟩ := (hp x (by simp [SOp.operands])).2 p len cap he1
      rw [rowAt_ext hy]
    · rfl

/-- A light operation that reads no memory tells the same in whatever heap. -/
theorem pure_any {F : Frame} {σ σ' : Heap} {s : SOp} (hl : s.heavy = false) (hr : s.readsMem = false) : (evOp C F σ s).map (·.1) = (evOp C F σ' s).map (·.1) := by
  have mp : ∀ (q : Option Value) (σ' : Heap), (q.map (·, σ')).map (·.1) = q := by intro q σ'; cases q <;> rfl
  cases s <;> first | (simp [SOp.heavy] at hl; done) | (simp [SOp.readsMem] at hr; done) | (simp only [evOp, mp]; done) | (simp only [evOp, Option.map_some]; done)

theorem eval_congr {F F' : Frame} : ∀ (x : Operand), (∀ t, x = .tmp t → fget F t = fget F' t) → eval F x = eval F' x
  | .tmp t, h => h t rfl
  | .const v, _ => by cases v <;> rfl
  | .func f, _ => rfl
  | .global g, _ => rfl

theorem memb_tmpsOf : ∀ (l : List Operand) (t : Nat), .tmp t ∈ l → t ∈ tmpsOf l
  | x :: l, t, h => by
    rw [List.mem_cons] at h
    cases x with
    | tmp u =>
      rcases h with h | h
      · cases h; simp [tmpsOf]
      · simp [tmpsOf, memb_tmpsOf l t h]
    | _ =>
      rcases h with h | h
      · cases h
      · simp [tmpsOf, memb_tmpsOf l t h]

/-- What an operation does hangs on what it looks at alone. -/
theorem evOp_congr {F F' : Frame} {σ : Heap} {s : SOp} (h : ∀ t ∈ tmpsOf s.operands, fget F t = fget F' t) : evOp C F σ s = evOp C F' σ s := by
  have he : ∀ x ∈ s.operands, eval F x = eval F' x := fun x hx => eval_congr x fun t ht => h t (memb_tmpsOf _ _ (by rw [← ht]; exact hx))
  have hm : ∀ l : List Operand, (∀ x ∈ l, x ∈ s.operands) → l.map (eval F) = l.map (eval F') := fun l hl => List.map_congr_left fun x hx => he x (hl x hx)
  have hp : ∀ l : List (Nat × Nat × Operand), (∀ p ∈ l, p.2.2 ∈ s.operands) → (l.map fun p => (p.1, p.2.1, eval F p.2.2)) = l.map fun p => (p.1, p.2.1, eval F' p.2.2) := fun l hl => List.map_congr_left fun p hp => by rw [he _ (hl p hp)]
  have ho : ∀ q : Option Operand, (∀ x, q = some x → x ∈ s.operands) → q.map (eval F) = q.map (eval F') := fun q hq => by
    cases q with
    | none => rfl
    | some x => simp [he x (hq x rfl)]
  cases s with
  | mov x => simp only [evOp]; rw [he x (by simp [SOp.operands])]
  | pick c a b => simp only [evOp]; rw [he c (by simp [SOp.operands]), he a (by simp [SOp.operands]), he b (by simp [SOp.operands])]
  | alloc z => rfl
  | box x => simp only [evOp]; rw [he x (by simp [SOp.operands])]
  | build z ps => simp only [evOp]; rw [hp ps fun p hp' => by simp only [SOp.operands, List.mem_map]; exact ⟨p, hp', rfl⟩]
  | buildSlice e l z ps => simp only [evOp]; rw [hp ps fun p hp' => by simp only [SOp.operands, List.mem_map]; exact ⟨p, hp', rfl⟩]
  | load1 x => simp only [evOp]; rw [he x (by simp [SOp.operands])]
  | loadN n x => simp only [evOp]; rw [he x (by simp [SOp.operands])]
  | store n a b => simp only [evOp]; rw [he a (by simp [SOp.operands]), he b (by simp [SOp.operands])]
  | nilCheck x => simp only [evOp]; rw [he x (by simp [SOp.operands])]
  | bin op ek a b => simp only [evOp]; rw [he a (by simp [SOp.operands]), he b (by simp [SOp.operands])]
  | un op x => simp only [evOp]; rw [he x (by simp [SOp.operands])]
  | conv c x => simp only [evOp]; rw [he x (by simp [SOp.operands])]
  | makeFunc f a b => simp only [evOp]; rw [hm a fun x hx => by simp [SOp.operands, hx], hm b fun x hx => by simp [SOp.operands, hx]]
  | makeSlice e by_ z a b => simp only [evOp]; rw [he a (by simp [SOp.operands]), he b (by simp [SOp.operands])]
  | sliceStr x lo hi =>
    simp only [evOp]
    rw [he x (by simp [SOp.operands]), ho lo fun y hy => by simp [SOp.operands, hy], ho hi fun y hy => by simp [SOp.operands, hy]]
  | sliceSl e x lo hi =>
    simp only [evOp]
    rw [he x (by simp [SOp.operands]), ho lo fun y hy => by simp [SOp.operands, hy], ho hi fun y hy => by simp [SOp.operands, hy]]
  | fieldAddr o x => simp only [evOp]; rw [he x (by simp [SOp.operands])]
  | field1 o x => simp only [evOp]; rw [he x (by simp [SOp.operands])]
  | fieldN o n x => simp only [evOp]; rw [he x (by simp [SOp.operands])]
  | indexAddrS e a b => simp only [evOp]; rw [he a (by simp [SOp.operands]), he b (by simp [SOp.operands])]
  | indexAddrA l e a b => simp only [evOp]; rw [he a (by simp [SOp.operands]), he b (by simp [SOp.operands])]
  | indexStr a b => simp only [evOp]; rw [he a (by simp [SOp.operands]), he b (by simp [SOp.operands])]
  | index1 l a b => simp only [evOp]; rw [he a (by simp [SOp.operands]), he b (by simp [SOp.operands])]
  | indexN l e a b => simp only [evOp]; rw [he a (by simp [SOp.operands]), he b (by simp [SOp.operands])]
  | extract x i => simp only [evOp]; rw [he x (by simp [SOp.operands])]
  | len b x => simp only [evOp]; rw [he x (by simp [SOp.operands])]
  | append e by_ a b => simp only [evOp]; rw [he a (by simp [SOp.operands]), he b (by simp [SOp.operands])]
  | copy e a b => simp only [evOp]; rw [he a (by simp [SOp.operands]), he b (by simp [SOp.operands])]
  | minmax m xs => simp only [evOp]; rw [hm xs fun x hx => by simp [SOp.operands, hx]]
  | call f xs => simp only [evOp]; rw [he f (by simp [SOp.operands]), hm xs fun x hx => by simp [SOp.operands, hx]]

end
end Go.Abs
