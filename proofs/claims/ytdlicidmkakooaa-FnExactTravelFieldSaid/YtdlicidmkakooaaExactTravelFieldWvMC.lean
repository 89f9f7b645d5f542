/- The abstract machine, a part: texts put together. Conditions: as at each theorem. -/
import Derived.Test.YtdlicidmkakooaaExactTravelFieldWvMB
set_option linter.unusedSimpArgs false
set_option linter.unusedVariables false
/- The abstract machine: regions, in the order of the text and in any order. Condition: the contracts that are used hold. -/
namespace Go.Abs

theorem beq_dec (a b : Nat) : Nat.beq a b = decide (a = b) := by
  by_cases h : a = b
  · subst h; simp
  · have : Nat.beq a b = false := by
      cases hb : Nat.beq a b with
      | false => rfl
      | true => exact absurd (Nat.eq_of_beq_eq_true hb) h
    simp [this, h]

theorem fget_fset (F : Frame) (t : Nat) (v : Value) (s : Nat) : fget (fset F t v) s = if s = t then v else fget F s := by
  simp only [fset, fget, beq_dec]
  by_cases h : s = t
  · subst h; simp
  · have : ¬ t = s := fun e => h e.symm
    simp [h, this]

theorem fget_fkeep : ∀ (K : List Nat) (F : Frame) (s : Nat), fget (fkeep K F) s = if memb K s = true then fget F s else dead
  | [], F, s => by simp [fkeep, fget, memb]
  | u :: K, F, s => by
    simp only [fkeep, fget, memb, beq_dec]
    rw [fget_fkeep K F s]
    by_cases h : u = s
    · subst h; simp
    · simp [h]

section
variable {P : Program} {C : Ctab} {β : Inj} {σ : Heap} {w : World} {F : Frame} {a : Act} {v : Value}

theorem FOk.keep {tmps : Array Value} (h : FOk β σ F tmps) (K : List Nat) : FOk β σ (fkeep K F) tmps := by
  intro t
  rw [fget_fkeep]
  split
  · exact h t
  · exact .dead _

theorem FOk.put {c : Value} (h : FOk β σ F a.tmps) (hv : VRel β σ v c) (dst : Option Nat) (hd : ∀ d, dst = some d → d < a.tmps.size) : FOk β σ (fput F dst v) (a.put dst c).tmps := by
  cases dst with
  | none => exact h
  | some d =>
    intro t
    simp only [fput, Act.put]
    rw [fget_fset]
    by_cases e : t = d
    · subst e
      rw [if_pos rfl]
      have := hd t rfl
      simpa [Array.getD_eq_getD_getElem?, this] using hv
    · rw [if_neg e]
      have := h t
      rw [Array.getD_eq_getD_getElem?] at this ⊢
      rw [Array.getElem?_setIfInBounds, if_neg (fun h => e h.symm)]
      exact this

theorem put_size (dst : Option Nat) (c : Value) : (a.put dst c).tmps.size = a.tmps.size := by cases dst <;> simp [Act.put]
theorem put_defers (dst : Option Nat) (c : Value) : (a.put dst c).defers = a.defers := by cases dst <;> simp [Act.put]

theorem vrel_undef : VRel β σ undef undef := .tuple _ _ rfl fun i v v' hv => by simp at hv

/-- Operation by operation the resolved region is the region. -/
structure OpRel (P : Program) (all : Array Oper) (o : Oper) (s : SOper) : Prop where
  op : rOp P o.op = some s.op
  dst : s.dst = o.dst
  guard : match o.guard with
    | none => s.guard = none
    | some (j, want) => ∃ d, (all[j]?).bind (·.dst) = some d ∧ s.guard = some (d, want)

theorem rOps_rel {all : Array Oper} : ∀ {ops : List Oper} {anc : List Nat} {l : List SOper}, rOps P all anc ops = some l → l.length = ops.length ∧ ∀ (i : Nat) (o : Oper) (s : SOper), ops[i]? = some o → l[i]? = some s → OpRel P all o s
  | [], anc, l, h => by simp [rOps] at h; subst h; simp
  | o :: ops, anc, l, h => by
    unfold rOps at h
    simp only at h
    split at h
    · cases h
    · rename_i s hs
      split at h
      · rename_i hg
        cases hr : rOps P all (anc ++ [ancOf anc o.after.toList]) ops with
        | none => rw [hr] at h; cases h
        | some l' =>
          rw [hr] at h; cases h
          obtain ⟨h1, h2⟩ := rOps_rel hr
          refine ⟨by simp [h1], fun i o' s' ho hs' => ?_⟩
          cases i with
          | zero => simp at ho hs'; subst ho; subst hs'; exact ⟨hs, rfl, by rw [hg]⟩
          | succ i => exact h2 i o' s' (by simpa using ho) (by simpa using hs')
      · rename_i j want hg
        split at h
        · rename_i d hd
          cases hr : rOps P all (anc ++ [ancOf anc o.after.toList]) ops with
          | none => rw [hr] at h; cases h
          | some l' =>
            rw [hr] at h; cases h
            obtain ⟨h1, h2⟩ := rOps_rel hr
            refine ⟨by simp [h1], fun i o' s' ho hs' => ?_⟩
            cases i with
            | zero => simp at ho hs'; subst ho; subst hs'; exact ⟨hs, rfl, by rw [hg]; exact ⟨d, hd, rfl⟩⟩
            | succ i => exact h2 i o' s' (by simpa using ho) (by simpa using hs')
        · cases h

theorem guard_sound {all : Array Oper} {o : Oper} {s : SOper} (hr : OpRel P all o s) (hF : FOk β σ F a.tmps) {g : Bool} (h : guardOf F s.guard = some g) : Region.wanted o (yielded all a.tmps) = g := by
  have hg := hr.guard
  unfold Region.wanted
  cases ho : o.guard with
  | none => rw [ho] at hg; simp only at hg; rw [hg] at h; simp [guardOf] at h; simp [h]
  | some p =>
    obtain ⟨j, want⟩ := p
    rw [ho] at hg
    obtain ⟨d, hd, hs⟩ := hg
    rw [hs] at h
    simp only [guardOf] at h
    have hv := hF d
    have hy : yielded all a.tmps j = match a.tmps[d]? with | some (.bool b) => some b | _ => none := by
      unfold yielded; rw [hd]; rfl
    simp only
    split at h
    · rename_i b hb
      cases h
      rw [hb] at hv
      rw [Array.getD_eq_getD_getElem?] at hv
      cases ht : a.tmps[d]? with
      | none => rw [ht] at hv; simp [undef] at hv; cases hv
      | some c =>
        rw [ht] at hv
        simp only [Option.getD_some] at hv
        cases hv
        rw [hy, ht]
        cases b <;> cases want <;> rfl
    · rename_i vs hb
      cases h
      rw [hb] at hv
      rw [Array.getD_eq_getD_getElem?] at hv
      cases ht : a.tmps[d]? with
      | none => rw [hy, ht]; rfl
      | some c =>
        rw [ht] at hv
        simp only [Option.getD_some] at hv
        cases hv
        rw [hy, ht]; rfl
    · cases h

/-- Where a step of a region has led. -/
structure At (β : Inj) (σ : Heap) (w : World) (β' : Inj) (σ' : Heap) (w' : World) (F' : Frame) (a a' : Act) : Prop where
  tr : Trans β σ w β' σ' w'
  fr : FOk β' σ' F' a'.tmps
  sz : a'.tmps.size = a.tmps.size
  df : a'.defers = a.defers

/-- The order of the text. -/
theorem evOps_sound (hC : CtabOk P C) (ops : Array Oper) : ∀ (l : List SOper) (rest : List Oper) (k : Nat) (β : Inj) (σ : Heap) (w : World) (F : Frame) (a : Act), (∀ i, rest[i]? = ops[k + i]?) → l.length = rest.length →
    (∀ (i : Nat) (o : Oper) (s : SOper), rest[i]? = some o → l[i]? = some s → OpRel P ops o s) → (∀ o ∈ rest, ∀ d, o.dst = some d → d < a.tmps.size) → InjOk β σ w → FOk β σ F a.tmps → ∀ {F' : Frame} {σ' : Heap}, evOps C l F σ = some (F', σ') →
    ∀ {Q : Exit → Act → World → Prop}, (∀ a' w' β', At β σ w β' σ' w' F' a a' → Q .normal a' w') → wpOps P ops Q (List.range' k rest.length) a w := by
  intro l
  induction l with
  | nil =>
    intro rest k β σ w F a hk hl hrel hd hok hF F' σ' h Q hQ
    have : rest = [] := List.length_eq_zero_iff.1 hl.symm
    subst this
    simp [evOps] at h
    obtain ⟨rfl, rfl⟩ := h
    exact hQ a w β ⟨Trans.refl hok, hF, rfl, rfl⟩
  | cons s l ih =>
    intro rest k β σ w F a hk hl hrel hd hok hF F' σ' h Q hQ
    cases rest with
    | nil => cases hl
    | cons o rest =>
      have ho : ops[k]? = some o := by have := hk 0; simpa using this.symm
      have hr := hrel 0 o s (by simp) (by simp)
      have hk' : ∀ i, rest[i]? = ops[k + 1 + i]? := fun i => by have := hk (i + 1); simpa [Nat.add_assoc, Nat.add_comm 1 i] using this
      have hrel' : ∀ (i : Nat) (o : Oper) (s : SOper), rest[i]? = some o → l[i]? = some s → OpRel P ops o s := fun i o s h1 h2 => hrel (i + 1) o s (by simpa using h1) (by simpa using h2)
      have hdo : ∀ d, s.dst = some d → d < a.tmps.size := fun d hd' => hd o (by simp) d (by rw [← hr.dst]; exact hd')
      simp only [List.length_cons, List.range'_succ]
      rw [wpOps_cons]
      unfold wpOp
      rw [ho]
      simp only [evOps] at h
      split at h
      · rename_i g hg
        have hw := guard_sound hr hF hg
        cases g with
        | true =>
          simp only [cond_true] at h
          cases he : evOp C F σ s.op with
          | none => rw [he] at h; cases h
          | some r =>
            obtain ⟨v, σ1⟩ := r
            rw [he] at h
            simp only [Option.bind_some] at h
            simp only [hw, if_true]
            refine .inl ((evOp_sound hC hok hF hr.op he).wp fun c w' hc => ?_)
            obtain ⟨β1, htr, hv⟩ := hc
            have hF1 : FOk β1 σ1 (fput F s.dst v) (a.put o.dst c).tmps := by
              rw [← hr.dst]; exact (hF.later htr.later).put hv s.dst hdo
            refine ih rest (k + 1) β1 σ1 w' _ (a.put o.dst c) hk' (by simpa using hl) hrel' (fun o' ho' d hd' => by rw [put_size]; exact hd o' (by simp [ho']) d hd') htr.ok hF1 h ?_
            intro a' w2 β2 hat
            exact hQ a' w2 β2 ⟨htr.trans hat.tr, hat.fr, by rw [hat.sz, put_size], by rw [hat.df, put_defers]⟩
        | false =>
          simp only [cond_false] at h
          simp only [hw, Bool.false_eq_true, if_false]
          have hF1 : FOk β σ (fput F s.dst undef) (a.put o.dst undef).tmps := by
            rw [← hr.dst]; exact hF.put vrel_undef s.dst hdo
          refine ih rest (k + 1) β σ w _ (a.put o.dst undef) hk' (by simpa using hl) hrel' (fun o' ho' d hd' => by rw [put_size]; exact hd o' (by simp [ho']) d hd') hok hF1 h ?_
          intro a' w2 β2 hat
          exact hQ a' w2 β2 ⟨hat.tr, hat.fr, by rw [hat.sz, put_size], by rw [hat.df, put_defers]⟩
      · cases h

end
end Go.Abs

/- The abstract machine: what a region that is run in the order of the text tells of each of its operations. No condition. -/
namespace Go.Abs

section
variable {C : Ctab}


theorem trace : ∀ (l : List SOper) (F : Frame) (σ : Heap) (F' : Frame) (σ' : Heap), evOps C l F σ = some (F', σ') →
    ∃ (Fs : Nat → Frame) (σs : Nat → Heap) (us : Nat → Value), Fs 0 = F ∧ σs 0 = σ ∧ Fs l.length = F' ∧ σs l.length = σ' ∧
      ∀ (i : Nat) (s : SOper), l[i]? = some s → stepS C s (Fs i) (σs i) = some (us i, Fs (i + 1), σs (i + 1))
  | [], F, σ, F', σ', h => by
    simp [evOps] at h
    obtain ⟨rfl, rfl⟩ := h
    exact ⟨fun _ => F, fun _ => σ, fun _ => undef, rfl, rfl, rfl, rfl, fun i s h => by simp at h⟩
  | s :: l, F, σ, F', σ', h => by
    simp only [evOps] at h
    have key : ∃ u F1 σ1, stepS C s F σ = some (u, F1, σ1) ∧ evOps C l F1 σ1 = some (F', σ') := by
      unfold stepS
      split at h
      · rename_i g hg
        try rw [hg]
        cases g with
        | true =>
          simp only [cond_true] at h ⊢
          cases he : evOp C F σ s.op with
          | none => rw [he] at h; cases h
          | some r => rw [he] at h; exact ⟨_, _, _, rfl, h⟩
        | false => simp only [cond_false] at h ⊢; exact ⟨_, _, _, rfl, h⟩
      · cases h
    obtain ⟨u, F1, σ1, h1, h2⟩ := key
    obtain ⟨Fs, σs, us, a1, a2, a3, a4, a5⟩ := trace l F1 σ1 F' σ' h2
    refine ⟨fun i => match i with | 0 => F | i + 1 => Fs i, fun i => match i with | 0 => σ | i + 1 => σs i, fun i => match i with | 0 => u | i + 1 => us i, rfl, rfl, a3, a4, fun i s' hi => ?_⟩
    cases i with
    | zero => simp at hi; subst hi; simp only [Nat.zero_add]; rw [a1, a2]; exact h1
    | succ i => exact a5 i s' (by simpa using hi)

/-- The value that a slot has when the marked ones of the first operations have been done. -/
def lastW (l : List SOper) (us : Nat → Value) (L : Nat → Bool) (base : Nat → Value) : Nat → Nat → Value
  | 0, t => base t
  | i + 1, t => if L i = true ∧ (l[i]?).bind (·.dst) = some t then us i else lastW l us L base i t

theorem lastW_congr {l : List SOper} {us : Nat → Value} {L L' : Nat → Bool} {base : Nat → Value} {t : Nat} : ∀ {m : Nat}, (∀ j, j < m → (l[j]?).bind (·.dst) = some t → L j = L' j) → lastW l us L base m t = lastW l us L' base m t
  | 0, _ => rfl
  | m + 1, h => by
    simp only [lastW]
    rw [lastW_congr (m := m) fun j hj => h j (by omega)]
    by_cases hd : (l[m]?).bind (·.dst) = some t
    · rw [h m (by omega) hd]
    · simp [hd]

theorem lastW_cut {l : List SOper} {us : Nat → Value} {L : Nat → Bool} {base : Nat → Value} {t i : Nat} : ∀ {m : Nat}, i ≤ m → (∀ j, i ≤ j → j < m → (l[j]?).bind (·.dst) = some t → L j = false) → lastW l us L base m t = lastW l us L base i t
  | 0, hi, _ => by obtain rfl : i = 0 := by omega
                   rfl
  | m + 1, hi, h => by
    by_cases e : i = m + 1
    · subst e; rfl
    · simp only [lastW]
      rw [if_neg (fun hc => by have := h m (by omega) (by omega) hc.2; rw [this] at hc; simp at hc)]
      exact lastW_cut (by omega) fun j h1 h2 => h j h1 (by omega)

theorem fget_fput (F : Frame) (d : Option Nat) (v : Value) (t : Nat) : fget (fput F d v) t = if d = some t then v else fget F t := by
  cases d with
  | none => simp [fput]
  | some d =>
    simp only [fput]
    rw [fget_fset]
    by_cases e : t = d
    · subst e; simp
    · rw [if_neg e, if_neg (fun h => e (by simpa using h.symm))]

theorem frame_lastW {l : List SOper} {Fs : Nat → Frame} {σs : Nat → Heap} {us : Nat → Value} (h : ∀ (i : Nat) (s : SOper), l[i]? = some s → stepS C s (Fs i) (σs i) = some (us i, Fs (i + 1), σs (i + 1))) :
    ∀ i, i ≤ l.length → ∀ t, fget (Fs i) t = lastW l us (fun _ => true) (fget (Fs 0)) i t := by
  intro i
  induction i with
  | zero => intro _ t; rfl
  | succ i ih =>
    intro hi t
    have hs := h i l[i] (by simp [show i < l.length by omega])
    have hF : Fs (i + 1) = fput (Fs i) l[i].dst (us i) := by
      unfold stepS at hs
      split at hs
      · rename_i g hg
        cases g with
        | true =>
          simp only [cond_true] at hs
          cases he : evOp C (Fs i) (σs i) l[i].op with
          | none => rw [he] at hs; cases hs
          | some r =>
            rw [he] at hs
            simp only [Option.map_some, Option.some.injEq, Prod.mk.injEq] at hs
            rw [← hs.2.1, hs.1]
        | false =>
          simp only [cond_false, Option.some.injEq, Prod.mk.injEq] at hs
          rw [← hs.2.1, hs.1]
      · cases hs
    rw [hF, fget_fput]
    simp only [lastW, true_and]
    have hl : (l[i]?).bind (·.dst) = l[i].dst := by simp [show i < l.length by omega]
    rw [hl, ih (by omega) t]

/-- The heap of an operation that makes and writes none. -/
theorem light_heap {F : Frame} {σ : Heap} {s : SOp} (hl : s.heavy = false) {v : Value} {σ' : Heap} (h : evOp C F σ s = some (v, σ')) : σ' = σ := by
  cases s <;> first | (simp [SOp.heavy] at hl; done) | (exact (map_pair h).2) | (simp only [evOp, Option.some.injEq, Prod.mk.injEq] at h; exact h.2.symm) | skip
  rename_i c x
  cases c <;> first | (simp [SOp.heavy] at hl; done) | skip
  all_goals
    simp only [evOp] at h
    generalize eval F x = y at h
    cases y <;> first | (simp [aConv] at h; done) | (simp only [aConv, Option.some.injEq, Prod.mk.injEq] at h; exact h.2.symm) | skip
  · rename_i s' b
    simp only [aConv] at h
    cases hh : floatToIntVal s' b _ with
    | none => rw [hh] at h; cases h
    | some n => rw [hh] at h; simp at h; exact h.2.symm
  · rename_i s' b
    simp only [aConv] at h
    cases hh : f2f s' b _ with
    | none => rw [hh] at h; cases h
    | some n => rw [hh] at h; simp at h; exact h.2.symm
  · rename_i p len cap
    simp only [aConv] at h
    cases hh : (sliceCells σ 1 (.slice p len cap) len).bind bytesOfCells with
    | none => rw [hh] at h; cases h
    | some n => rw [hh] at h; simp at h; exact h.2.symm

theorem dyn_quiet {P : Program} {C : Ctab} (hC : CtabOk P C) {σ σ' : Heap} {f v : Value} {args : List Value} (hq : allQ C = true)
    (h : aCall C σ f args = some (v, σ')) : ∃ τ, σ' = σ ++ τ := by
  have hall : ∀ g c, C g = some c → c.quiet = true := by simpa [allQ] using hq
  unfold aCall at h
  split at h
  · rename_i g first captured
    cases hc : C g with
    | none => rw [hc] at h; cases h
    | some c => rw [hc] at h; exact (hC g c hc).quiet (hall g c hc) _ _ _ _ h
  · cases h

/-- The heap of an operation that writes to nothing that was there. -/
theorem quiet_heap {P : Program} (hC : CtabOk P C) {F : Frame} {σ : Heap} {s : SOp} (hq : s.writes C = false) {v : Value} {σ' : Heap} (h : evOp C F σ s = some (v, σ')) : ∃ τ, σ' = σ ++ τ := by
  by_cases hl : s.heavy = false
  · exact ⟨[], by rw [light_heap hl h]; simp⟩
  · cases s <;> first | (simp [SOp.heavy] at hl; done) | (simp [SOp.writes] at hq; done) | skip
    · simp only [evOp, aAlloc] at h
      split at h
      · cases h; exact ⟨_, rfl⟩
      · cases h
    · simp only [evOp, aBox] at h
      split at h
      · cases h; exact ⟨_, rfl⟩
      · cases h
    · rename_i esz len zero parts
      simp only [evOp, aBuildSlice] at h
      split at h
      · cases hr : fillS zero (parts.map fun p => (p.1, p.2.1, eval F p.2.2)) with
        | none => rw [hr] at h; cases h
        | some r => rw [hr] at h; cases h; exact ⟨_, rfl⟩
      · cases h
    · rename_i c x
      simp only [evOp] at h
      generalize eval F x = y at h
      cases c <;> first | (simp [SOp.heavy] at hl; done) | skip
      · cases y <;> first | (simp [aConv] at h; done) | skip
        simp only [aConv] at h
        split at h
        · cases h; exact ⟨_, rfl⟩
        · cases h
      · cases y <;> first | (simp [aConv] at h; done) | skip
        rename_i p len cap
        cases p with
        | none => simp [aConv] at h
        | some p =>
          simp only [aConv] at h
          split at h
          · split at h
            · cases h; exact ⟨[], by simp⟩
            · cases h
          · cases h
    · simp only [evOp, aMakeSlice] at h
      split at h
      · split at h
        · cases h; exact ⟨_, rfl⟩
        · cases h
      · cases h
    · rename_i f xs
      simp only [evOp, aCall] at h
      cases f with
      | func g =>
        simp only [eval] at h
        simp only [SOp.writes] at hq
        cases hc : C g with
        | none => rw [hc] at h; cases h
        | some c =>
          rw [hc] at h hq
          simp only [Bool.not_eq_false'] at hq
          exact (hC g c hc).quiet hq _ _ _ _ h
      | tmp t => exact dyn_quiet (f := eval F (.tmp t)) (args := xs.map (eval F)) hC (by simpa [SOp.writes] using hq) h
      | const v => exact dyn_quiet (f := eval F (.const v)) (args := xs.map (eval F)) hC (by simpa [SOp.writes] using hq) h
      | global g => exact dyn_quiet (f := eval F (.global g)) (args := xs.map (eval F)) hC (by simpa [SOp.writes] using hq) h

theorem getD_ext {σ τ : Heap} {b : Nat} {x : AObj} (h : σ[b]? = some x) : (σ ++ τ)[b]? = some x := by
  have : b < σ.length := by
    rcases Nat.lt_or_ge b σ.length with h' | h'
    · exact h'
    · rw [List.getElem?_eq_none h'] at h; cases h
  rw [List.getElem?_append_left this]; exact h

theorem rowAt_ext {σ τ : Heap} {esz cap : Nat} {p : Addr} {x : AObj} (h : σ[p.block]? = some x) : rowAt (σ ++ τ) esz p cap = rowAt σ esz p cap := by
  unfold rowAt; rw [getD_ext h, h]

theorem sliceCells_ext {σ τ : Heap} {esz n : Nat} {v : Value} (h : ∀ p len cap, v = .slice (some p) len cap → ∃ x, σ[p.block]? = some x) : sliceCells (σ ++ τ) esz v n = sliceCells σ esz v n := by
  unfold sliceCells
  split
  · rfl
  · rename_i p len cap
    obtain ⟨x, hx⟩ := h p len cap rfl
    rw [rowAt_ext hx]
  · rfl

/-- A light operation, all that it points to being there, tells the same in a heap that has more. -/
theorem light_ext {F : Frame} {σ τ : Heap} {s : SOp} (hl : s.heavy = false) (hp : ∀ x ∈ s.operands, (∀ p, eval F x = .pointer (some p) → ∃ y, σ[p.block]? = some y) ∧ (∀ p len cap, eval F x = .slice (some p) len cap → ∃ y, σ[p.block]? = some y)) :
    (evOp C F (σ ++ τ) s).map (·.1) = (evOp C F σ s).map (·.1) := by
  have mp : ∀ (q : Option Value) (σ' : Heap), (q.map (·, σ')).map (·.1) = q := by intro q σ'; cases q <;> rfl
  cases s <;> first | (simp [SOp.heavy] at hl; done) | (simp only [evOp, mp]; done) | (simp only [evOp, Option.map_some]; done) | skip
  · -- load1
    rename_i x
    simp only [evOp, mp]
    unfold aLoad1
    split
    · rename_i p he
      obtain ⟨y, hy⟩ := (hp x (by simp [SOp.operands])).1 p he
      rw [getD_ext hy, hy]
    · rfl
  · rename_i n x
    simp only [evOp, mp]
    unfold aLoadN
    split
    · rename_i p he
      obtain ⟨y, hy⟩ := (hp x (by simp [SOp.operands])).1 p he
      rw [getD_ext hy, hy]
    · rfl
  · -- conv
    rename_i c x
    simp only [evOp]
    have hx := (hp x (by simp [SOp.operands])).2
    generalize eval F x = y at hx
    cases c <;> first | (simp [SOp.heavy] at hl; done) | skip
    all_goals cases y <;> first | (simp [aConv]; done) | skip
    · simp only [aConv]
      rename_i s' b
      cases floatToIntVal s' b _ <;> rfl
    · simp only [aConv]
      rename_i s' b
      cases f2f s' b _ <;> rfl
    · simp only [aConv]
      rename_i p len cap
      rw [sliceCells_ext hx]
      cases (sliceCells σ 1 (.slice p len cap) len).bind bytesOfCells <;> rfl
  · -- sliceSl
    rename_i esz x lo hi
    simp only [evOp, mp]
    unfold aSliceSl
    split
    · rfl
    · rename_i p len cap he
      obtain ⟨y, hy⟩ := (hp x (by simp [SOp.operands])).2 p len cap he
      rw [rowAt_ext hy]
    · rfl
  · rename_i esz x i
    simp only [evOp, mp]
    unfold aIndexAddrS
    split
    · rename_i p len cap k j he1 he2
      obtain ⟨y, hy⟩ := (hp x (by simp [SOp.operands])).2 p len cap he1
      rw [rowAt_ext hy]
    · rfl

/-- A light operation that reads no memory tells the same in whatever heap. -/
theorem pure_any {F : Frame} {σ σ' : Heap} {s : SOp} (hl : s.heavy = false) (hr : s.readsMem = false) : (evOp C F σ s).map (·.1) = (evOp C F σ' s).map (·.1) := by
  have mp : ∀ (q : Option Value) (σ' : Heap), (q.map (·, σ')).map (·.1) = q := by intro q σ'; cases q <;> rfl
  cases s <;> first | (simp [SOp.heavy] at hl; done) | (simp [SOp.readsMem] at hr; done) | (simp only [evOp, mp]; done) | (simp only [evOp, Option.map_some]; done)

theorem eval_congr {F F' : Frame} : ∀ (x : Operand), (∀ t, x = .tmp t → fget F t = fget F' t) → eval F x = eval F' x
  | .tmp t, h => h t rfl
  | .const v, _ => by cases v <;> rfl
  | .func f, _ => rfl
  | .global g, _ => rfl

theorem memb_tmpsOf : ∀ (l : List Operand) (t : Nat), .tmp t ∈ l → t ∈ tmpsOf l
  | x :: l, t, h => by
    rw [List.mem_cons] at h
    cases x with
    | tmp u =>
      rcases h with h | h
      · cases h; simp [tmpsOf]
      · simp [tmpsOf, memb_tmpsOf l t h]
    | _ =>
      rcases h with h | h
      · cases h
      · simp [tmpsOf, memb_tmpsOf l t h]

/-- What an operation does hangs on what it looks at alone. -/
theorem evOp_congr {F F' : Frame} {σ : Heap} {s : SOp} (h : ∀ t ∈ tmpsOf s.operands, fget F t = fget F' t) : evOp C F σ s = evOp C F' σ s := by
  have he : ∀ x ∈ s.operands, eval F x = eval F' x := fun x hx => eval_congr x fun t ht => h t (memb_tmpsOf _ _ (by rw [← ht]; exact hx))
  have hm : ∀ l : List Operand, (∀ x ∈ l, x ∈ s.operands) → l.map (eval F) = l.map (eval F') := fun l hl => List.map_congr_left fun x hx => he x (hl x hx)
  have hp : ∀ l : List (Nat × Nat × Operand), (∀ p ∈ l, p.2.2 ∈ s.operands) → (l.map fun p => (p.1, p.2.1, eval F p.2.2)) = l.map fun p => (p.1, p.2.1, eval F' p.2.2) := fun l hl => List.map_congr_left fun p hp => by rw [he _ (hl p hp)]
  have ho : ∀ q : Option Operand, (∀ x, q = some x → x ∈ s.operands) → q.map (eval F) = q.map (eval F') := fun q hq => by
    cases q with
    | none => rfl
    | some x => simp [he x (hq x rfl)]
  cases s with
  | mov x => simp only [evOp]; rw [he x (by simp [SOp.operands])]
  | pick c a b => simp only [evOp]; rw [he c (by simp [SOp.operands]), he a (by simp [SOp.operands]), he b (by simp [SOp.operands])]
  | alloc z => rfl
  | box x => simp only [evOp]; rw [he x (by simp [SOp.operands])]
  | build z ps => simp only [evOp]; rw [hp ps fun p hp' => by simp only [SOp.operands, List.mem_map]; exact ⟨p, hp', rfl⟩]
  | buildSlice e l z ps => simp only [evOp]; rw [hp ps fun p hp' => by simp only [SOp.operands, List.mem_map]; exact ⟨p, hp', rfl⟩]
  | load1 x => simp only [evOp]; rw [he x (by simp [SOp.operands])]
  | loadN n x => simp only [evOp]; rw [he x (by simp [SOp.operands])]
  | store n a b => simp only [evOp]; rw [he a (by simp [SOp.operands]), he b (by simp [SOp.operands])]
  | nilCheck x => simp only [evOp]; rw [he x (by simp [SOp.operands])]
  | bin op ek a b => simp only [evOp]; rw [he a (by simp [SOp.operands]), he b (by simp [SOp.operands])]
  | un op x => simp only [evOp]; rw [he x (by simp [SOp.operands])]
  | conv c x => simp only [evOp]; rw [he x (by simp [SOp.operands])]
  | makeFunc f a b => simp only [evOp]; rw [hm a fun x hx => by simp [SOp.operands, hx], hm b fun x hx => by simp [SOp.operands, hx]]
  | makeSlice e by_ z a b => simp only [evOp]; rw [he a (by simp [SOp.operands]), he b (by simp [SOp.operands])]
  | sliceStr x lo hi =>
    simp only [evOp]
    rw [he x (by simp [SOp.operands]), ho lo fun y hy => by simp [SOp.operands, hy], ho hi fun y hy => by simp [SOp.operands, hy]]
  | sliceSl e x lo hi =>
    simp only [evOp]
    rw [he x (by simp [SOp.operands]), ho lo fun y hy => by simp [SOp.operands, hy], ho hi fun y hy => by simp [SOp.operands, hy]]
  | fieldAddr o x => simp only [evOp]; rw [he x (by simp [SOp.operands])]
  | field1 o x => simp only [evOp]; rw [he x (by simp [SOp.operands])]
  | fieldN o n x => simp only [evOp]; rw [he x (by simp [SOp.operands])]
  | indexAddrS e a b => simp only [evOp]; rw [he a (by simp [SOp.operands]), he b (by simp [SOp.operands])]
  | indexAddrA l e a b => simp only [evOp]; rw [he a (by simp [SOp.operands]), he b (by simp [SOp.operands])]
  | indexStr a b => simp only [evOp]; rw [he a (by simp [SOp.operands]), he b (by simp [SOp.operands])]
  | index1 l a b => simp only [evOp]; rw [he a (by simp [SOp.operands]), he b (by simp [SOp.operands])]
  | indexN l e a b => simp only [evOp]; rw [he a (by simp [SOp.operands]), he b (by simp [SOp.operands])]
  | extract x i => simp only [evOp]; rw [he x (by simp [SOp.operands])]
  | len b x => simp only [evOp]; rw [he x (by simp [SOp.operands])]
  | cap x => simp only [evOp]; rw [he x (by simp [SOp.operands])]
  | appendZ e by_ z a b => simp only [evOp]; rw [he a (by simp [SOp.operands]), he b (by simp [SOp.operands])]
  | append e by_ a b => simp only [evOp]; rw [he a (by simp [SOp.operands]), he b (by simp [SOp.operands])]
  | copy e a b => simp only [evOp]; rw [he a (by simp [SOp.operands]), he b (by simp [SOp.operands])]
  | minmax m xs => simp only [evOp]; rw [hm xs fun x hx => by simp [SOp.operands, hx]]
  | call f xs => simp only [evOp]; rw [he f (by simp [SOp.operands]), hm xs fun x hx => by simp [SOp.operands, hx]]

end
end Go.Abs

/- The abstract machine: a region whose order is drawn. Condition: the contracts that are used hold. -/
namespace Go.Abs

theorem memb_iff (t : Nat) : ∀ l : List Nat, memb l t = true ↔ t ∈ l
  | [] => by simp [memb]
  | u :: l => by
    simp only [memb, List.mem_cons]
    by_cases h : u = t
    · subst h; simp [Nat.beq_refl]
    · have : Nat.beq u t = false := by
        cases hb : Nat.beq u t with
        | false => rfl
        | true => exact absurd (Nat.eq_of_beq_eq_true hb) h
      rw [this]
      simp only [cond_false]
      rw [memb_iff t l]
      constructor
      · exact .inr
      · rintro (h' | h')
        · exact absurd h'.symm h
        · exact h'

theorem ancOf_bit (anc : List Nat) : ∀ (es : List Edge) (s i : Nat), (es.foldl (fun s e => if Region.binds .any e then s ||| 2 ^ e.on ||| anc.getD e.on 0 else s) s).testBit i = true →
    s.testBit i = true ∨ ∃ e ∈ es, Region.binds .any e = true ∧ (e.on = i ∨ (anc.getD e.on 0).testBit i = true)
  | [], s, i, h => .inl h
  | e :: es, s, i, h => by
    simp only [List.foldl_cons] at h
    rcases ancOf_bit anc es _ i h with h | ⟨e', he, h⟩
    · split at h
      · rename_i hb
        simp only [Nat.testBit_or, Bool.or_eq_true, Nat.testBit_two_pow, decide_eq_true_eq] at h
        rcases h with (h | h) | h
        · exact .inl h
        · exact .inr ⟨e, by simp, hb, .inl h⟩
        · exact .inr ⟨e, by simp, hb, .inr h⟩
      · exact .inl h
    · exact .inr ⟨e', by simp [he], h⟩

section
variable {P : Program} {C : Ctab}

theorem rOps_anc {all : Array Oper} : ∀ {ops : List Oper} {anc : List Nat} {l : List SOper}, rOps P all anc ops = some l → ∀ (j : Nat) (s : SOper) (o : Oper), l[j]? = some s → ops[j]? = some o → s.anc = ancOf (anc ++ (l.take j).map (·.anc)) o.after.toList
  | [], anc, l, h, j, s, o, hs, ho => by simp at ho
  | o :: ops, anc, l, h, j, s, o', hs, ho => by
    unfold rOps at h
    simp only at h
    have key : ∃ (s0 : SOper) (l' : List SOper), s0.anc = ancOf anc o.after.toList ∧ l = s0 :: l' ∧ rOps P all (anc ++ [ancOf anc o.after.toList]) ops = some l' := by
      split at h
      · cases h
      · split at h
        · cases hr : rOps P all (anc ++ [ancOf anc o.after.toList]) ops with
          | none => rw [hr] at h; cases h
          | some l' => rw [hr] at h; cases h; exact ⟨_, l', rfl, rfl, rfl⟩
        · split at h
          · cases hr : rOps P all (anc ++ [ancOf anc o.after.toList]) ops with
            | none => rw [hr] at h; cases h
            | some l' => rw [hr] at h; cases h; exact ⟨_, l', rfl, rfl, rfl⟩
          · cases h
    obtain ⟨s0, l', h1, rfl, h2⟩ := key
    cases j with
    | zero => simp at hs ho; subst hs; subst ho; simpa using h1
    | succ j =>
      have := rOps_anc h2 j s o' (by simpa using hs) (by simpa using ho)
      rw [this, ← h1]
      simp

theorem backEdges_spec : ∀ {ops : List Oper} {n : Nat}, backEdges n ops = true → ∀ (j : Nat) (o : Oper), ops[j]? = some o → ∀ e ∈ o.after.toList, Region.binds .any e = true → e.on < n + j
  | [], n, _, j, o, ho => by simp at ho
  | x :: ops, n, h, j, o, ho => by
    simp only [backEdges, Bool.and_eq_true, List.all_eq_true] at h
    intro e he hb
    cases j with
    | zero =>
      simp at ho; subst ho
      have := h.1 e he
      simp [hb] at this
      exact this
    | succ j =>
      have := backEdges_spec h.2 j o (by simpa using ho) e he hb
      omega

theorem okAgainst_spec {o : SOper} : ∀ {done : List SOper} {n : Nat}, okAgainst C o n done = true → ∀ (i : Nat) (x : SOper), done[i]? = some x → clash C x o = true → o.anc.testBit (n + i) = true
  | [], n, _, i, x, hx => by simp at hx
  | y :: done, n, h, i, x, hx => by
    simp only [okAgainst, Bool.and_eq_true] at h
    intro hc
    cases i with
    | zero => simp at hx; subst hx; simpa [hc] using h.1
    | succ i =>
      have := okAgainst_spec h.2 i x (by simpa using hx) hc
      rw [show n + (i + 1) = n + 1 + i by omega]; exact this

theorem drawOkGo_spec : ∀ {rest done : List SOper}, drawOkGo C done rest = true → ∀ (i j : Nat) (x y : SOper), i < done.length + j → rest[j]? = some y → (done ++ rest)[i]? = some x → clash C x y = true → y.anc.testBit i = true
  | [], done, _, i, j, x, y, _, hy, _ => by simp at hy
  | o :: rest, done, h, i, j, x, y, hij, hy, hx => by
    simp only [drawOkGo, Bool.and_eq_true] at h
    intro hc
    cases j with
    | zero =>
      simp at hy; subst hy
      rw [List.getElem?_append_left (by omega)] at hx
      have := okAgainst_spec h.1 i x hx hc
      simpa using this
    | succ j =>
      exact drawOkGo_spec h.2 i j x y (by simp; omega) (by simpa using hy) (by simpa using hx) hc

/-- All that a drawn region is known for. -/
structure Drawn (P : Program) (C : Ctab) (ops : Array Oper) (l : List SOper) (X : Nat → Prop) : Prop where
  len : l.length = ops.size
  rel : ∀ (i : Nat) (o : Oper) (s : SOper), ops[i]? = some o → l[i]? = some s → OpRel P ops o s
  back : ∀ (j : Nat) (o : Oper), ops[j]? = some o → ∀ e ∈ o.after.toList, Region.binds .any e = true → e.on < j
  anc : ∀ (j : Nat) (s : SOper) (o : Oper), l[j]? = some s → ops[j]? = some o → ∀ i, s.anc.testBit i = true → ∃ e ∈ o.after.toList, Region.binds .any e = true ∧ (e.on = i ∨ ∃ s', l[e.on]? = some s' ∧ s'.anc.testBit i = true)
  ord : ∀ (i j : Nat) (x y : SOper), i < j → l[i]? = some x → l[j]? = some y → clash C x y = true → y.anc.testBit i = true ∨ (X i ∧ X j)

theorem drawn_of {ops : Array Oper} {l : List SOper} (h : rOps P ops [] ops.toList = some l) (hb : backEdges 0 ops.toList = true) (hd : drawOk C l = true) : Drawn P C ops l (fun _ => False) := by
  obtain ⟨h1, h2⟩ := rOps_rel h
  have hback : ∀ (j : Nat) (o : Oper), ops[j]? = some o → ∀ e ∈ o.after.toList, Region.binds .any e = true → e.on < j := by
    intro j o ho e he hbn
    have := backEdges_spec hb j o (by simpa using ho) e he hbn
    omega
  refine ⟨by simpa using h1, fun i o s ho hs => h2 i o s (by simpa using ho) hs, hback, ?_, ?_⟩
  · intro j s o hs ho i hi
    have ha := rOps_anc h j s o hs (by simpa using ho)
    rw [ha, List.nil_append] at hi
    rcases ancOf_bit _ _ _ _ hi with h0 | ⟨e, he, hbn, h3⟩
    · simp at h0
    · refine ⟨e, he, hbn, ?_⟩
      rcases h3 with h3 | h3
      · exact .inl h3
      · right
        have hlt := hback j o ho e he hbn
        have hjl : j < l.length := by
          rcases Nat.lt_or_ge j l.length with h' | h'
          · exact h'
          · rw [List.getElem?_eq_none h'] at hs; cases hs
        refine ⟨l[e.on]'(by omega), by simp [show e.on < l.length by omega], ?_⟩
        rw [List.getD_eq_getElem?_getD, List.getElem?_map, List.getElem?_take, if_pos hlt] at h3
        simpa [show e.on < l.length by omega] using h3
  · intro i j x y hij hx hy hc
    exact .inl (drawOkGo_spec (done := []) hd i j x y (by simpa using hij) hy (by simpa using hx) hc)

/-- What has been done is closed towards what stands ahead. -/
def Closed (ops : Array Oper) (L : Nat → Bool) : Prop := ∀ (j : Nat) (o : Oper), L j = true → ops[j]? = some o → ∀ e ∈ o.after.toList, Region.binds .any e = true → L e.on = true

theorem anc_done {ops : Array Oper} {l : List SOper} {X : Nat → Prop} (D : Drawn P C ops l X) {L : Nat → Bool} (hL : Closed ops L) : ∀ (j : Nat) (s : SOper) (o : Oper), l[j]? = some s → ops[j]? = some o → (∀ e ∈ o.after.toList, Region.binds .any e = true → L e.on = true) →
    ∀ i, s.anc.testBit i = true → L i = true := by
  intro j
  induction j using Nat.strongRecOn with
  | _ j ih =>
    intro s o hs ho hedges i hi
    obtain ⟨e, he, hb, h⟩ := D.anc j s o hs ho i hi
    rcases h with rfl | ⟨s', hs', h⟩
    · exact hedges e he hb
    · have hlt := D.back j o ho e he hb
      have hjl : e.on < l.length := by
        rcases Nat.lt_or_ge e.on l.length with h' | h'
        · exact h'
        · rw [List.getElem?_eq_none h'] at hs'; cases hs'
      have hol : e.on < ops.size := by rw [← D.len]; exact hjl
      have ho' : ops[e.on]? = some ops[e.on] := by simp [hol]
      exact ih e.on hlt s' _ hs' ho' (fun e2 he2 hb2 => hL e.on _ (hedges e he hb) ho' e2 he2 hb2) i h

end
end Go.Abs

/- The abstract machine: a region whose order is drawn comes to what it comes to in the order of the text. Condition: the contracts that are used hold. -/
namespace Go.Abs

section
variable {P : Program} {C : Ctab}

theorem stepS_parts {s : SOper} {F F1 : Frame} {σ σ1 : Heap} {u : Value} (h : stepS C s F σ = some (u, F1, σ1)) :
    (guardOf F s.guard = some true ∧ evOp C F σ s.op = some (u, σ1)) ∨ (guardOf F s.guard = some false ∧ u = undef ∧ σ1 = σ) := by
  unfold stepS at h
  split at h
  · rename_i g hg
    cases g with
    | true =>
      left
      simp only [cond_true] at h
      cases he : evOp C F σ s.op with
      | none => rw [he] at h; cases h
      | some r =>
        rw [he] at h
        simp only [Option.map_some, Option.some.injEq, Prod.mk.injEq] at h
        exact ⟨hg, by rw [← h.1, ← h.2.2]⟩
    | false =>
      right
      simp only [cond_false, Option.some.injEq, Prod.mk.injEq] at h
      exact ⟨hg, h.1.symm, h.2.2.symm⟩
  · cases h

/-- The next heavy operation. -/
theorem nextHeavy (l : List SOper) (i : Nat) (hi : i ≤ l.length) : ∃ p, i ≤ p ∧ p ≤ l.length ∧ (∀ j s, i ≤ j → j < p → l[j]? = some s → s.op.heavy = false) ∧ (∀ s, l[p]? = some s → s.op.heavy = true) := by
  obtain ⟨d, hd⟩ : ∃ d, l.length = i + d := ⟨l.length - i, by omega⟩
  induction d generalizing i with
  | zero => exact ⟨i, Nat.le_refl _, hi, fun j s h1 h2 => by omega, fun s hs => by rw [List.getElem?_eq_none (by omega)] at hs; cases hs⟩
  | succ d ih =>
    have hlt : i < l.length := by omega
    cases hh : l[i].op.heavy with
    | true => exact ⟨i, Nat.le_refl _, hi, fun j s h1 h2 => by omega, fun s hs => by rw [List.getElem?_eq_getElem hlt] at hs; cases hs; exact hh⟩
    | false =>
      obtain ⟨p, h1, h2, h3, h4⟩ := ih (i + 1) (by omega) (by omega)
      refine ⟨p, by omega, h2, fun j s hj1 hj2 hs => ?_, h4⟩
      by_cases e : j = i
      · subst e; rw [List.getElem?_eq_getElem hlt] at hs; cases hs; exact hh
      · exact h3 j s (by omega) hj2 hs

theorem heap_const {l : List SOper} {Fs : Nat → Frame} {σs : Nat → Heap} {us : Nat → Value} (h : ∀ (i : Nat) (s : SOper), l[i]? = some s → stepS C s (Fs i) (σs i) = some (us i, Fs (i + 1), σs (i + 1)))
    {i p : Nat} (hip : i ≤ p) (hp : p ≤ l.length) (hl : ∀ j s, i ≤ j → j < p → l[j]? = some s → s.op.heavy = false) : σs p = σs i := by
  induction hip with
  | refl => rfl
  | step hle ih =>
    rename_i m
    have hm : m < l.length := by omega
    have hs := h m l[m] (by simp [hm])
    rw [← ih (by omega) fun j s h1 h2 hs => hl j s h1 (by omega) hs]
    rcases stepS_parts hs with ⟨_, he⟩ | ⟨_, _, he⟩
    · exact light_heap (hl m l[m] (by have : i ≤ m := hle; omega) (by omega) (by simp [hm])) he
    · exact he

theorem heap_ext (hC : CtabOk P C) {l : List SOper} {Fs : Nat → Frame} {σs : Nat → Heap} {us : Nat → Value} (h : ∀ (i : Nat) (s : SOper), l[i]? = some s → stepS C s (Fs i) (σs i) = some (us i, Fs (i + 1), σs (i + 1)))
    {i p : Nat} (hip : i ≤ p) (hp : p ≤ l.length) (hl : ∀ j s, i ≤ j → j < p → l[j]? = some s → s.op.writes C = false) : ∃ τ, σs p = σs i ++ τ := by
  induction hip with
  | refl => exact ⟨[], by simp⟩
  | step hle ih =>
    rename_i m
    have hm : m < l.length := by omega
    have hs := h m l[m] (by simp [hm])
    obtain ⟨τ, hτ⟩ := ih (by omega) fun j s h1 h2 hs => hl j s h1 (by omega) hs
    rcases stepS_parts hs with ⟨_, he⟩ | ⟨_, _, he⟩
    · obtain ⟨τ', h'⟩ := quiet_heap hC (hl m l[m] (by have : i ≤ m := hle; omega) (by omega) (by simp [hm])) he
      exact ⟨τ ++ τ', by rw [h', hτ, List.append_assoc]⟩
    · exact ⟨τ, by rw [he, hτ]⟩

/-- How many are still to be done. -/
def leftOf (L : Nat → Bool) : Nat → Nat
  | 0 => 0
  | n + 1 => leftOf L n + if L n = true then 0 else 1

theorem leftOf_set (L : Nat → Bool) (i : Nat) (hi : L i = false) : ∀ n, leftOf (fun j => if j = i then true else L j) n + (if i < n then 1 else 0) = leftOf L n
  | 0 => by simp [leftOf]
  | n + 1 => by
    have ih := leftOf_set L i hi n
    simp only [leftOf]
    by_cases e : n = i
    · subst e
      simp [hi] at ih ⊢
      omega
    · have e1 : (if n = i then true else L n) = L n := if_neg e
      simp only [e1]
      by_cases h1 : i < n
      · simp only [if_pos h1] at ih
        simp only [if_pos (show i < n + 1 by omega)]
        omega
      · simp only [if_neg h1] at ih
        simp only [if_neg (show ¬ i < n + 1 by omega)]
        omega

theorem leftOf_zero {L : Nat → Bool} : ∀ {n : Nat}, leftOf L n = 0 → ∀ i, i < n → L i = true
  | 0, _, i, hi => by omega
  | n + 1, h, i, hi => by
    simp only [leftOf] at h
    by_cases e : i = n
    · subst e
      cases hl : L i with
      | true => rfl
      | false => rw [hl] at h; simp at h
    · exact leftOf_zero (n := n) (by omega) i (by omega)

/-- A light operation that has told a value tells it in a heap that has more. -/
theorem light_mono {F : Frame} {σ τ : Heap} {s : SOp} (hl : s.heavy = false) {v : Value} (h : (evOp C F σ s).map (·.1) = some v) : (evOp C F (σ ++ τ) s).map (·.1) = some v := by
  have mp : ∀ (q : Option Value) (σ' : Heap), (q.map (·, σ')).map (·.1) = q := by intro q σ'; cases q <;> rfl
  by_cases hr : s.readsMem = false
  · rw [← h]; exact pure_any hl hr
  · have hrow : ∀ {esz cap : Nat} {p : Addr} {x : AObj}, rowAt σ esz p cap = some x → rowAt (σ ++ τ) esz p cap = some x := by
      intro esz cap p x hx
      rw [rowAt_ext (rowAt_some hx).1]; exact hx
    have hsc : ∀ {esz n : Nat} {u : Value} {l : List Value}, sliceCells σ esz u n = some l → sliceCells (σ ++ τ) esz u n = some l := by
      intro esz n u l hx
      unfold sliceCells at hx ⊢
      split at hx
      · exact hx
      · split at hx
        · rename_i hx2; rw [hrow hx2]; exact hx
        · cases hx
      · cases hx
    cases s <;> first | (simp [SOp.readsMem] at hr; done) | skip
    · rename_i x
      simp only [evOp, mp] at h ⊢
      unfold aLoad1 at h ⊢
      split at h
      · split at h
        · rename_i obj ho; rw [getD_ext ho]; exact h
        · cases h
      · cases h
    · rename_i n x
      simp only [evOp, mp] at h ⊢
      unfold aLoadN at h ⊢
      split at h
      · split at h
        · rename_i obj ho; rw [getD_ext ho]; exact h
        · cases h
      · cases h
    · rename_i c x
      simp only [evOp] at h ⊢
      generalize eval F x = y at h ⊢
      cases c <;> first | (simp [SOp.heavy] at hl; done) | skip
      all_goals cases y <;> first | (simp [aConv] at h; done) | (simpa [aConv] using h) | skip
      · rename_i p len cap
        simp only [aConv] at h ⊢
        cases hh : sliceCells σ 1 (.slice p len cap) len with
        | none => rw [hh] at h; cases h
        | some l =>
          rw [hh] at h; rw [hsc hh]
          simp only [Option.bind_some] at h ⊢
          cases hb : bytesOfCells l with
          | none => rw [hb] at h; cases h
          | some l' => rw [hb] at h; simpa using h
    · rename_i esz x lo hi
      simp only [evOp, mp] at h ⊢
      unfold aSliceSl at h ⊢
      split at h
      · exact h
      · split at h
        · rename_i hx _ _; rw [hrow hx]; simp only [*]
        · cases h
      · cases h
    · rename_i esz x i
      simp only [evOp, mp] at h ⊢
      unfold aIndexAddrS at h ⊢
      split at h
      · split at h
        · rename_i hx; rw [hrow hx]; exact h
        · cases h
      · cases h

/-- The state of a drawn region. -/
structure DSt (ops : Array Oper) (l : List SOper) (σs : Nat → Heap) (us : Nat → Value) (base : Nat → Value) (β0 : Inj) (σ0 : Heap) (w0 : World) (a0 : Act) (L : Nat → Bool) (a : Act) (w : World) : Prop where
  closed : Closed ops L
  st : ∃ p, p ≤ l.length ∧ (∀ j s, j < p → l[j]? = some s → s.op.heavy = true → L j = true) ∧ (∀ s, l[p]? = some s → s.op.heavy = true ∧ L p = false) ∧
    ∃ β, Trans β0 σ0 w0 β (σs p) w ∧ ∀ t, VRel β (σs p) (lastW l us L base l.length t) (a.tmps.getD t undef)
  sz : a.tmps.size = a0.tmps.size
  df : a.defers = a0.defers

theorem draw_step (hC : CtabOk P C) {ops : Array Oper} {l : List SOper} {X : Nat → Prop} (D : Drawn P C ops l X) {Fs : Nat → Frame} {σs : Nat → Heap} {us : Nat → Value}
    (htr : ∀ (i : Nat) (s : SOper), l[i]? = some s → stepS C s (Fs i) (σs i) = some (us i, Fs (i + 1), σs (i + 1))) {β0 : Inj} {σ0 : Heap} {w0 : World} {a0 : Act} (hdst : ∀ (i : Nat) (o : Oper), ops[i]? = some o → ∀ d, o.dst = some d → d < a0.tmps.size)
    {L : Nat → Bool} (hX : ∀ j, X j → L j = true) {a : Act} {w : World} (J : DSt ops l σs us (fget (Fs 0)) β0 σ0 w0 a0 L a w) {i : Nat} {o : Oper} (ho : ops[i]? = some o) (hLi : L i = false) (hedges : ∀ e ∈ o.after.toList, Region.binds .any e = true → L e.on = true)
    {K : Act → World → Prop} {Q : Exit → Act → World → Prop} (hK : ∀ a' w', DSt ops l σs us (fget (Fs 0)) β0 σ0 w0 a0 (fun j => if j = i then true else L j) a' w' → K a' w') : wpOp P ops Q i K a w := by
  have hio : i < ops.size := by
    rcases Nat.lt_or_ge i ops.size with h' | h'
    · exact h'
    · simp [Array.getElem?_eq_none h'] at ho
  have hil : i < l.length := by rw [D.len]; exact hio
  obtain ⟨s, hs⟩ : ∃ s, l[i]? = some s := ⟨l[i], by simp [hil]⟩
  have hrel := D.rel i o s ho hs
  have ordL : ∀ (i j : Nat) (x y : SOper), i < j → l[i]? = some x → l[j]? = some y → clash C x y = true → (L i = false ∨ L j = false) → y.anc.testBit i = true := by
    intro i j x y hij hx hy hc hn
    rcases D.ord i j x y hij hx hy hc with h | ⟨h1, h2⟩
    · exact h
    · rw [hX i h1, hX j h2] at hn; simp at hn
  have hanc := anc_done D J.closed i s o hs ho hedges
  obtain ⟨p, hpl, hp1, hp2, β, hT, hV⟩ := J.st
  have hstep := htr i s hs
  -- those behind that clash with it are not done; those ahead are
  have ahead : ∀ (j : Nat) (x : SOper), j < i → l[j]? = some x → clash C x s = true → L j = true := fun j x hj hx hc => hanc j (ordL j i x s hj hx hs hc (.inr hLi))
  have behind : ∀ (j : Nat) (x : SOper), i < j → l[j]? = some x → clash C s x = true → L j = false := by
    intro j x hj hx hc
    cases hLj : L j with
    | false => rfl
    | true =>
      have hjl : j < l.length := by
        rcases Nat.lt_or_ge j l.length with h' | h'
        · exact h'
        · rw [List.getElem?_eq_none h'] at hx; cases hx
      have hoj : ops[j]? = some (ops[j]'(by rw [← D.len]; exact hjl)) := by simp [show j < ops.size by rw [← D.len]; exact hjl]
      have := anc_done D J.closed j x _ hx hoj (fun e he hb => J.closed j _ hLj hoj e he hb) i (ordL i j s x hj hs hx hc (.inl hLi))
      rw [hLi] at this; cases this
  have clash_dst : ∀ (j : Nat) (x : SOper) (t : Nat), l[j]? = some x → x.dst = some t → t ∈ s.looks → clash C x s = true ∧ clash C s x = true := by
    intro j x t hx hd ht
    have hm : memb s.looks t = true := (memb_iff t _).2 ht
    constructor
    · simp [clash, hasDst, hd, hm]
    · simp [clash, hasDst, hd, hm]
  have clash_same : ∀ (j : Nat) (x : SOper) (t : Nat), l[j]? = some x → x.dst = some t → s.dst = some t → clash C s x = true := by
    intro j x t hx hd ht
    simp [clash, sameDst, hd, ht]
  -- what it looks at stands as in the order of the text
  have hlook : ∀ t ∈ s.looks, lastW l us L (fget (Fs 0)) l.length t = fget (Fs i) t := by
    intro t ht
    have e1 : lastW l us L (fget (Fs 0)) l.length t = lastW l us L (fget (Fs 0)) i t := by
      refine lastW_cut (by omega) fun j h1 h2 hd => ?_
      rw [List.getElem?_eq_getElem h2] at hd
      simp only [Option.bind_some] at hd
      by_cases e : j = i
      · subst e; exact hLi
      · exact behind j _ (by omega) (List.getElem?_eq_getElem h2) (clash_dst j _ t (List.getElem?_eq_getElem h2) hd ht).2
    have e2 : lastW l us L (fget (Fs 0)) i t = lastW l us (fun _ => true) (fget (Fs 0)) i t := by
      refine lastW_congr fun j hj hd => ?_
      have h2 : j < l.length := by omega
      rw [List.getElem?_eq_getElem h2] at hd
      simp only [Option.bind_some] at hd
      exact ahead j _ hj (List.getElem?_eq_getElem h2) (clash_dst j _ t (List.getElem?_eq_getElem h2) hd ht).1
    rw [e1, e2, frame_lastW htr i (by omega) t]
  have hF : FOk β (σs p) (fkeep s.looks (Fs i)) a.tmps := by
    intro t
    rw [fget_fkeep]
    split
    · rename_i hm
      have := hV t
      rw [hlook t ((memb_iff t _).1 hm)] at this
      exact this
    · exact .dead _
  have hlooks_ops : ∀ t ∈ tmpsOf s.op.operands, t ∈ s.looks := by
    intro t ht
    unfold SOper.looks
    split
    · simp [ht]
    · exact ht
  have hev : ∀ σ, evOp C (fkeep s.looks (Fs i)) σ s.op = evOp C (Fs i) σ s.op := by
    intro σ
    refine evOp_congr fun t ht => ?_
    rw [fget_fkeep, if_pos ((memb_iff t _).2 (hlooks_ops t ht))]
  have hguard : guardOf (fkeep s.looks (Fs i)) s.guard = guardOf (Fs i) s.guard := by
    cases hg : s.guard with
    | none => rfl
    | some q =>
      obtain ⟨t, want⟩ := q
      simp only [guardOf]
      rw [fget_fkeep, if_pos ((memb_iff t _).2 (by simp [SOper.looks, hg]))]
  -- what holds behind it
  have closed' : Closed ops (fun j => if j = i then true else L j) := by
    intro j o' hj ho' e he hb
    dsimp only at hj ⊢
    by_cases ej : j = i
    · subst ej
      rw [ho] at ho'; cases ho'
      by_cases ee : e.on = j
      · rw [if_pos ee]
      · rw [if_neg ee]; exact hedges e he hb
    · rw [if_neg ej] at hj
      by_cases ee : e.on = i
      · rw [if_pos ee]
      · rw [if_neg ee]; exact J.closed j o' hj ho' e he hb
  have hslot : ∀ (β' : Inj) (σ' : Heap) (c : Value), Later β (σs p) β' σ' → VRel β' σ' (us i) c → ∀ t, VRel β' σ' (lastW l us (fun j => if j = i then true else L j) (fget (Fs 0)) l.length t) ((a.put o.dst c).tmps.getD t undef) := by
    intro β' σ' c hlat hc t
    by_cases hd : s.dst = some t
    · -- it is the last that writes here
      have e1 : lastW l us (fun j => if j = i then true else L j) (fget (Fs 0)) l.length t = us i := by
        rw [lastW_cut (i := i + 1) (by omega) fun j h1 h2 hdj => ?_]
        · simp [lastW, hs, hd]
        · rw [List.getElem?_eq_getElem h2] at hdj
          simp only [Option.bind_some] at hdj
          try dsimp only
          rw [if_neg (by omega)]
          exact behind j _ (by omega) (List.getElem?_eq_getElem h2) (clash_same j _ t (List.getElem?_eq_getElem h2) hdj hd)
      rw [e1]
      have hod : o.dst = some t := by rw [← hrel.dst]; exact hd
      have hlt : t < a.tmps.size := by rw [J.sz]; exact hdst i o ho t hod
      simpa [Act.put, hod, Array.getD_eq_getD_getElem?, hlt] using hc
    · have e1 : lastW l us (fun j => if j = i then true else L j) (fget (Fs 0)) l.length t = lastW l us L (fget (Fs 0)) l.length t := by
        refine lastW_congr fun j hj hdj => ?_
        try dsimp only
        rw [if_neg]
        intro ej; subst ej
        rw [hs] at hdj
        exact hd (by simpa using hdj)
      rw [e1]
      have h0 := (hV t).later hlat
      cases hod : o.dst with
      | none => simpa [Act.put, hod] using h0
      | some d =>
        have hne : d ≠ t := fun e => hd (by rw [hrel.dst, hod, e])
        rw [Array.getD_eq_getD_getElem?] at h0 ⊢
        simp only [Act.put]
        rw [Array.getElem?_setIfInBounds, if_neg hne]
        exact h0
  unfold wpOp
  rw [ho]
  by_cases hh : s.op.heavy = true
  · -- a heavy one: it is the next
    have hpi : p = i := by
      rcases Nat.lt_trichotomy p i with h' | h' | h'
      · exfalso
        have hpl' : p < l.length := by omega
        have := hp2 _ (List.getElem?_eq_getElem hpl')
        have hc : clash C l[p] s = true := by simp [clash, this.1, hh]
        have := ahead p _ h' (List.getElem?_eq_getElem hpl') hc
        rw [this] at *
        simp_all
      · exact h'
      · exfalso
        have := hp1 i s h' hs hh
        rw [hLi] at this; cases this
    subst hpi
    obtain ⟨p', hp'1, hp'2, hp'3, hp'4⟩ := nextHeavy l (p + 1) (by omega)
    have hconst : σs p' = σs (p + 1) := heap_const htr hp'1 hp'2 hp'3
    have hnext : ∀ (β' : Inj) (w' : World) (c : Value), Trans β (σs p) w β' (σs (p + 1)) w' → VRel β' (σs (p + 1)) (us p) c → DSt ops l σs us (fget (Fs 0)) β0 σ0 w0 a0 (fun j => if j = p then true else L j) (a.put o.dst c) w' := by
      intro β' w' c ht hc
      refine ⟨closed', ⟨p', hp'2, fun j x hj hx hhx => ?_, fun x hx => ⟨hp'4 x hx, ?_⟩, β', ?_, ?_⟩, by rw [put_size, J.sz], by rw [put_defers, J.df]⟩
      · try dsimp only
        by_cases ej : j = p
        · rw [if_pos ej]
        · rw [if_neg ej]
          by_cases hlt : j < p
          · exact hp1 j x hlt hx hhx
          · have := hp'3 j x (by omega) hj hx
            rw [this] at hhx; cases hhx
      · try dsimp only
        rw [if_neg (by omega)]
        refine behind p' x (by omega) hx ?_
        simp [clash, hh, hp'4 x hx]
      · rw [hconst]; exact hT.trans ht
      · rw [hconst]; exact hslot β' (σs (p + 1)) c ht.later hc
    rcases stepS_parts hstep with ⟨hg, he⟩ | ⟨hg, hu, he⟩
    · have hw := guard_sound hrel hF (by rw [hguard]; exact hg)
      simp only [hw, if_true]
      refine .inl ((evOp_sound hC hT.ok hF hrel.op (by rw [hev]; exact he)).wp fun c w' hc => ?_)
      obtain ⟨β', ht, hv⟩ := hc
      exact hK _ _ (hnext β' w' c ht hv)
    · have hw := guard_sound hrel hF (by rw [hguard]; exact hg)
      simp only [hw, Bool.false_eq_true, if_false]
      exact hK _ _ (hnext β w undef (by rw [he]; exact Trans.refl hT.ok) (by rw [hu]; exact vrel_undef))
  · -- a light one
    have hl : s.op.heavy = false := by simpa using hh
    have hnext : ∀ (β' : Inj) (w' : World) (c : Value), Trans β (σs p) w β' (σs p) w' → VRel β' (σs p) (us i) c → DSt ops l σs us (fget (Fs 0)) β0 σ0 w0 a0 (fun j => if j = i then true else L j) (a.put o.dst c) w' := by
      intro β' w' c ht hc
      refine ⟨closed', ⟨p, hpl, fun j x hj hx hhx => ?_, fun x hx => ⟨(hp2 x hx).1, ?_⟩, β', hT.trans ht, hslot β' (σs p) c ht.later hc⟩, by rw [put_size, J.sz], by rw [put_defers, J.df]⟩
      · try dsimp only
        by_cases ej : j = i
        · rw [if_pos ej]
        · rw [if_neg ej]; exact hp1 j x hj hx hhx
      · try dsimp only
        rw [if_neg]
        · exact (hp2 x hx).2
        · intro e; subst e
          rw [hs] at hx; cases hx
          have := (hp2 s hs).1
          rw [hl] at this; cases this
    rcases stepS_parts hstep with ⟨hg, he⟩ | ⟨hg, hu, he⟩
    · have hw := guard_sound hrel hF (by rw [hguard]; exact hg)
      simp only [hw, if_true]
      -- the same value in the heap as it is now
      have hval : (evOp C (fkeep s.looks (Fs i)) (σs p) s.op).map (·.1) = some (us i) := by
        have he' : (evOp C (fkeep s.looks (Fs i)) (σs i) s.op).map (·.1) = some (us i) := by rw [hev, he]; rfl
        by_cases hr : s.op.readsMem = true
        · have hwr : ∀ (j : Nat) (x : SOper), l[j]? = some x → x.op.writes C = true → x.op.heavy = true := by
            intro j x _ hx
            cases hop : x.op <;> rw [hop] at hx <;> simp [SOp.writes] at hx <;> rfl
          rcases Nat.le_total i p with hip | hpi
          · obtain ⟨τ, hτ⟩ := heap_ext hC htr hip hpl fun (j : Nat) (x : SOper) h1 h2 hx => by
              cases hw2 : x.op.writes C with
              | false => rfl
              | true =>
                exfalso
                have hji : j ≠ i := by
                  intro e; subst e
                  rw [hs] at hx; cases hx
                  have := hwr j s hs hw2
                  rw [hl] at this; cases this
                have hd := behind j x (by omega) hx (by simp [clash, hr, hw2])
                have := hp1 j x h2 hx (hwr j x hx hw2)
                rw [hd] at this; cases this
            rw [hτ]
            exact light_mono hl he'
          · obtain ⟨τ, hτ⟩ := heap_ext hC htr hpi (by omega) fun j x h1 h2 hx => by
              cases hw2 : x.op.writes C with
              | false => rfl
              | true =>
                exfalso
                have hx2 := hwr j x hx hw2
                have hLj := ahead j x h2 hx (by simp [clash, hr, hw2])
                have hpl' : p < l.length := by omega
                have hp2' := hp2 _ (List.getElem?_eq_getElem hpl')
                by_cases ejp : j = p
                · subst ejp; rw [hp2'.2] at hLj; cases hLj
                · -- a heavy one done behind one that is not
                  have hoj : ops[j]? = some (ops[j]'(by rw [← D.len]; omega)) := by simp [show j < ops.size by rw [← D.len]; omega]
                  have := anc_done D J.closed j x _ hx hoj (fun e he hb => J.closed j _ hLj hoj e he hb) p (ordL p j _ x (by omega) (List.getElem?_eq_getElem hpl') hx (by simp [clash, hp2'.1, hx2]) (.inl hp2'.2))
                  rw [hp2'.2] at this; cases this
            rw [hτ] at he'
            rw [light_ext hl fun x hx => ?_] at he'
            · exact he'
            · have hvx : VRel β (σs p) (eval (fkeep s.looks (Fs i)) x) (a.eval x) := eval_sound hF x
              constructor
              · intro q hq
                rw [hq] at hvx
                generalize a.eval x = cx at hvx
                cases hvx with
                | ptr q obj hσ c hk h => exact ⟨obj, hσ⟩
              · intro q len cap hq
                rw [hq] at hvx
                generalize a.eval x = cx at hvx
                cases hvx with
                | sl q obj hσ len cap c cap' hsz hcap h => exact ⟨obj, hσ⟩
        · have hr' : s.op.readsMem = false := by simpa using hr
          rw [pure_any (σ' := σs i) hl hr']
          exact he'
      cases hq : evOp C (fkeep s.looks (Fs i)) (σs p) s.op with
      | none => rw [hq] at hval; cases hval
      | some r =>
        obtain ⟨v, σ'⟩ := r
        rw [hq] at hval
        simp only [Option.map_some, Option.some.injEq] at hval
        subst hval
        have hσ' := light_heap hl hq
        subst hσ'
        refine .inl ((evOp_sound hC hT.ok hF hrel.op hq).wp fun c w' hc => ?_)
        obtain ⟨β', ht, hv⟩ := hc
        exact hK _ _ (hnext β' w' c ht hv)
    · have hw := guard_sound hrel hF (by rw [hguard]; exact hg)
      simp only [hw, Bool.false_eq_true, if_false]
      exact hK _ _ (hnext β w undef (Trans.refl hT.ok) (by rw [hu]; exact vrel_undef))

end
end Go.Abs

/- The abstract machine: a region whose order is drawn and in which nothing writes. Condition: the contracts that are used hold. -/
namespace Go.Abs

/-- The same value, its new objects under other numbers. -/
inductive Ren (m : Nat → Nat) (N : Nat) : Value → Value → Prop where
  | const {v : Value} (h : constOk v = true) : Ren m N v v
  | dead : Ren m N dead dead
  | ptr (a : Addr) (h : a.block < N) : Ren m N (.pointer (some a)) (.pointer (some ⟨m a.block, a.off, a.spot⟩))
  | sl (a : Addr) (len cap : Nat) (h : a.block < N) : Ren m N (.slice (some a) len cap) (.slice (some ⟨m a.block, a.off, a.spot⟩) len cap)
  | slNil (len cap : Nat) : Ren m N (.slice none len cap) (.slice none len cap)
  | func (f : Fn) (x y x' y' : Array Value) (hx : x.size = x'.size) (hy : y.size = y'.size)
      (h1 : ∀ (i : Nat) (v v' : Value), x[i]? = some v → x'[i]? = some v' → Ren m N v v')
      (h2 : ∀ (i : Nat) (v v' : Value), y[i]? = some v → y'[i]? = some v' → Ren m N v v') : Ren m N (.func f x y) (.func f x' y')
  | iface (t : TypeId) (v v' : Value) (h : Ren m N v v') : Ren m N (.iface t v) (.iface t v')
  | agg (x x' : Array Value) (hx : x.size = x'.size) (h1 : ∀ (i : Nat) (v v' : Value), x[i]? = some v → x'[i]? = some v' → Ren m N v v') : Ren m N (.agg x) (.agg x')
  | tuple (x x' : Array Value) (hx : x.size = x'.size) (h1 : ∀ (i : Nat) (v v' : Value), x[i]? = some v → x'[i]? = some v' → Ren m N v v') : Ren m N (.tuple x) (.tuple x')

theorem vrel_constOk {β β' : Inj} {σ σ' : Heap} {v c : Value} (h : VRel β σ v c) (hk : constOk v = true) : VRel β' σ' v c := by
  cases h with
  | bool b => exact .bool b
  | int k n => exact .int k n
  | float h => exact .float h
  | string s => exact .string s
  | ptrNil => exact .ptrNil
  | slNil n m => exact .slNil n m
  | nilFunc => exact .nilFunc
  | nilIface => exact .nilIface
  | _ => simp [constOk, Go.Abs.dead] at hk

theorem Ren.pull {m : Nat → Nat} {β0 : Inj} {σ0 σ' : Heap} (hm : ∀ o, o < σ'.length → σ'[o]? = σ0[m o]?) {v v0 : Value} (h : Ren m σ'.length v v0) :
    ∀ {c : Value}, VRel β0 σ0 v0 c → VRel (fun o => β0 (m o)) σ' v c := by
  induction h with
  | const hk => intro c hr; exact vrel_constOk hr hk
  | dead => intro c _; exact .dead c
  | ptr a hlt =>
    intro c hr
    cases hr with
    | ptr _ obj hσ c hk h => exact .ptr a obj ((hm _ hlt).trans hσ) c hk h
  | sl a len cap hlt =>
    intro c hr
    cases hr with
    | sl _ obj hσ _ _ c cap' hsz hcap h => exact .sl a obj ((hm _ hlt).trans hσ) len cap c cap' hsz hcap h
  | slNil len cap => intro c hr; cases hr with | slNil => exact .slNil _ _
  | func f x y x' y' hx hy _ _ i1 i2 =>
    intro c hr
    cases hr with
    | func _ _ _ a b ha hb g1 g2 =>
      refine .func f x y a b (by omega) (by omega) (fun i v c hv hc => ?_) (fun i v c hv hc => ?_)
      · have hlt : i < x'.size := by rw [← hx]; exact (Array.getElem?_eq_some_iff.1 hv).1
        have hz : x'[i]? = some x'[i] := Array.getElem?_eq_getElem hlt
        exact i1 i v _ hv hz (g1 i _ c hz hc)
      · have hlt : i < y'.size := by rw [← hy]; exact (Array.getElem?_eq_some_iff.1 hv).1
        have hz : y'[i]? = some y'[i] := Array.getElem?_eq_getElem hlt
        exact i2 i v _ hv hz (g2 i _ c hz hc)
  | iface t v v' _ ih => intro c hr; cases hr with | iface _ _ c h => exact .iface t v c (ih h)
  | agg x x' hx _ ih =>
    intro c hr
    cases hr with
    | agg _ a ha g =>
      refine .agg x a (by omega) fun i v c hv hc => ?_
      have hlt : i < x'.size := by rw [← hx]; exact (Array.getElem?_eq_some_iff.1 hv).1
      have hz : x'[i]? = some x'[i] := Array.getElem?_eq_getElem hlt
      exact ih i v _ hv hz (g i _ c hz hc)
  | tuple x x' hx _ ih =>
    intro c hr
    cases hr with
    | tuple _ a ha g =>
      refine .tuple x a (by omega) fun i v c hv hc => ?_
      have hlt : i < x'.size := by rw [← hx]; exact (Array.getElem?_eq_some_iff.1 hv).1
      have hz : x'[i]? = some x'[i] := Array.getElem?_eq_getElem hlt
      exact ih i v _ hv hz (g i _ c hz hc)

theorem arr_self {P : Value → Value → Prop} {x y : Array Value} (hxy : x.size = y.size) (h : ∀ (i : Nat) (v v' : Value), x[i]? = some v → y[i]? = some v' → P v v) : ∀ (i : Nat) (v v' : Value), x[i]? = some v → x[i]? = some v' → P v v' := by
  intro i v v' hv hv'
  rw [hv] at hv'; cases hv'
  have hlt : i < y.size := by rw [← hxy]; exact (Array.getElem?_eq_some_iff.1 hv).1
  exact h i v _ hv (Array.getElem?_eq_getElem hlt)

/-- What stood for something knows only objects that were. -/
theorem VRel.ren {m : Nat → Nat} {N : Nat} {β : Inj} {σ : Heap} (hm : ∀ o, o < σ.length → m o = o) (hN : σ.length ≤ N) {v c : Value} (h : VRel β σ v c) : Ren m N v v := by
  have lt : ∀ {b : Nat} {obj : AObj}, σ[b]? = some obj → b < σ.length := fun {b obj} h => (List.getElem?_eq_some_iff.1 h).1
  induction h with
  | dead c => exact .dead
  | bool b => exact .const rfl
  | int k n => exact .const rfl
  | float h => exact .const rfl
  | string s => exact .const rfl
  | ptrNil => exact .const rfl
  | ptr a obj hσ c hk h =>
    have h1 := Ren.ptr (m := m) (N := N) a (Nat.lt_of_lt_of_le (lt hσ) hN)
    rw [hm _ (lt hσ)] at h1; exact h1
  | slNil n m => exact .slNil _ _
  | sl a obj hσ len cap c cap' hsz hcap h =>
    have h1 := Ren.sl (m := m) (N := N) a len cap (Nat.lt_of_lt_of_le (lt hσ) hN)
    rw [hm _ (lt hσ)] at h1; exact h1
  | func f x y x' y' hx hy _ _ i1 i2 =>
    exact .func f x y x y rfl rfl (arr_self hx i1) (arr_self hy i2)
  | nilFunc => exact .const rfl
  | nilIface => exact .const rfl
  | iface t v v' _ ih => exact .iface t v v ih
  | agg x x' hx _ ih => exact .agg x x rfl (arr_self hx ih)
  | tuple x x' hx _ ih => exact .tuple x x rfl (arr_self hx ih)


/-- What stands for something by another rule, in a heap that has more, stands for it in this heap. -/
theorem VRel.down {β1 β2 : Inj} {σ1 σ2 : Heap} (hp : ∀ o, o < σ1.length → σ1[o]? = σ2[o]?) {v u1 u2 : Value} (h1 : VRel β1 σ1 v u1) (h2 : VRel β2 σ2 v u2) : VRel β2 σ1 v u2 :=
  (h1.ren (m := fun o => o) (N := σ1.length) (fun _ _ => rfl) (Nat.le_refl _)).pull hp h2

theorem VRel.inj_ext {β β' : Inj} {σ : Heap} (hb : ∀ o s, β o = some s → β' o = some s) {v c : Value} (h : VRel β σ v c) : VRel β' σ v c := by
  induction h with
  | dead c => exact .dead c
  | bool b => exact .bool b
  | int k n => exact .int k n
  | float h => exact .float h
  | string s => exact .string s
  | ptrNil => exact .ptrNil
  | ptr a obj hσ c hk h => exact .ptr a obj hσ c hk fun hp => by obtain ⟨s, h1, h2⟩ := h hp; exact ⟨s, hb _ _ h1, h2⟩
  | slNil n m => exact .slNil n m
  | sl a obj hσ len cap c cap' hsz hcap h => exact .sl a obj hσ len cap c cap' hsz hcap fun h1 h2 h3 => by obtain ⟨s, g1, g2⟩ := h h1 h2 h3; exact ⟨s, hb _ _ g1, g2⟩
  | func f x y x' y' hx hy _ _ i1 i2 => exact .func f x y x' y' hx hy i1 i2
  | nilFunc => exact .nilFunc
  | nilIface => exact .nilIface
  | iface t v v' _ ih => exact .iface t v v' ih
  | agg x x' hx _ ih => exact .agg x x' hx ih
  | tuple x x' hx _ ih => exact .tuple x x' hx ih

/-- Of objects below a number alone. -/
def cutB (β : Inj) (m : Nat) : Inj := fun o => if o < m then β o else none
theorem cutB_some {β : Inj} {m o : Nat} {s : Spot} (h : cutB β m o = some s) : o < m ∧ β o = some s := by
  unfold cutB at h
  split at h
  · rename_i hl; exact ⟨hl, h⟩
  · cases h
theorem cutB_lt {β : Inj} {m o : Nat} (h : o < m) : cutB β m o = β o := if_pos h

/-- From a heap to one that has more. -/
theorem later_pre {β β' : Inj} {σ σ' : Heap} (hp : ∀ o, o < σ.length → σ'[o]? = σ[o]?) (hb : ∀ o, o < σ.length → β' o = β o) : Later β σ β' σ' := ⟨fun o obj h => by
  have hlt : o < σ.length := (List.getElem?_eq_some_iff.1 h).1
  exact ⟨obj, by rw [hp o hlt]; exact h, rfl, rfl, Nat.le_refl _, fun _ => hb o hlt, fun _ => rfl⟩⟩

section
variable {P : Program} {C : Ctab}

structure Drawn0 (P : Program) (ops : Array Oper) (l : List SOper) (R : Nat → Prop) : Prop where
  len : l.length = ops.size
  rel : ∀ (i : Nat) (o : Oper) (s : SOper), R i → ops[i]? = some o → l[i]? = some s → OpRel P ops o s
  back : ∀ (j : Nat) (o : Oper), ops[j]? = some o → ∀ e ∈ o.after.toList, Region.binds .any e = true → e.on < j
  anc : ∀ (j : Nat) (s : SOper) (o : Oper), l[j]? = some s → ops[j]? = some o → ∀ i, s.anc.testBit i = true → ∃ e ∈ o.after.toList, Region.binds .any e = true ∧ (e.on = i ∨ ∃ s', l[e.on]? = some s' ∧ s'.anc.testBit i = true)
  ord : ∀ (i j : Nat) (x y : SOper), i < j → l[i]? = some x → l[j]? = some y → clash0 x y = true → y.anc.testBit i = true

theorem okAgainst0_spec {o : SOper} : ∀ {done : List SOper} {n : Nat}, okAgainst0 o n done = true → ∀ (i : Nat) (x : SOper), done[i]? = some x → clash0 x o = true → o.anc.testBit (n + i) = true
  | [], n, _, i, x, hx => by simp at hx
  | y :: done, n, h, i, x, hx => by
    simp only [okAgainst0, Bool.and_eq_true] at h
    intro hc
    cases i with
    | zero => simp at hx; subst hx; simpa [hc] using h.1
    | succ i =>
      have := okAgainst0_spec h.2 i x (by simpa using hx) hc
      rw [show n + (i + 1) = n + 1 + i by omega]; exact this

theorem drawOkGo0_spec : ∀ {rest done : List SOper}, drawOkGo0 done rest = true → ∀ (i j : Nat) (x y : SOper), i < done.length + j → rest[j]? = some y → (done ++ rest)[i]? = some x → clash0 x y = true → y.anc.testBit i = true
  | [], done, _, i, j, x, y, _, hy, _ => by simp at hy
  | o :: rest, done, h, i, j, x, y, hij, hy, hx => by
    simp only [drawOkGo0, Bool.and_eq_true] at h
    intro hc
    cases j with
    | zero =>
      simp at hy; subst hy
      rw [List.getElem?_append_left (by omega)] at hx
      have := okAgainst0_spec h.1 i x hx hc
      simpa using this
    | succ j =>
      exact drawOkGo0_spec h.2 i j x y (by simp; omega) (by simpa using hy) (by simpa using hx) hc

theorem drawn0_of {ops : Array Oper} {l : List SOper} (h : rOps P ops [] ops.toList = some l) (hb : backEdges 0 ops.toList = true) (hd : drawOk0 l = true) : Drawn0 P ops l (fun _ => True) := by
  obtain ⟨h1, h2⟩ := rOps_rel h
  have hback : ∀ (j : Nat) (o : Oper), ops[j]? = some o → ∀ e ∈ o.after.toList, Region.binds .any e = true → e.on < j := by
    intro j o ho e he hbn
    have := backEdges_spec hb j o (by simpa using ho) e he hbn
    omega
  refine ⟨by simpa using h1, fun i o s _ ho hs => h2 i o s (by simpa using ho) hs, hback, ?_, ?_⟩
  · intro j s o hs ho i hi
    have ha := rOps_anc h j s o hs (by simpa using ho)
    rw [ha, List.nil_append] at hi
    rcases ancOf_bit _ _ _ _ hi with h0 | ⟨e, he, hbn, h3⟩
    · simp at h0
    · refine ⟨e, he, hbn, ?_⟩
      rcases h3 with h3 | h3
      · exact .inl h3
      · right
        have hlt := hback j o ho e he hbn
        have hjl : j < l.length := by
          rcases Nat.lt_or_ge j l.length with h' | h'
          · exact h'
          · rw [List.getElem?_eq_none h'] at hs; cases hs
        refine ⟨l[e.on]'(by omega), by simp [show e.on < l.length by omega], ?_⟩
        rw [List.getD_eq_getElem?_getD, List.getElem?_map, List.getElem?_take, if_pos hlt] at h3
        simpa [show e.on < l.length by omega] using h3
  · intro i j x y hij hx hy hc
    exact drawOkGo0_spec (done := []) hd i j x y (by simpa using hij) hy (by simpa using hx) hc

theorem anc_done0 {ops : Array Oper} {l : List SOper} {R : Nat → Prop} (D : Drawn0 P ops l R) {L : Nat → Bool} (hL : Closed ops L) : ∀ (j : Nat) (s : SOper) (o : Oper), l[j]? = some s → ops[j]? = some o → (∀ e ∈ o.after.toList, Region.binds .any e = true → L e.on = true) →
    ∀ i, s.anc.testBit i = true → L i = true := by
  intro j
  induction j using Nat.strongRecOn with
  | _ j ih =>
    intro s o hs ho hedges i hi
    obtain ⟨e, he, hb, h⟩ := D.anc j s o hs ho i hi
    rcases h with rfl | ⟨s', hs', h⟩
    · exact hedges e he hb
    · have hlt := D.back j o ho e he hb
      have hjl : e.on < l.length := by
        rcases Nat.lt_or_ge e.on l.length with h' | h'
        · exact h'
        · rw [List.getElem?_eq_none h'] at hs'; cases hs'
      have hol : e.on < ops.size := by rw [← D.len]; exact hjl
      have ho' : ops[e.on]? = some ops[e.on] := by simp [hol]
      exact ih e.on hlt s' _ hs' ho' (fun e2 he2 hb2 => hL e.on _ (hedges e he hb) ho' e2 he2 hb2) i h

/-- The state of such a region. -/
structure DStQ (ops : Array Oper) (l : List SOper) (σs : Nat → Heap) (us : Nat → Value) (base : Nat → Value) (β0 : Inj) (σ0 : Heap) (w0 : World) (a0 : Act) (L : Nat → Bool) (a : Act) (w : World) : Prop where
  closed : Closed ops L
  st : ∃ β, (∀ lev, lev ≤ l.length → InjOk (cutB β (σs lev).length) (σs lev) w) ∧ Trans β0 σ0 w0 (cutB β (σs l.length).length) (σs l.length) w ∧
    (∀ j, j < l.length → L j = false → ∀ o, (σs j).length ≤ o → o < (σs (j + 1)).length → β o = none) ∧
    ∀ t lev, lev ≤ l.length → (∀ j, lev ≤ j → j < l.length → (l[j]?).bind (·.dst) = some t → L j = false) → VRel (cutB β (σs lev).length) (σs lev) (lastW l us L base l.length t) (a.tmps.getD t undef)
  sz : a.tmps.size = a0.tmps.size
  df : a.defers = a0.defers

theorem draw_stepQ (hC : CtabOk P C) {ops : Array Oper} {l : List SOper} {R : Nat → Prop} (D : Drawn0 P ops l R) (hq : ∀ (i : Nat) (s : SOper), l[i]? = some s → s.op.writes C = false) {Fs : Nat → Frame} {σs : Nat → Heap} {us : Nat → Value}
    (htr : ∀ (i : Nat) (s : SOper), l[i]? = some s → stepS C s (Fs i) (σs i) = some (us i, Fs (i + 1), σs (i + 1))) {β0 : Inj} {σ0 : Heap} {w0 : World} {a0 : Act} (hdst : ∀ (i : Nat) (o : Oper), ops[i]? = some o → ∀ d, o.dst = some d → d < a0.tmps.size) (hσ0 : σs 0 = σ0)
    {L : Nat → Bool} {a : Act} {w : World} (J : DStQ ops l σs us (fget (Fs 0)) β0 σ0 w0 a0 L a w) {i : Nat} {o : Oper} (hR : R i) (ho : ops[i]? = some o) (hLi : L i = false) (hedges : ∀ e ∈ o.after.toList, Region.binds .any e = true → L e.on = true)
    {K : Act → World → Prop} {Q : Exit → Act → World → Prop} (hK : ∀ a' w', DStQ ops l σs us (fget (Fs 0)) β0 σ0 w0 a0 (fun j => if j = i then true else L j) a' w' → K a' w') : wpOp P ops Q i K a w := by
  have hio : i < ops.size := by
    rcases Nat.lt_or_ge i ops.size with h' | h'
    · exact h'
    · simp [Array.getElem?_eq_none h'] at ho
  have hil : i < l.length := by rw [D.len]; exact hio
  obtain ⟨s, hs⟩ : ∃ s, l[i]? = some s := ⟨l[i], by simp [hil]⟩
  have hrel := D.rel i o s hR ho hs
  have hanc := anc_done0 D J.closed i s o hs ho hedges
  obtain ⟨β, hI, hT, hN, hV⟩ := J.st
  have hstep := htr i s hs
  -- heaps only grow
  have grow : ∀ {x y : Nat}, x ≤ y → y ≤ l.length → ∃ τ, σs y = σs x ++ τ := fun {x y} hxy hy => heap_ext hC htr hxy hy fun j s _ _ hs => hq j s hs
  have glen : ∀ {x y : Nat}, x ≤ y → y ≤ l.length → (σs x).length ≤ (σs y).length := fun {x y} hxy hy => by obtain ⟨τ, h⟩ := grow hxy hy; rw [h]; simp
  have gget : ∀ {x y : Nat}, x ≤ y → y ≤ l.length → ∀ k, k < (σs x).length → (σs y)[k]? = (σs x)[k]? := fun {x y} hxy hy k hk => by
    obtain ⟨τ, h⟩ := grow hxy hy
    rw [h, List.getElem?_append_left hk]
  have ahead : ∀ (j : Nat) (x : SOper), j < i → l[j]? = some x → clash0 x s = true → L j = true := fun j x hj hx hc => hanc j (D.ord j i x s hj hx hs hc)
  have behind : ∀ (j : Nat) (x : SOper), i < j → l[j]? = some x → clash0 s x = true → L j = false := by
    intro j x hj hx hc
    cases hLj : L j with
    | false => rfl
    | true =>
      have hjl : j < l.length := by
        rcases Nat.lt_or_ge j l.length with h' | h'
        · exact h'
        · rw [List.getElem?_eq_none h'] at hx; cases hx
      have hoj : ops[j]? = some (ops[j]'(by rw [← D.len]; exact hjl)) := by simp [show j < ops.size by rw [← D.len]; exact hjl]
      have := anc_done0 D J.closed j x _ hx hoj (fun e he hb => J.closed j _ hLj hoj e he hb) i (D.ord i j s x hj hs hx hc)
      rw [hLi] at this; cases this
  have clash_dst : ∀ (j : Nat) (x : SOper) (t : Nat), l[j]? = some x → x.dst = some t → t ∈ s.looks → clash0 x s = true ∧ clash0 s x = true := by
    intro j x t hx hd ht
    have hm : memb s.looks t = true := (memb_iff t _).2 ht
    constructor
    · simp [clash0, hasDst, hd, hm]
    · simp [clash0, hasDst, hd, hm]
  have clash_same : ∀ (j : Nat) (x : SOper) (t : Nat), l[j]? = some x → x.dst = some t → s.dst = some t → clash0 s x = true := by
    intro j x t hx hd ht
    simp [clash0, sameDst, hd, ht]
  have nolook : ∀ t ∈ s.looks, ∀ j, i ≤ j → j < l.length → (l[j]?).bind (·.dst) = some t → L j = false := by
    intro t ht j h1 h2 hd
    rw [List.getElem?_eq_getElem h2] at hd
    simp only [Option.bind_some] at hd
    by_cases e : j = i
    · subst e; exact hLi
    · exact behind j _ (by omega) (List.getElem?_eq_getElem h2) (clash_dst j _ t (List.getElem?_eq_getElem h2) hd ht).2
  have hlook : ∀ t ∈ s.looks, lastW l us L (fget (Fs 0)) l.length t = fget (Fs i) t := by
    intro t ht
    have e1 : lastW l us L (fget (Fs 0)) l.length t = lastW l us L (fget (Fs 0)) i t := lastW_cut (by omega) fun j h1 h2 hd => nolook t ht j h1 h2 hd
    have e2 : lastW l us L (fget (Fs 0)) i t = lastW l us (fun _ => true) (fget (Fs 0)) i t := by
      refine lastW_congr fun j hj hd => ?_
      have h2 : j < l.length := by omega
      rw [List.getElem?_eq_getElem h2] at hd
      simp only [Option.bind_some] at hd
      exact ahead j _ hj (List.getElem?_eq_getElem h2) (clash_dst j _ t (List.getElem?_eq_getElem h2) hd ht).1
    rw [e1, e2, frame_lastW htr i (by omega) t]
  have hF : FOk (cutB β (σs i).length) (σs i) (fkeep s.looks (Fs i)) a.tmps := by
    intro t
    rw [fget_fkeep]
    split
    · rename_i hm
      have ht := (memb_iff t _).1 hm
      have := hV t i (by omega) (fun j h1 h2 hd => nolook t ht j h1 h2 hd)
      rw [hlook t ht] at this
      exact this
    · exact .dead _
  have hlooks_ops : ∀ t ∈ tmpsOf s.op.operands, t ∈ s.looks := by
    intro t ht
    unfold SOper.looks
    split
    · simp [ht]
    · exact ht
  have hev : ∀ σ, evOp C (fkeep s.looks (Fs i)) σ s.op = evOp C (Fs i) σ s.op := by
    intro σ
    refine evOp_congr fun t ht => ?_
    rw [fget_fkeep, if_pos ((memb_iff t _).2 (hlooks_ops t ht))]
  have hguard : guardOf (fkeep s.looks (Fs i)) s.guard = guardOf (Fs i) s.guard := by
    cases hg : s.guard with
    | none => rfl
    | some q =>
      obtain ⟨t, want⟩ := q
      simp only [guardOf]
      rw [fget_fkeep, if_pos ((memb_iff t _).2 (by simp [SOper.looks, hg]))]
  have closed' : Closed ops (fun j => if j = i then true else L j) := by
    intro j o' hj ho' e he hb
    dsimp only at hj ⊢
    by_cases ej : j = i
    · subst ej
      rw [ho] at ho'; cases ho'
      by_cases ee : e.on = j
      · rw [if_pos ee]
      · rw [if_neg ee]; exact hedges e he hb
    · rw [if_neg ej] at hj
      by_cases ee : e.on = i
      · rw [if_pos ee]
      · rw [if_neg ee]; exact J.closed j o' hj ho' e he hb
  -- what comes of it
  have main : ∀ (β2 : Inj) (w' : World) (c : Value), Trans (cutB β (σs i).length) (σs i) w β2 (σs (i + 1)) w' → VRel β2 (σs (i + 1)) (us i) c → DStQ ops l σs us (fget (Fs 0)) β0 σ0 w0 a0 (fun j => if j = i then true else L j) (a.put o.dst c) w' := by
    intro β2 w' c T hc
    obtain ⟨βn, hβn⟩ : ∃ βn : Inj, ∀ k, βn k = if k < (σs (i + 1)).length then β2 k else β k := ⟨_, fun _ => rfl⟩
    have b2 : ∀ k, k < (σs i).length → β2 k = β k := by
      intro k hk
      have hx : (σs i)[k]? = some (σs i)[k] := List.getElem?_eq_getElem hk
      obtain ⟨obj', g1, _, _, _, g5, _⟩ := T.later.at_ k _ hx
      have g0 := gget (show i ≤ i + 1 by omega) (by omega) k hk
      rw [g0, hx] at g1
      cases g1
      rw [g5 rfl, cutB_lt hk]
    have hli := glen (show i ≤ i + 1 by omega) (by omega)
    have ext : ∀ k t, β k = some t → βn k = some t := by
      intro k t hk
      rw [hβn]
      split
      · rename_i hlt
        by_cases h2 : k < (σs i).length
        · rw [b2 k h2]; exact hk
        · rw [hN i hil hLi k (by omega) hlt] at hk; cases hk
      · exact hk
    have extc : ∀ m k t, cutB β m k = some t → cutB βn m k = some t := by
      intro m k t hk
      obtain ⟨h1, h2⟩ := cutB_some hk
      rw [cutB_lt h1]; exact ext k t h2
    have T0 := hI i (by omega)
    -- blocks of objects that are not of this operation's heap stay
    have stay : ∀ lev, lev ≤ l.length → ∀ k t, (σs (i + 1)).length ≤ k → k < (σs lev).length → β k = some t → w'.heap[t.blk]? = w.heap[t.blk]? ∧ t.blk < w.heap.size := by
      intro lev hlev k t h1 h2 h3
      have hk' : cutB β (σs lev).length k = some t := by rw [cutB_lt h2]; exact h3
      obtain ⟨cc, e, fz, hb, _⟩ := (hI lev hlev).obj k _ t (List.getElem?_eq_getElem h2) hk'
      refine ⟨T.keep _ (block_lt hb) ?_, block_lt hb⟩
      rintro ⟨k2, obj2, t2, g1, g2, g3, g4⟩
      obtain ⟨g5, g6⟩ := cutB_some g3
      have hle : i ≤ lev := by
        rcases Nat.le_total i lev with h' | h'
        · exact h'
        · have := glen h' (by omega); omega
      have := (hI lev hlev).inj k2 k obj2 t2 t (by rw [gget hle hlev k2 g5]; exact g1) g2 (by rw [cutB_lt (by omega)]; exact g6) hk' g4
      omega
    have inew : ∀ lev, lev ≤ l.length → InjOk (cutB βn (σs lev).length) (σs lev) w' := by
      intro lev hlev
      rcases Nat.lt_or_ge i lev with hlt | hge
      · -- this operation's heap lies in it
        have hle : i + 1 ≤ lev := hlt
        have lat : Later β2 (σs (i + 1)) (cutB βn (σs lev).length) (σs lev) := later_pre (fun k hk => gget hle hlev k hk) fun k hk => by rw [cutB_lt (by have := glen hle hlev; omega), hβn, if_pos hk]
        refine ⟨fun k t hk => (cutB_some hk).1, fun k obj t hk ht => ?_, fun k k' obj t t' hk hrw ht ht' hb => ?_⟩
        · obtain ⟨h1, h2⟩ := cutB_some ht
          rw [hβn] at h2
          split at h2
          · rename_i hlt2
            obtain ⟨cc, e, fz, g1, g2, g3⟩ := T.ok.obj k obj t (by rw [← gget hle hlev k hlt2]; exact hk) h2
            exact ⟨cc, e, fz, g1, fun j v hj => by obtain ⟨u, hu, hr⟩ := g2 j v hj; exact ⟨u, hu, hr.later lat⟩, g3⟩
          · rename_i hge2
            obtain ⟨cc, e, fz, g1, g2, g3⟩ := (hI lev hlev).obj k obj t hk (by rw [cutB_lt h1]; exact h2)
            exact ⟨cc, e, fz, by rw [(stay lev hlev k t (by omega) h1 h2).1]; exact g1, fun j v hj => by obtain ⟨u, hu, hr⟩ := g2 j v hj; exact ⟨u, hu, hr.inj_ext (extc _)⟩, g3⟩
        · obtain ⟨h1, h2⟩ := cutB_some ht
          obtain ⟨h1', h2'⟩ := cutB_some ht'
          rw [hβn] at h2 h2'
          split at h2 <;> split at h2'
          · rename_i q1 q2
            exact T.ok.inj k k' obj t t' (by rw [← gget hle hlev k q1]; exact hk) hrw h2 h2' hb
          · rename_i q1 q2
            exfalso
            have hw := (stay lev hlev k' t' (by omega) h1' h2').2
            have hr2 := T.grow t.blk (by rw [hb]; exact hw) ⟨k, obj, t, by rw [← gget hle hlev k q1]; exact hk, hrw, h2, rfl⟩
            obtain ⟨k3, obj3, t3, g1, g2, g3, g4⟩ := hr2
            obtain ⟨g5, g6⟩ := cutB_some g3
            have := (hI lev hlev).inj k3 k' obj3 t3 t' (by rw [gget (by omega) hlev k3 g5]; exact g1) g2 (by rw [cutB_lt (by have := glen (show i ≤ lev by omega) hlev; omega)]; exact g6) (by rw [cutB_lt h1']; exact h2') (g4.trans hb)
            omega
          · rename_i q1 q2
            exfalso
            have hw := (stay lev hlev k t (by omega) h1 h2).2
            rcases T.fresh k' t' h2' with g | g
            · obtain ⟨g5, g6⟩ := cutB_some g
              have := (hI lev hlev).inj k k' obj t t' hk hrw (by rw [cutB_lt h1]; exact h2) (by rw [cutB_lt h1']; exact g6) hb
              omega
            · omega
          · exact (hI lev hlev).inj k k' obj t t' hk hrw (by rw [cutB_lt h1]; exact h2) (by rw [cutB_lt h1']; exact h2') hb
      · -- it lies in this operation's heap
        have hle : lev ≤ i := hge
        have hll := glen hle (by omega)
        have same : ∀ k, k < (σs lev).length → βn k = β k ∧ β2 k = β k := by
          intro k hk
          have := b2 k (by omega)
          exact ⟨by rw [hβn, if_pos (by omega), this], this⟩
        refine ⟨fun k t hk => (cutB_some hk).1, fun k obj t hk ht => ?_, fun k k' obj t t' hk hrw ht ht' hb => ?_⟩
        · obtain ⟨h1, h2⟩ := cutB_some ht
          rw [(same k h1).1] at h2
          obtain ⟨cc, e, fz, g1, g2, g3⟩ := T.ok.obj k obj t (by rw [gget (show lev ≤ i + 1 by omega) (by omega) k h1]; exact hk) (by rw [(same k h1).2]; exact h2)
          obtain ⟨_, _, _, _, g5, _⟩ := (hI lev hlev).obj k obj t hk (by rw [cutB_lt h1]; exact h2)
          refine ⟨cc, e, fz, g1, fun j v hj => ?_, g3⟩
          obtain ⟨u, hu, hr⟩ := g2 j v hj
          obtain ⟨u1, _, hr1⟩ := g5 j v hj
          have hd := hr1.down (fun k hk => (gget (show lev ≤ i + 1 by omega) (by omega) k hk).symm) hr
          exact ⟨u, hu, hd.later (later_pre (fun k _ => rfl) fun k hk => by rw [cutB_lt hk, (same k hk).1, (same k hk).2])⟩
        · obtain ⟨h1, h2⟩ := cutB_some ht
          obtain ⟨h1', h2'⟩ := cutB_some ht'
          rw [(same k h1).1] at h2
          rw [(same k' h1').1] at h2'
          exact (hI lev hlev).inj k k' obj t t' hk hrw (by rw [cutB_lt h1]; exact h2) (by rw [cutB_lt h1']; exact h2') hb
    have hl0 : (σs 0).length ≤ (σs l.length).length := glen (Nat.zero_le _) (Nat.le_refl _)
    refine ⟨closed', ⟨βn, inew, ?_, ?_, ?_⟩, by rw [put_size, J.sz], by rw [put_defers, J.df]⟩
    · refine { ok := inew _ (Nat.le_refl _), later := ?_, len := hT.len, size := Nat.le_trans hT.size T.size, keep := fun b hb hn => ?_, grow := fun b hb hr => ?_, fresh := fun k t hk => ?_, os := T.os.trans hT.os, tape := T.tape.trans hT.tape, output := T.output.trans hT.output }
      · refine later_pre (fun k hk => ?_) fun k hk => ?_
        · rw [← hσ0] at hk ⊢; exact gget (Nat.zero_le _) (Nat.le_refl _) k hk
        · have hk2 : k < (σs i).length := by rw [← hσ0] at hk; have := glen (Nat.zero_le i) (by omega); omega
          have hk3 : k < (σs l.length).length := by rw [← hσ0] at hk; omega
          have hx : σ0[k]? = some σ0[k] := List.getElem?_eq_getElem hk
          obtain ⟨obj', g1, _, _, _, g5, _⟩ := hT.later.at_ k _ hx
          have g0 := gget (Nat.zero_le l.length) (Nat.le_refl _) k (by rw [hσ0]; exact hk)
          rw [g0, hσ0, hx] at g1
          cases g1
          have g6 := g5 rfl
          rw [cutB_lt hk3] at g6 ⊢
          rw [hβn, if_pos (by omega), b2 k hk2, g6]
      · rw [T.keep b (Nat.lt_of_lt_of_le hb hT.size) ?_, hT.keep b hb hn]
        rintro ⟨k, obj, t, g1, g2, g3, g4⟩
        obtain ⟨g5, g6⟩ := cutB_some g3
        refine hn (hT.grow b hb ⟨k, obj, t, by rw [gget (by omega) (Nat.le_refl _) k g5]; exact g1, g2, ?_, g4⟩)
        rw [cutB_lt (by have := glen (show i ≤ l.length by omega) (Nat.le_refl _); omega)]; exact g6
      · obtain ⟨k, obj, t, g1, g2, g3, g4⟩ := hr
        obtain ⟨g5, g6⟩ := cutB_some g3
        rw [hβn] at g6
        split at g6
        · rename_i q
          have hr2 := T.grow b (Nat.lt_of_lt_of_le hb hT.size) ⟨k, obj, t, by rw [← gget (show i + 1 ≤ l.length by omega) (Nat.le_refl _) k q]; exact g1, g2, g6, g4⟩
          obtain ⟨k3, obj3, t3, e1, e2, e3, e4⟩ := hr2
          obtain ⟨e5, e6⟩ := cutB_some e3
          refine hT.grow b hb ⟨k3, obj3, t3, by rw [gget (by omega) (Nat.le_refl _) k3 e5]; exact e1, e2, ?_, e4⟩
          rw [cutB_lt (by have := glen (show i ≤ l.length by omega) (Nat.le_refl _); omega)]; exact e6
        · exact hT.grow b hb ⟨k, obj, t, g1, g2, by rw [cutB_lt g5]; exact g6, g4⟩
      · obtain ⟨h1, h2⟩ := cutB_some hk
        rw [hβn] at h2
        split at h2
        · rename_i q
          rcases T.fresh k t h2 with g | g
          · obtain ⟨g5, g6⟩ := cutB_some g
            exact hT.fresh k t (by rw [cutB_lt h1]; exact g6)
          · exact .inr (Nat.le_trans hT.size g)
        · exact hT.fresh k t (by rw [cutB_lt h1]; exact h2)
    · intro j hj hLj k h1 h2
      by_cases e : j = i
      · rw [if_pos e] at hLj; cases hLj
      · rw [if_neg e] at hLj
        have hn := hN j hj hLj k h1 h2
        rw [hβn]
        split
        · rename_i q
          rcases Nat.lt_or_ge j i with hji | hji
          · rw [b2 k (by have := glen (show j + 1 ≤ i by omega) (by omega); omega)]; exact hn
          · have := glen (show i + 1 ≤ j by omega) (by omega); omega
        · exact hn
    · intro t lev hlev hno
      by_cases hd : s.dst = some t
      · have hil2 : i < lev := by
          rcases Nat.lt_or_ge i lev with h' | h'
          · exact h'
          · have := hno i h' hil (by rw [hs]; exact hd)
            simp at this
        have e1 : lastW l us (fun j => if j = i then true else L j) (fget (Fs 0)) l.length t = us i := by
          rw [lastW_cut (i := i + 1) (by omega) fun j h1 h2 hdj => ?_]
          · simp [lastW, hs, hd]
          · rw [List.getElem?_eq_getElem h2] at hdj
            simp only [Option.bind_some] at hdj
            try dsimp only
            rw [if_neg (by omega)]
            exact behind j _ (by omega) (List.getElem?_eq_getElem h2) (clash_same j _ t (List.getElem?_eq_getElem h2) hdj hd)
        rw [e1]
        have hod : o.dst = some t := by rw [← hrel.dst]; exact hd
        have hlt : t < a.tmps.size := by rw [J.sz]; exact hdst i o ho t hod
        have hgl := glen (x := i + 1) (y := lev) hil2 hlev
        have hc2 : VRel (cutB βn (σs lev).length) (σs lev) (us i) c := hc.later (later_pre (fun k hk => gget hil2 hlev k hk) fun k hk => by rw [cutB_lt (Nat.lt_of_lt_of_le hk hgl), hβn, if_pos hk])
        simpa [Act.put, hod, Array.getD_eq_getD_getElem?, hlt] using hc2
      · have e1 : lastW l us (fun j => if j = i then true else L j) (fget (Fs 0)) l.length t = lastW l us L (fget (Fs 0)) l.length t := by
          refine lastW_congr fun j hj hdj => ?_
          try dsimp only
          rw [if_neg]
          intro ej; subst ej
          rw [hs] at hdj
          exact hd (by simpa using hdj)
        rw [e1]
        have h0 := (hV t lev hlev fun j h1 h2 hdj => by
          have := hno j h1 h2 hdj
          by_cases e : j = i
          · rw [if_pos e] at this; cases this
          · rw [if_neg e] at this; exact this).inj_ext (extc (σs lev).length)
        cases hod : o.dst with
        | none => simpa [Act.put, hod] using h0
        | some d =>
          have hne : d ≠ t := fun e => hd (by rw [hrel.dst, hod, e])
          rw [Array.getD_eq_getD_getElem?] at h0 ⊢
          simp only [Act.put]
          rw [Array.getElem?_setIfInBounds, if_neg hne]
          exact h0
  unfold wpOp
  rw [ho]
  rcases stepS_parts hstep with ⟨hg, he⟩ | ⟨hg, hu, he⟩
  · have hw := guard_sound hrel hF (by rw [hguard]; exact hg)
    simp only [hw, if_true]
    refine .inl ((evOp_sound hC (hI i (by omega)) hF hrel.op (by rw [hev]; exact he)).wp fun c w' hc => ?_)
    obtain ⟨β', ht, hv⟩ := hc
    exact hK _ _ (main β' w' c ht hv)
  · have hw := guard_sound hrel hF (by rw [hguard]; exact hg)
    simp only [hw, Bool.false_eq_true, if_false]
    exact hK _ _ (main (cutB β (σs i).length) w undef (by rw [he]; exact Trans.refl (hI i (by omega))) (by rw [hu]; exact vrel_undef))

theorem dstq_init {ops : Array Oper} {l : List SOper} {Fs : Nat → Frame} {σs : Nat → Heap} {us : Nat → Value} {F : Frame} {β : Inj} {σ : Heap} {w : World} {a : Act} (e1 : Fs 0 = F) (e2 : σs 0 = σ)
    (glen : ∀ {x y : Nat}, x ≤ y → y ≤ l.length → ∃ τ, σs y = σs x ++ τ) (hok : InjOk β σ w) (hF : FOk β σ F a.tmps) {L : Nat → Bool} (hL0 : ∀ i, L i = false) : DStQ ops l σs us (fget (Fs 0)) β σ w a L a { w with drawn := w.drawn + 1 } := by
  have hok1 : InjOk β σ { w with drawn := w.drawn + 1 } := hok.drawn _
  have pre : ∀ lev, lev ≤ l.length → ∀ o, o < σ.length → (σs lev)[o]? = σ[o]? := by
    intro lev hlev o ho
    obtain ⟨τ, hτ⟩ := glen (Nat.zero_le lev) hlev
    rw [hτ, e2, List.getElem?_append_left ho]
  have len : ∀ lev, lev ≤ l.length → σ.length ≤ (σs lev).length := by
    intro lev hlev
    obtain ⟨τ, hτ⟩ := glen (Nat.zero_le lev) hlev
    rw [hτ, e2]; simp
  have cut : ∀ lev, lev ≤ l.length → cutB β (σs lev).length = β := by
    intro lev hlev
    funext o
    unfold cutB
    split
    · rfl
    · rename_i hge
      cases hb2 : β o with
      | none => rfl
      | some s => have := hok.dom o s hb2; have := len lev hlev; omega
  have lat : ∀ lev, lev ≤ l.length → Later β σ β (σs lev) := fun lev hlev => later_pre (fun o ho => pre lev hlev o ho) fun o _ => rfl
  have inj : ∀ lev, lev ≤ l.length → InjOk β (σs lev) { w with drawn := w.drawn + 1 } := by
    intro lev hlev
    refine ⟨fun o s hs => Nat.lt_of_lt_of_le (hok.dom o s hs) (len lev hlev), fun o obj s ho hs => ?_, fun o o' obj s s' ho hrw hs hs' hb => ?_⟩
    · have ho' : σ[o]? = some obj := by rw [← pre lev hlev o (hok.dom o s hs)]; exact ho
      obtain ⟨c, e, fz, g1, g2, g3⟩ := hok1.obj o obj s ho' hs
      exact ⟨c, e, fz, g1, fun j v hj => by obtain ⟨u, hu, hr⟩ := g2 j v hj; exact ⟨u, hu, hr.later (lat lev hlev)⟩, g3⟩
    · exact hok1.inj o o' obj s s' (by rw [← pre lev hlev o (hok.dom o s hs)]; exact ho) hrw hs hs' hb
  refine ⟨fun j o hj => absurd hj (by rw [hL0]; decide), ⟨β, fun lev hlev => by rw [cut lev hlev]; exact inj lev hlev, ?_, fun j hj _ o h1 h2 => ?_, fun t lev hlev _ => ?_⟩, rfl, rfl⟩
  · rw [cut _ (Nat.le_refl _)]
    refine { ok := inj _ (Nat.le_refl _), later := lat _ (Nat.le_refl _), len := len _ (Nat.le_refl _), size := Nat.le_refl _, keep := fun _ _ _ => rfl, grow := fun b hb hr => ?_, fresh := fun _ _ h => .inl h, os := rfl, tape := rfl, output := rfl }
    obtain ⟨o, obj, s, g1, g2, g3, g4⟩ := hr
    exact ⟨o, obj, s, by rw [← pre _ (Nat.le_refl _) o (hok.dom o s g3)]; exact g1, g2, g3, g4⟩
  · cases hb2 : β o with
    | none => rfl
    | some s => have := hok.dom o s hb2; have := len j (by omega); omega
  · rw [cut lev hlev, lastW_cut (i := 0) (by omega) fun j _ _ _ => hL0 j, e1]
    exact (hF t).later (lat lev hlev)

end
end Go.Abs

