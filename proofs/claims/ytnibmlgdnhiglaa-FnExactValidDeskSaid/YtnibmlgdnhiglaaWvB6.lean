/- The abstract machine: regions, in the order of the text and in any order. Condition: the contracts that are used hold. -/
import Derived.Test.YtnibmlgdnhiglaaWvB5
namespace Go.Abs

theorem beq_dec (a b : Nat) : Nat.beq a b = decide (a = b) := by
  by_cases h : a = b
  · subst h; simp
  · have : Nat.beq a b = false := by
      cases hb : Nat.beq a b with
      | false => rfl
      | true => exact absurd (Nat.eq_of_beq_eq_true hb) h
    simp [this, h]

theorem fget_fset (F : Frame) (t : Nat) (v : Value) (s : Nat) : fget (fset F t v) s = if s = t then v else fget F s := by
  simp only [fset, fget, beq_dec]
  by_cases h : s = t
  · subst h; simp
  · have : ¬ t = s := fun e => h e.symm
    simp [h, this]

theorem fget_fkeep : ∀ (K : List Nat) (F : Frame) (s : Nat), fget (fkeep K F) s = if memb K s = true then fget F s else dead
  | [], F, s => by simp [fkeep, fget, memb]
  | u :: K, F, s => by
    simp only [fkeep, fget, memb, beq_dec]
    rw [fget_fkeep K F s]
    by_cases h : u = s
    · subst h; simp
    · simp [h]

section
variable {P : Program} {C : Ctab} {β : Inj} {σ : Heap} {w : World} {F : Frame} {a : Act} {v : Value}

theorem FOk.keep {tmps : Array Value} (h : FOk β σ F tmps) (K : List Nat) : FOk β σ (fkeep K F) tmps := by
  intro t
  rw [fget_fkeep]
  split
  · exact h t
  · exact .dead _

theorem FOk.put {c : Value} (h : FOk β σ F a.tmps) (hv : VRel β σ v c) (dst : Option Nat) (hd : ∀ d, dst = some d → d < a.tmps.size) : FOk β σ (fput F dst v) (a.put dst c).tmps := by
  cases dst with
  | none => exact h
  | some d =>
    intro t
    simp only [fput, Act.put]
    rw [fget_fset]
    by_cases e : t = d
    · subst e
      rw [if_pos rfl]
      have := hd t rfl
      simpa [Array.getD_eq_getD_getElem?, this] using hv
    · rw [if_neg e]
      have := h t
      rw [Array.getD_eq_getD_getElem?] at this ⊢
      rw [Array.getElem?_setIfInBounds, if_neg (fun h => e h.symm)]
      exact this

theorem put_size (dst : Option Nat) (c : Value) : (a.put dst c).tmps.size = a.tmps.size := by cases dst <;> simp [Act.put]
theorem put_defers (dst : Option Nat) (c : Value) : (a.put dst c).defers = a.defers := by cases dst <;> simp [Act.put]

theorem vrel_undef : VRel β σ undef undef := .tuple _ _ rfl fun i v v' hv => by simp at hv

/-- Operation by operation the resolved region is the region. -/
structure OpRel (P : Program) (all : Array Oper) (o : Oper) (s : SOper) : Prop where
  op : rOp P o.op = some s.op
  dst : s.dst = o.dst
  guard : match o.guard with
    | none => s.guard = none
    | some (j, want) => ∃ d, (all[j]?).bind (·.dst) = some d ∧ s.guard = some (d, want)

theorem rOps_rel {all : Array Oper} : ∀ {ops : List Oper} {anc : List Nat} {l : List SOper}, rOps P all anc ops = some l → l.length = ops.length ∧ ∀ (i : Nat) (o : Oper) (s : SOper), ops[i]? = some o → l[i]? = some s → OpRel P all o s
  | [], anc, l, h => by simp [rOps] at h; subst h; simp
  | o :: ops, anc, l, h => by
    unfold rOps at h
    simp only at h
    split at h
    · cases h
    · rename_i s hs
      split at h
      · rename_i hg
        cases hr : rOps P all (anc ++ [ancOf anc o.after.toList]) ops with
        | none => rw [hr] at h; cases h
        | some l' =>
          rw [hr] at h; cases h
          obtain ⟨h1, h2⟩ := rOps_rel hr
          refine ⟨by simp [h1], fun i o' s' ho hs' => ?_⟩
          cases i with
          | zero => simp at ho hs'; subst ho; subst hs'; exact ⟨hs, rfl, by rw [hg]⟩
          | succ i => exact h2 i o' s' (by simpa using ho) (by simpa using hs')
      · rename_i j want hg
        split at h
        · rename_i d hd
          cases hr : rOps P all (anc ++ [ancOf anc o.after.toList]) ops with
          | none => rw [hr] at h; cases h
          | some l' =>
            rw [hr] at h; cases h
            obtain ⟨h1, h2⟩ := rOps_rel hr
            refine ⟨by simp [h1], fun i o' s' ho hs' => ?_⟩
            cases i with
            | zero => simp at ho hs'; subst ho; subst hs'; exact ⟨hs, rfl, by rw [hg]; exact ⟨d, hd, rfl⟩⟩
            | succ i => exact h2 i o' s' (by simpa using ho) (by simpa using hs')
        · cases h

theorem guard_sound {all : Array Oper} {o : Oper} {s : SOper} (hr : OpRel P all o s) (hF : FOk β σ F a.tmps) {g : Bool} (h : guardOf F s.guard = some g) : Region.wanted o (yielded all a.tmps) = g := by
  have hg := hr.guard
  unfold Region.wanted
  cases ho : o.guard with
  | none => rw [ho] at hg; simp only at hg; rw [hg] at h; simp [guardOf] at h; simp [h]
  | some p =>
    obtain ⟨j, want⟩ := p
    rw [ho] at hg
    obtain ⟨d, hd, hs⟩ := hg
    rw [hs] at h
    simp only [guardOf] at h
    have hv := hF d
    have hy : yielded all a.tmps j = match a.tmps[d]? with | some (.bool b) => some b | _ => none := by
      unfold yielded; rw [hd]; rfl
    simp only
    split at h
    · rename_i b hb
      cases h
      rw [hb] at hv
      rw [Array.getD_eq_getD_getElem?] at hv
      cases ht : a.tmps[d]? with
      | none => rw [ht] at hv; simp [undef] at hv; cases hv
      | some c =>
        rw [ht] at hv
        simp only [Option.getD_some] at hv
        cases hv
        rw [hy, ht]
        cases b <;> cases want <;> rfl
    · rename_i vs hb
      cases h
      rw [hb] at hv
      rw [Array.getD_eq_getD_getElem?] at hv
      cases ht : a.tmps[d]? with
      | none => rw [hy, ht]; rfl
      | some c =>
        rw [ht] at hv
        simp only [Option.getD_some] at hv
        cases hv
        rw [hy, ht]; rfl
    · cases h

/-- Where a step of a region has led. -/
structure At (β : Inj) (σ : Heap) (w : World) (β' : Inj) (σ' : Heap) (w' : World) (F' : Frame) (a a' : Act) : Prop where
  tr : Trans β σ w β' σ' w'
  fr : FOk β' σ' F' a'.tmps
  sz : a'.tmps.size = a.tmps.size
  df : a'.defers = a.defers

/-- The order of the text. -/
theorem evOps_sound (hC : CtabOk P C) (ops : Array Oper) : ∀ (l : List SOper) (rest : List Oper) (k : Nat) (β : Inj) (σ : Heap) (w : World) (F : Frame) (a : Act), (∀ i, rest[i]? = ops[k + i]?) → l.length = rest.length →
    (∀ (i : Nat) (o : Oper) (s : SOper), rest[i]? = some o → l[i]? = some s → OpRel P ops o s) → (∀ o ∈ rest, ∀ d, o.dst = some d → d < a.tmps.size) → InjOk β σ w → FOk β σ F a.tmps → ∀ {F' : Frame} {σ' : Heap}, evOps C l F σ = some (F', σ') →
    ∀ {Q : Exit → Act → World → Prop}, (∀ a' w' β', At β σ w β' σ' w' F' a a' → Q .normal a' w') → wpOps P ops Q (List.range' k rest.length) a w := by
  intro l
  induction l with
  | nil =>
    intro rest k β σ w F a hk hl hrel hd hok hF F' σ' h Q hQ
    have : rest = [] := List.length_eq_zero_iff.1 hl.symm
    subst this
    simp [evOps] at h
    obtain ⟨rfl, rfl⟩ := h
    exact hQ a w β ⟨Trans.refl hok, hF, rfl, rfl⟩
  | cons s l ih =>
    intro rest k β σ w F a hk hl hrel hd hok hF F' σ' h Q hQ
    cases rest with
    | nil => cases hl
    | cons o rest =>
      have ho : ops[k]? = some o := by have := hk 0; simpa using this.symm
      have hr := hrel 0 o s (by simp) (by simp)
      have hk' : ∀ i, rest[i]? = ops[k + 1 + i]? := fun i => by have := hk (i + 1); simpa [Nat.add_assoc, Nat.add_comm 1 i] using this
      have hrel' : ∀ (i : Nat) (o : Oper) (s : SOper), rest[i]? = some o → l[i]? = some s → OpRel P ops o s := fun i o s h1 h2 => hrel (i + 1) o s (by simpa using h1) (by simpa using h2)
      have hdo : ∀ d, s.dst = some d → d < a.tmps.size := fun d hd' => hd o (by simp) d (by rw [← hr.dst]; exact hd')
      simp only [List.length_cons, List.range'_succ]
      rw [wpOps_cons]
      unfold wpOp
      rw [ho]
      simp only [evOps] at h
      split at h
      · rename_i g hg
        have hw := guard_sound hr hF hg
        cases g with
        | true =>
          simp only [cond_true] at h
          cases he : evOp C F σ s.op with
          | none => rw [he] at h; cases h
          | some r =>
            obtain ⟨v, σ1⟩ := r
            rw [he] at h
            simp only [Option.bind_some] at h
            simp only [hw, if_true]
            refine .inl ((evOp_sound hC hok hF hr.op he).wp fun c w' hc => ?_)
            obtain ⟨β1, htr, hv⟩ := hc
            have hF1 : FOk β1 σ1 (fput F s.dst v) (a.put o.dst c).tmps := by
              rw [← hr.dst]; exact (hF.later htr.later).put hv s.dst hdo
            refine ih rest (k + 1) β1 σ1 w' _ (a.put o.dst c) hk' (by simpa using hl) hrel' (fun o' ho' d hd' => by rw [put_size]; exact hd o' (by simp [ho']) d hd') htr.ok hF1 h ?_
            intro a' w2 β2 hat
            exact hQ a' w2 β2 ⟨htr.trans hat.tr, hat.fr, by rw [hat.sz, put_size], by rw [hat.df, put_defers]⟩
        | false =>
          simp only [cond_false] at h
          simp only [hw, Bool.false_eq_true, if_false]
          have hF1 : FOk β σ (fput F s.dst undef) (a.put o.dst undef).tmps := by
            rw [← hr.dst]; exact hF.put vrel_undef s.dst hdo
          refine ih rest (k + 1) β σ w _ (a.put o.dst undef) hk' (by simpa using hl) hrel' (fun o' ho' d hd' => by rw [put_size]; exact hd o' (by simp [ho']) d hd') hok hF1 h ?_
          intro a' w2 β2 hat
          exact hQ a' w2 β2 ⟨hat.tr, hat.fr, by rw [hat.sz, put_size], by rw [hat.df, put_defers]⟩
      · cases h

end
end Go.Abs
