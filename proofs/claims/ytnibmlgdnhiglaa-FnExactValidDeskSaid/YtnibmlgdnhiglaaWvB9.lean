/- The abstract machine: a region whose order is drawn comes to what it comes to in the order of the text. Condition: the contracts that are used hold. -/
import Derived.Test.YtnibmlgdnhiglaaWvB8
namespace Go.Abs

section
variable {P : Program} {C : Ctab}

theorem stepS_parts {s : SOper} {F F1 : Frame} {σ σ1 : Heap} {u : Value} (h : stepS C s F σ = some (u, F1, σ1)) :
    (guardOf F s.guard = some true ∧ evOp C F σ s.op = some (u, σ1)) ∨ (guardOf F s.guard = some false ∧ u = undef ∧ σ1 = σ) := by
  unfold stepS at h
  split at h
  · rename_i g hg
    cases g with
    | true =>
      left
      simp only [cond_true] at h
      cases he : evOp C F σ s.op with
      | none => rw [he] at h; cases h
      | some r =>
        rw [he] at h
        simp only [Option.map_some, Option.some.injEq, Prod.mk.injEq] at h
        exact ⟨hg, by rw [← h.1, ← h.2.2]⟩
    | false =>
      right
      simp only [cond_false, Option.some.injEq, Prod.mk.injEq] at h
      exact ⟨hg, h.1.symm, h.2.2.symm⟩
  · cases h

/-- The next heavy operation. -/
theorem nextHeavy (l : List SOper) (i : Nat) (hi : i ≤ l.length) : ∃ p, i ≤ p ∧ p ≤ l.length ∧ (∀ j s, i ≤ j → j < p → l[j]? = some s → s.op.heavy = false) ∧ (∀ s, l[p]? = some s → s.op.heavy = true) := by
  obtain ⟨d, hd⟩ : ∃ d, l.length = i + d := ⟨l.length - i, by omega⟩
  induction d generalizing i with
  | zero => exact ⟨i, Nat.le_refl _, hi, fun j s h1 h2 => by omega, fun s hs => by rw [List.getElem?_eq_none (by omega)] at hs; cases hs⟩
  | succ d ih =>
    have hlt : i < l.length := by omega
    cases hh : l[i].op.heavy with
    | true => exact ⟨i, Nat.le_refl _, hi, fun j s h1 h2 => by omega, fun s hs => by rw [List.getElem?_eq_getElem hlt] at hs; cases hs; exact hh⟩
    | false =>
      obtain ⟨p, h1, h2, h3, h4⟩ := ih (i + 1) (by omega) (by omega)
      refine ⟨p, by omega, h2, fun j s hj1 hj2 hs => ?_, h4⟩
      by_cases e : j = i
      · subst e; rw [List.getElem?_eq_getElem hlt] at hs; cases hs; exact hh
      · exact h3 j s (by omega) hj2 hs

theorem heap_const {l : List SOper} {Fs : Nat → Frame} {σs : Nat → Heap} {us : Nat → Value} (h : ∀ (i : Nat) (s : SOper), l[i]? = some s → stepS C s (Fs i) (σs i) = some (us i, Fs (i + 1), σs (i + 1)))
    {i p : Nat} (hip : i ≤ p) (hp : p ≤ l.length) (hl : ∀ j s, i ≤ j → j < p → l[j]? = some s → s.op.heavy = false) : σs p = σs i := by
  induction hip with
  | refl => rfl
  | step hle ih =>
    rename_i m
    have hm : m < l.length := by omega
    have hs := h m l[m] (by simp [hm])
    rw [← ih (by omega) fun j s h1 h2 hs => hl j s h1 (by omega) hs]
    rcases stepS_parts hs with ⟨_, he⟩ | ⟨_, _, he⟩
    · exact light_heap (hl m l[m] (by have : i ≤ m := hle; omega) (by omega) (by simp [hm])) he
    · exact he

theorem heap_ext (hC : CtabOk P C) {l : List SOper} {Fs : Nat → Frame} {σs : Nat → Heap} {us : Nat → Value} (h : ∀ (i : Nat) (s : SOper), l[i]? = some s → stepS C s (Fs i) (σs i) = some (us i, Fs (i + 1), σs (i + 1)))
    {i p : Nat} (hip : i ≤ p) (hp : p ≤ l.length) (hl : ∀ j s, i ≤ j → j < p → l[j]? = some s → s.op.writes C = false) : ∃ τ, σs p = σs i ++ τ := by
  induction hip with
  | refl => exact ⟨[], by simp⟩
  | step hle ih =>
    rename_i m
    have hm : m < l.length := by omega
    have hs := h m l[m] (by simp [hm])
    obtain ⟨τ, hτ⟩ := ih (by omega) fun j s h1 h2 hs => hl j s h1 (by omega) hs
    rcases stepS_parts hs with ⟨_, he⟩ | ⟨_, _, he⟩
    · obtain ⟨τ', h'⟩ := quiet_heap hC (hl m l[m] (by have : i ≤ m := hle; omega) (by omega) (by simp [hm])) he
      exact ⟨τ ++ τ', by rw [h', hτ, List.append_assoc]⟩
    · exact ⟨τ, by rw [he, hτ]⟩

/-- How many are still to be done. -/
def leftOf (L : Nat → Bool) : Nat → Nat
  | 0 => 0
  | n + 1 => leftOf L n + if L n = true then 0 else 1

theorem leftOf_set (L : Nat → Bool) (i : Nat) (hi : L i = false) : ∀ n, leftOf (fun j => if j = i then true else L j) n + (if i < n then 1 else 0) = leftOf L n
  | 0 => by simp [leftOf]
  | n + 1 => by
    have ih := leftOf_set L i hi n
    simp only [leftOf]
    by_cases e : n = i
    · subst e
      simp [hi] at ih ⊢
      omega
    · have e1 : (if n = i then true else L n) = L n := if_neg e
      simp only [e1]
      by_cases h1 : i < n
      · simp only [if_pos h1] at ih
        simp only [if_pos (show i < n + 1 by omega)]
        omega
      · simp only [if_neg h1] at ih
        simp only [if_neg (show ¬ i < n + 1 by omega)]
        omega

theorem leftOf_zero {L : Nat → Bool} : ∀ {n : Nat}, leftOf L n = 0 → ∀ i, i < n → L i = true
  | 0, _, i, hi => by omega
  | n + 1, h, i, hi => by
    simp only [leftOf] at h
    by_cases e : i = n
    · subst e
      cases hl : L i with
      | true => rfl
      | false => rw [hl] at h; simp at h
    · exact leftOf_zero (n := n) (by omega) i (by omega)

/-- A light operation that has told a value tells it in a heap that has more. -/
theorem light_mono {F : Frame} {σ τ : Heap} {s : SOp} (hl : s.heavy = false) {v : Value} (h : (evOp C F σ s).map (·.1) = some v) : (evOp C F (σ ++ τ) s).map (·.1) = some v := by
  have mp : ∀ (q : Option Value) (σ' : Heap), (q.map (·, σ')).map (·.1) = q := by intro q σ'; cases q <;> rfl
  by_cases hr : s.readsMem = false
  · rw [← h]; exact pure_any hl hr
  · have hrow : ∀ {esz cap : Nat} {p : Addr} {x : AObj}, rowAt σ esz p cap = some x → rowAt (σ ++ τ) esz p cap = some x := by
      intro esz cap p x hx
      rw [rowAt_ext (rowAt_some hx).1]; exact hx
    have hsc : ∀ {esz n : Nat} {u : Value} {l : List Value}, sliceCells σ esz u n = some l → sliceCells (σ ++ τ) esz u n = some l := by
      intro esz n u l hx
      unfold sliceCells at hx ⊢
      split at hx
      · exact hx
      · split at hx
        · rename_i hx2; rw [hrow hx2]; exact hx
        · cases hx
      · cases hx
    cases s <;> first | (simp [SOp.readsMem] at hr; done) | skip
    · rename_i x
      simp only [evOp, mp] at h ⊢
      unfold aLoad1 at h ⊢
      split at h
      · split at h
        · rename_i obj ho; rw [getD_ext ho]; exact h
        · cases h
      · cases h
    · rename_i n x
      simp only [evOp, mp] at h ⊢
      unfold aLoadN at h ⊢
      split at h
      · split at h
        · rename_i obj ho; rw [getD_ext ho]; exact h
        · cases h
      · cases h
    · rename_i c x
      simp only [evOp] at h ⊢
      generalize eval F x = y at h ⊢
      cases c <;> first | (simp [SOp.heavy] at hl; done) | skip
      all_goals cases y <;> first | (simp [aConv] at h; done) | (simpa [aConv] using h) | skip
      · rename_i p len cap
        simp only [aConv] at h ⊢
        cases hh : sliceCells σ 1 (.slice p len cap) len with
        | none => rw [hh] at h; cases h
        | some l =>
          rw [hh] at h; rw [hsc hh]
          simp only [Option.bind_some] at h ⊢
          cases hb : bytesOfCells l with
          | none => rw [hb] at h; cases h
          | some l' => rw [hb] at h; simpa using h
    · rename_i esz x lo hi
      simp only [evOp, mp] at h ⊢
      unfold aSliceSl at h ⊢
      split at h
      · exact h
      · split at h
        · rename_i hx _ _; rw [hrow hx]; simp only [*]
        · cases h
      · cases h
    · rename_i esz x i
      simp only [evOp, mp] at h ⊢
      unfold aIndexAddrS at h ⊢
      split at h
      · split at h
        · rename_i hx; rw [hrow hx]; exact h
        · cases h
      · cases h

/-- The state of a drawn region. -/
structure DSt (ops : Array Oper) (l : List SOper) (σs : Nat → Heap) (us : Nat → Value) (base : Nat → Value) (β0 : Inj) (σ0 : Heap) (w0 : World) (a0 : Act) (L : Nat → Bool) (a : Act) (w : World) : Prop where
  closed : Closed ops L
  st : ∃ p, p ≤ l.length ∧ (∀ j s, j < p → l[j]? = some s → s.op.heavy = true → L j = true) ∧ (∀ s, l[p]? = some s → s.op.heavy = true ∧ L p = false) ∧
    ∃ β, Trans β0 σ0 w0 β (σs p) w ∧ ∀ t, VRel β (σs p) (lastW l us L base l.length t) (a.tmps.getD t undef)
  sz : a.tmps.size = a0.tmps.size
  df : a.defers = a0.defers

theorem draw_step (hC : CtabOk P C) {ops : Array Oper} {l : List SOper} (D : Drawn P C ops l) {Fs : Nat → Frame} {σs : Nat → Heap} {us : Nat → Value}
    (htr : ∀ (i : Nat) (s : SOper), l[i]? = some s → stepS C s (Fs i) (σs i) = some (us i, Fs (i + 1), σs (i + 1))) {β0 : Inj} {σ0 : Heap} {w0 : World} {a0 : Act} (hdst : ∀ (i : Nat) (o : Oper), ops[i]? = some o → ∀ d, o.dst = some d → d < a0.tmps.size)
    {L : Nat → Bool} {a : Act} {w : World} (J : DSt ops l σs us (fget (Fs 0)) β0 σ0 w0 a0 L a w) {i : Nat} {o : Oper} (ho : ops[i]? = some o) (hLi : L i = false) (hedges : ∀ e ∈ o.after.toList, Region.binds .any e = true → L e.on = true)
    {K : Act → World → Prop} {Q : Exit → Act → World → Prop} (hK : ∀ a' w', DSt ops l σs us (fget (Fs 0)) β0 σ0 w0 a0 (fun j => if j = i then true else L j) a' w' → K a' w') : wpOp P ops Q i K a w := by
  have hio : i < ops.size := by
    rcases Nat.lt_or_ge i ops.size with h' | h'
    · exact h'
    · simp [Array.getElem?_eq_none h'] at ho
  have hil : i < l.length := by rw [D.len]; exact hio
  obtain ⟨s, hs⟩ : ∃ s, l[i]? = some s := ⟨l[i], by simp [hil]⟩
  have hrel := D.rel i o s ho hs
  have hanc := anc_done D J.closed i s o hs ho hedges
  obtain ⟨p, hpl, hp1, hp2, β, hT, hV⟩ := J.st
  have hstep := htr i s hs
  -- those behind that clash with it are not done; those ahead are
  have ahead : ∀ (j : Nat) (x : SOper), j < i → l[j]? = some x → clash C x s = true → L j = true := fun j x hj hx hc => hanc j (D.ord j i x s hj hx hs hc)
  have behind : ∀ (j : Nat) (x : SOper), i < j → l[j]? = some x → clash C s x = true → L j = false := by
    intro j x hj hx hc
    cases hLj : L j with
    | false => rfl
    | true =>
      have hjl : j < l.length := by
        rcases Nat.lt_or_ge j l.length with h' | h'
        · exact h'
        · rw [List.getElem?_eq_none h'] at hx; cases hx
      have hoj : ops[j]? = some (ops[j]'(by rw [← D.len]; exact hjl)) := by simp [show j < ops.size by rw [← D.len]; exact hjl]
      have := anc_done D J.closed j x _ hx hoj (fun e he hb => J.closed j _ hLj hoj e he hb) i (D.ord i j s x hj hs hx hc)
      rw [hLi] at this; cases this
  have clash_dst : ∀ (j : Nat) (x : SOper) (t : Nat), l[j]? = some x → x.dst = some t → t ∈ s.looks → clash C x s = true ∧ clash C s x = true := by
    intro j x t hx hd ht
    have hm : memb s.looks t = true := (memb_iff t _).2 ht
    constructor
    · simp [clash, hasDst, hd, hm]
    · simp [clash, hasDst, hd, hm]
  have clash_same : ∀ (j : Nat) (x : SOper) (t : Nat), l[j]? = some x → x.dst = some t → s.dst = some t → clash C s x = true := by
    intro j x t hx hd ht
    simp [clash, sameDst, hd, ht]
  -- what it looks at stands as in the order of the text
  have hlook : ∀ t ∈ s.looks, lastW l us L (fget (Fs 0)) l.length t = fget (Fs i) t := by
    intro t ht
    have e1 : lastW l us L (fget (Fs 0)) l.length t = lastW l us L (fget (Fs 0)) i t := by
      refine lastW_cut (by omega) fun j h1 h2 hd => ?_
      rw [List.getElem?_eq_getElem h2] at hd
      simp only [Option.bind_some] at hd
      by_cases e : j = i
      · subst e; exact hLi
      · exact behind j _ (by omega) (List.getElem?_eq_getElem h2) (clash_dst j _ t (List.getElem?_eq_getElem h2) hd ht).2
    have e2 : lastW l us L (fget (Fs 0)) i t = lastW l us (fun _ => true) (fget (Fs 0)) i t := by
      refine lastW_congr fun j hj hd => ?_
      have h2 : j < l.length := by omega
      rw [List.getElem?_eq_getElem h2] at hd
      simp only [Option.bind_some] at hd
      exact ahead j _ hj (List.getElem?_eq_getElem h2) (clash_dst j _ t (List.getElem?_eq_getElem h2) hd ht).1
    rw [e1, e2, frame_lastW htr i (by omega) t]
  have hF : FOk β (σs p) (fkeep s.looks (Fs i)) a.tmps := by
    intro t
    rw [fget_fkeep]
    split
    · rename_i hm
      have := hV t
      rw [hlook t ((memb_iff t _).1 hm)] at this
      exact this
    · exact .dead _
  have hlooks_ops : ∀ t ∈ tmpsOf s.op.operands, t ∈ s.looks := by
    intro t ht
    unfold SOper.looks
    split
    · simp [ht]
    · exact ht
  have hev : ∀ σ, evOp C (fkeep s.looks (Fs i)) σ s.op = evOp C (Fs i) σ s.op := by
    intro σ
    refine evOp_congr fun t ht => ?_
    rw [fget_fkeep, if_pos ((memb_iff t _).2 (hlooks_ops t ht))]
  have hguard : guardOf (fkeep s.looks (Fs i)) s.guard = guardOf (Fs i) s.guard := by
    cases hg : s.guard with
    | none => rfl
    | some q =>
      obtain ⟨t, want⟩ := q
      simp only [guardOf]
      rw [fget_fkeep, if_pos ((memb_iff t _).2 (by simp [SOper.looks, hg]))]
  -- what holds behind it
  have closed' : Closed ops (fun j => if j = i then true else L j) := by
    intro j o' hj ho' e he hb
    dsimp only at hj ⊢
    by_cases ej : j = i
    · subst ej
      rw [ho] at ho'; cases ho'
      by_cases ee : e.on = j
      · rw [if_pos ee]
      · rw [if_neg ee]; exact hedges e he hb
    · rw [if_neg ej] at hj
      by_cases ee : e.on = i
      · rw [if_pos ee]
      · rw [if_neg ee]; exact J.closed j o' hj ho' e he hb
  have hslot : ∀ (β' : Inj) (σ' : Heap) (c : Value), Later β (σs p) β' σ' → VRel β' σ' (us i) c → ∀ t, VRel β' σ' (lastW l us (fun j => if j = i then true else L j) (fget (Fs 0)) l.length t) ((a.put o.dst c).tmps.getD t undef) := by
    intro β' σ' c hlat hc t
    by_cases hd : s.dst = some t
    · -- it is the last that writes here
      have e1 : lastW l us (fun j => if j = i then true else L j) (fget (Fs 0)) l.length t = us i := by
        rw [lastW_cut (i := i + 1) (by omega) fun j h1 h2 hdj => ?_]
        · simp [lastW, hs, hd]
        · rw [List.getElem?_eq_getElem h2] at hdj
          simp only [Option.bind_some] at hdj
          try dsimp only
          rw [if_neg (by omega)]
          exact behind j _ (by omega) (List.getElem?_eq_getElem h2) (clash_same j _ t (List.getElem?_eq_getElem h2) hdj hd)
      rw [e1]
      have hod : o.dst = some t := by rw [← hrel.dst]; exact hd
      have hlt : t < a.tmps.size := by rw [J.sz]; exact hdst i o ho t hod
      simpa [Act.put, hod, Array.getD_eq_getD_getElem?, hlt] using hc
    · have e1 : lastW l us (fun j => if j = i then true else L j) (fget (Fs 0)) l.length t = lastW l us L (fget (Fs 0)) l.length t := by
        refine lastW_congr fun j hj hdj => ?_
        try dsimp only
        rw [if_neg]
        intro ej; subst ej
        rw [hs] at hdj
        exact hd (by simpa using hdj)
      rw [e1]
      have h0 := (hV t).later hlat
      cases hod : o.dst with
      | none => simpa [Act.put, hod] using h0
      | some d =>
        have hne : d ≠ t := fun e => hd (by rw [hrel.dst, hod, e])
        rw [Array.getD_eq_getD_getElem?] at h0 ⊢
        simp only [Act.put]
        rw [Array.getElem?_setIfInBounds, if_neg hne]
        exact h0
  unfold wpOp
  rw [ho]
  by_cases hh : s.op.heavy = true
  · -- a heavy one: it is the next
    have hpi : p = i := by
      rcases Nat.lt_trichotomy p i with h' | h' | h'
      · exfalso
        have hpl' : p < l.length := by omega
        have := hp2 _ (List.getElem?_eq_getElem hpl')
        have hc : clash C l[p] s = true := by simp [clash, this.1, hh]
        have := ahead p _ h' (List.getElem?_eq_getElem hpl') hc
        rw [this] at *
        simp_all
      · exact h'
      · exfalso
        have := hp1 i s h' hs hh
        rw [hLi] at this; cases this
    subst hpi
    obtain ⟨p', hp'1, hp'2, hp'3, hp'4⟩ := nextHeavy l (p + 1) (by omega)
    have hconst : σs p' = σs (p + 1) := heap_const htr hp'1 hp'2 hp'3
    have hnext : ∀ (β' : Inj) (w' : World) (c : Value), Trans β (σs p) w β' (σs (p + 1)) w' → VRel β' (σs (p + 1)) (us p) c → DSt ops l σs us (fget (Fs 0)) β0 σ0 w0 a0 (fun j => if j = p then true else L j) (a.put o.dst c) w' := by
      intro β' w' c ht hc
      refine ⟨closed', ⟨p', hp'2, fun j x hj hx hhx => ?_, fun x hx => ⟨hp'4 x hx, ?_⟩, β', ?_, ?_⟩, by rw [put_size, J.sz], by rw [put_defers, J.df]⟩
      · try dsimp only
        by_cases ej : j = p
        · rw [if_pos ej]
        · rw [if_neg ej]
          by_cases hlt : j < p
          · exact hp1 j x hlt hx hhx
          · have := hp'3 j x (by omega) hj hx
            rw [this] at hhx; cases hhx
      · try dsimp only
        rw [if_neg (by omega)]
        refine behind p' x (by omega) hx ?_
        simp [clash, hh, hp'4 x hx]
      · rw [hconst]; exact hT.trans ht
      · rw [hconst]; exact hslot β' (σs (p + 1)) c ht.later hc
    rcases stepS_parts hstep with ⟨hg, he⟩ | ⟨hg, hu, he⟩
    · have hw := guard_sound hrel hF (by rw [hguard]; exact hg)
      simp only [hw, if_true]
      refine .inl ((evOp_sound hC hT.ok hF hrel.op (by rw [hev]; exact he)).wp fun c w' hc => ?_)
      obtain ⟨β', ht, hv⟩ := hc
      exact hK _ _ (hnext β' w' c ht hv)
    · have hw := guard_sound hrel hF (by rw [hguard]; exact hg)
      simp only [hw, Bool.false_eq_true, if_false]
      exact hK _ _ (hnext β w undef (by rw [he]; exact Trans.refl hT.ok) (by rw [hu]; exact vrel_undef))
  · -- a light one
    have hl : s.op.heavy = false := by simpa using hh
    have hnext : ∀ (β' : Inj) (w' : World) (c : Value), Trans β (σs p) w β' (σs p) w' → VRel β' (σs p) (us i) c → DSt ops l σs us (fget (Fs 0)) β0 σ0 w0 a0 (fun j => if j = i then true else L j) (a.put o.dst c) w' := by
      intro β' w' c ht hc
      refine ⟨closed', ⟨p, hpl, fun j x hj hx hhx => ?_, fun x hx => ⟨(hp2 x hx).1, ?_⟩, β', hT.trans ht, hslot β' (σs p) c ht.later hc⟩, by rw [put_size, J.sz], by rw [put_defers, J.df]⟩
      · try dsimp only
        by_cases ej : j = i
        · rw [if_pos ej]
        · rw [if_neg ej]; exact hp1 j x hj hx hhx
      · try dsimp only
        rw [if_neg]
        · exact (hp2 x hx).2
        · intro e; subst e
          rw [hs] at hx; cases hx
          have := (hp2 s hs).1
          rw [hl] at this; cases this
    rcases stepS_parts hstep with ⟨hg, he⟩ | ⟨hg, hu, he⟩
    · have hw := guard_sound hrel hF (by rw [hguard]; exact hg)
      simp only [hw, if_true]
      -- the same value in the heap as it is now
      have hval : (evOp C (fkeep s.looks (Fs i)) (σs p) s.op).map (·.1) = some (us i) := by
        have he' : (evOp C (fkeep s.looks (Fs i)) (σs i) s.op).map (·.1) = some (us i) := by rw [hev, he]; rfl
        by_cases hr : s.op.readsMem = true
        · have hwr : ∀ (j : Nat) (x : SOper), l[j]? = some x → x.op.writes C = true → x.op.heavy = true := by
            intro j x _ hx
            cases hop : x.op <;> rw [hop] at hx <;> simp [SOp.writes] at hx <;> rfl
          rcases Nat.le_total i p with hip | hpi
          · obtain ⟨τ, hτ⟩ := heap_ext hC htr hip hpl fun (j : Nat) (x : SOper) h1 h2 hx => by
              cases hw2 : x.op.writes C with
              | false => rfl
              | true =>
                exfalso
                have hji : j ≠ i := by
                  intro e; subst e
                  rw [hs] at hx; cases hx
                  have := hwr j s hs hw2
                  rw [hl] at this; cases this
                have hd := behind j x (by omega) hx (by simp [clash, hr, hw2])
                have := hp1 j x h2 hx (hwr j x hx hw2)
                rw [hd] at this; cases this
            rw [hτ]
            exact light_mono hl he'
          · obtain ⟨τ, hτ⟩ := heap_ext hC htr hpi (by omega) fun j x h1 h2 hx => by
              cases hw2 : x.op.writes C with
              | false => rfl
              | true =>
                exfalso
                have hx2 := hwr j x hx hw2
                have hLj := ahead j x h2 hx (by simp [clash, hr, hw2])
                have hpl' : p < l.length := by omega
                have hp2' := hp2 _ (List.getElem?_eq_getElem hpl')
                by_cases ejp : j = p
                · subst ejp; rw [hp2'.2] at hLj; cases hLj
                · -- a heavy one done behind one that is not
                  have hoj : ops[j]? = some (ops[j]'(by rw [← D.len]; omega)) := by simp [show j < ops.size by rw [← D.len]; omega]
                  have := anc_done D J.closed j x _ hx hoj (fun e he hb => J.closed j _ hLj hoj e he hb) p (D.ord p j _ x (by omega) (List.getElem?_eq_getElem hpl') hx (by simp [clash, hp2'.1, hx2]))
                  rw [hp2'.2] at this; cases this
            rw [hτ] at he'
            rw [light_ext hl fun x hx => ?_] at he'
            · exact he'
            · have hvx : VRel β (σs p) (eval (fkeep s.looks (Fs i)) x) (a.eval x) := eval_sound hF x
              constructor
              · intro q hq
                rw [hq] at hvx
                generalize a.eval x = cx at hvx
                cases hvx with
                | ptr q obj hσ c hk h => exact ⟨obj, hσ⟩
              · intro q len cap hq
                rw [hq] at hvx
                generalize a.eval x = cx at hvx
                cases hvx with
                | sl q obj hσ len cap c cap' hsz hcap h => exact ⟨obj, hσ⟩
        · have hr' : s.op.readsMem = false := by simpa using hr
          rw [pure_any (σ' := σs i) hl hr']
          exact he'
      cases hq : evOp C (fkeep s.looks (Fs i)) (σs p) s.op with
      | none => rw [hq] at hval; cases hval
      | some r =>
        obtain ⟨v, σ'⟩ := r
        rw [hq] at hval
        simp only [Option.map_some, Option.some.injEq] at hval
        subst hval
        have hσ' := light_heap hl hq
        subst hσ'
        refine .inl ((evOp_sound hC hT.ok hF hrel.op hq).wp fun c w' hc => ?_)
        obtain ⟨β', ht, hv⟩ := hc
        exact hK _ _ (hnext β' w' c ht hv)
    · have hw := guard_sound hrel hF (by rw [hguard]; exact hg)
      simp only [hw, Bool.false_eq_true, if_false]
      exact hK _ _ (hnext β w undef (Trans.refl hT.ok) (by rw [hu]; exact vrel_undef))

end
end Go.Abs
