/- The abstract machine, a part: texts put together. Conditions: as at each theorem. -/
import Derived.Test.YtdlicidmkakooaaExactTravelFieldWvMC
set_option linter.unusedSimpArgs false
set_option linter.unusedVariables false
/- The abstract machine: a region whose order is drawn, in which variables are read and rows are written. Condition: the contracts that are used hold. -/
namespace Go.Abs

section
variable {P : Program} {C : Ctab}

structure DrawnV (P : Program) (C : Ctab) (ops : Array Oper) (l : List SOper) : Prop where
  len : l.length = ops.size
  rel : ∀ (i : Nat) (o : Oper) (s : SOper), ops[i]? = some o → l[i]? = some s → OpRel P ops o s
  back : ∀ (j : Nat) (o : Oper), ops[j]? = some o → ∀ e ∈ o.after.toList, Region.binds .any e = true → e.on < j
  anc : ∀ (j : Nat) (s : SOper) (o : Oper), l[j]? = some s → ops[j]? = some o → ∀ i, s.anc.testBit i = true → ∃ e ∈ o.after.toList, Region.binds .any e = true ∧ (e.on = i ∨ ∃ s', l[e.on]? = some s' ∧ s'.anc.testBit i = true)
  ord : ∀ (i j : Nat) (x y : SOper), i < j → l[i]? = some x → l[j]? = some y → clashV C x y = true → y.anc.testBit i = true

theorem okAgainstV_spec {o : SOper} : ∀ {done : List SOper} {n : Nat}, okAgainstV C o n done = true → ∀ (i : Nat) (x : SOper), done[i]? = some x → clashV C x o = true → o.anc.testBit (n + i) = true
  | [], n, _, i, x, hx => by simp at hx
  | y :: done, n, h, i, x, hx => by
    simp only [okAgainstV, Bool.and_eq_true] at h
    intro hc
    cases i with
    | zero => simp at hx; subst hx; simpa [hc] using h.1
    | succ i =>
      have := okAgainstV_spec h.2 i x (by simpa using hx) hc
      rw [show n + (i + 1) = n + 1 + i by omega]; exact this

theorem drawOkGoV_spec : ∀ {rest done : List SOper}, drawOkGoV C done rest = true → ∀ (i j : Nat) (x y : SOper), i < done.length + j → rest[j]? = some y → (done ++ rest)[i]? = some x → clashV C x y = true → y.anc.testBit i = true
  | [], done, _, i, j, x, y, _, hy, _ => by simp at hy
  | o :: rest, done, h, i, j, x, y, hij, hy, hx => by
    simp only [drawOkGoV, Bool.and_eq_true] at h
    intro hc
    cases j with
    | zero =>
      simp at hy; subst hy
      rw [List.getElem?_append_left (by omega)] at hx
      have := okAgainstV_spec h.1 i x hx hc
      simpa using this
    | succ j =>
      exact drawOkGoV_spec h.2 i j x y (by simp; omega) (by simpa using hy) (by simpa using hx) hc

theorem drawnV_of {ops : Array Oper} {l : List SOper} (h : rOps P ops [] ops.toList = some l) (hb : backEdges 0 ops.toList = true) (hd : drawOkV C l = true) : DrawnV P C ops l := by
  obtain ⟨h1, h2⟩ := rOps_rel h
  have hback : ∀ (j : Nat) (o : Oper), ops[j]? = some o → ∀ e ∈ o.after.toList, Region.binds .any e = true → e.on < j := by
    intro j o ho e he hbn
    have := backEdges_spec hb j o (by simpa using ho) e he hbn
    omega
  refine ⟨by simpa using h1, fun i o s ho hs => h2 i o s (by simpa using ho) hs, hback, ?_, ?_⟩
  · intro j s o hs ho i hi
    have ha := rOps_anc h j s o hs (by simpa using ho)
    rw [ha, List.nil_append] at hi
    rcases ancOf_bit _ _ _ _ hi with h0 | ⟨e, he, hbn, h3⟩
    · simp at h0
    · refine ⟨e, he, hbn, ?_⟩
      rcases h3 with h3 | h3
      · exact .inl h3
      · right
        have hlt := hback j o ho e he hbn
        have hjl : j < l.length := by
          rcases Nat.lt_or_ge j l.length with h' | h'
          · exact h'
          · rw [List.getElem?_eq_none h'] at hs; cases hs
        refine ⟨l[e.on]'(by omega), by simp [show e.on < l.length by omega], ?_⟩
        rw [List.getD_eq_getElem?_getD, List.getElem?_map, List.getElem?_take, if_pos hlt] at h3
        simpa [show e.on < l.length by omega] using h3
  · intro i j x y hij hx hy hc
    exact drawOkGoV_spec (done := []) hd i j x y (by simpa using hij) hy (by simpa using hx) hc

theorem anc_doneV {ops : Array Oper} {l : List SOper} (D : DrawnV P C ops l) {L : Nat → Bool} (hL : Closed ops L) : ∀ (j : Nat) (s : SOper) (o : Oper), l[j]? = some s → ops[j]? = some o → (∀ e ∈ o.after.toList, Region.binds .any e = true → L e.on = true) →
    ∀ i, s.anc.testBit i = true → L i = true := by
  intro j
  induction j using Nat.strongRecOn with
  | _ j ih =>
    intro s o hs ho hedges i hi
    obtain ⟨e, he, hb, h⟩ := D.anc j s o hs ho i hi
    rcases h with rfl | ⟨s', hs', h⟩
    · exact hedges e he hb
    · have hlt := D.back j o ho e he hb
      have hjl : e.on < l.length := by
        rcases Nat.lt_or_ge e.on l.length with h' | h'
        · exact h'
        · rw [List.getElem?_eq_none h'] at hs'; cases hs'
      have hol : e.on < ops.size := by rw [← D.len]; exact hjl
      have ho' : ops[e.on]? = some ops[e.on] := by simp [hol]
      exact ih e.on hlt s' _ hs' ho' (fun e2 he2 hb2 => hL e.on _ (hedges e he hb) ho' e2 he2 hb2) i h


theorem nat_beq' (a b : Nat) : Nat.beq a b = decide (a = b) := by
  by_cases h : a = b
  · subst h; simp
  · have : Nat.beq a b = false := by
      cases hb : Nat.beq a b with
      | false => rfl
      | true => exact absurd (Nat.eq_of_beq_eq_true hb) h
    simp [this, h]
theorem mem_tmpsOf {t : Nat} : ∀ {xs : List Operand}, Operand.tmp t ∈ xs → t ∈ tmpsOf xs
  | [], h => by cases h
  | x :: xs, h => by
    rcases List.mem_cons.1 h with h1 | h1
    · subst h1; simp [tmpsOf]
    · have := mem_tmpsOf h1
      cases x <;> simp [tmpsOf, this]
theorem spotOk_fkeep {F F' : Frame} {s : SOp} (h : ∀ x ∈ s.operands, eval F' x = eval F x) (hs : spotOk F s = true) : spotOk F' s = true := by
  cases s <;> first | rfl | skip
  · rename_i x; simpa [spotOk, h x (by simp [SOp.operands])] using hs
  · rename_i n x; simpa [spotOk, h x (by simp [SOp.operands])] using hs
  · rename_i n x y; simpa [spotOk, h x (by simp [SOp.operands])] using hs

/-- Variables are kept, and rows stay rows. -/
structure VarPres (σ σ' : Heap) : Prop where
  var : ∀ (b : Nat) (obj : AObj), σ[b]? = some obj → obj.esz = 0 → σ'[b]? = some obj
  row : ∀ (b : Nat) (obj : AObj), σ[b]? = some obj → ∃ obj', σ'[b]? = some obj' ∧ obj'.esz = obj.esz
theorem VarPres.refl (σ : Heap) : VarPres σ σ := ⟨fun _ _ h _ => h, fun _ obj h => ⟨obj, h, rfl⟩⟩
theorem VarPres.trans {σ1 σ2 σ3 : Heap} (a : VarPres σ1 σ2) (b : VarPres σ2 σ3) : VarPres σ1 σ3 := ⟨fun k obj h h0 => b.var k obj (a.var k obj h h0) h0, fun k obj h => by
  obtain ⟨o2, h2, e2⟩ := a.row k obj h
  obtain ⟨o3, h3, e3⟩ := b.row k o2 h2
  exact ⟨o3, h3, by rw [e3, e2]⟩⟩
theorem VarPres.app (σ τ : Heap) : VarPres σ (σ ++ τ) := ⟨fun b obj h _ => getD_ext h, fun b obj h => ⟨obj, getD_ext h, rfl⟩⟩
theorem VarPres.set {σ : Heap} {b : Nat} {obj obj' : AObj} (h : σ[b]? = some obj) (he : obj.esz ≠ 0) (he' : obj'.esz = obj.esz) : VarPres σ (σ.set b obj') := by
  have hb : b < σ.length := (List.getElem?_eq_some_iff.1 h).1
  refine ⟨fun k x hk h0 => ?_, fun k x hk => ?_⟩
  · by_cases e : b = k
    · subst e; rw [h] at hk; cases hk; exact absurd h0 he
    · rw [List.getElem?_set_ne e]; exact hk
  · by_cases e : b = k
    · subst e; rw [h] at hk; cases hk; exact ⟨obj', by rw [List.getElem?_set_self hb], he'⟩
    · exact ⟨x, by rw [List.getElem?_set_ne e]; exact hk, rfl⟩

theorem rowW_pres {F : Frame} {σ σ' : Heap} {s : SOp} {v : Value} (hw : isRowW s = true) (hs : spotOk F s = true) (h : evOp C F σ s = some (v, σ')) : VarPres σ σ' := by
  cases s <;> first | (simp [isRowW] at hw; done) | skip
  · rename_i n x y
    simp only [evOp] at h
    rw [Option.map_eq_some_iff] at h
    obtain ⟨σ1, h1, h2⟩ := h
    cases h2
    unfold aStore at h1
    split at h1
    · rename_i a hx
      split at h1
      · rename_i obj ho
        split at h1
        · rename_i hc
          cases h1
          simp only [spotOk, hx] at hs
          obtain ⟨k, hk⟩ := Option.isSome_iff_exists.1 hs
          have hp : ptrOk obj a.spot = true := by
            simp only [Bool.and_eq_true] at hc; exact hc.1.1.1.1
          rw [hk] at hp
          simp [ptrOk, nat_beq'] at hp
          exact VarPres.set ho hp.2 rfl
        · cases h1
      · cases h1
    · cases h1
  · rename_i e bytes x y
    simp only [evOp] at h
    unfold aAppend at h
    split at h
    · split at h
      · split at h
        · cases h; exact VarPres.refl _
        · cases h; exact VarPres.app _ _
      · cases h
    · rename_i hx _
      split at h
      · rename_i obj ho
        split at h
        · cases h
          have hr := rowAt_some ho
          exact VarPres.set hr.1 (by rw [hr.2.1]; exact hr.2.2.2) rfl
        · split at h
          · cases h
            have hr := rowAt_some ho
            exact VarPres.set hr.1 (by rw [hr.2.1]; exact hr.2.2.2) rfl
          · cases h
      · cases h
    · cases h
  · rename_i e x y
    simp only [evOp] at h
    unfold aCopy at h
    split at h
    · split at h
      · split at h
        · split at h
          · rename_i obj ho
            split at h
            · cases h
              have hr := rowAt_some ho
              exact VarPres.set hr.1 (by rw [hr.2.1]; exact hr.2.2.2) rfl
            · cases h
          · cases h
        · cases h
      · cases h
    · cases h

theorem var_pres (hC : CtabOk P C) {l : List SOper} {Fs : Nat → Frame} {σs : Nat → Heap} {us : Nat → Value} (h : ∀ (i : Nat) (s : SOper), l[i]? = some s → stepS C s (Fs i) (σs i) = some (us i, Fs (i + 1), σs (i + 1)))
    (hvr : ∀ (i : Nat) (s : SOper), l[i]? = some s → guardOf (Fs i) s.guard = some true → spotOk (Fs i) s.op = true)
    {i p : Nat} (hip : i ≤ p) (hp : p ≤ l.length) (hl : ∀ j s, i ≤ j → j < p → l[j]? = some s → s.op.writes C = false ∨ isRowW s.op = true) : VarPres (σs i) (σs p) := by
  induction hip with
  | refl => exact VarPres.refl _
  | step hle ih =>
    rename_i m
    have hm : m < l.length := by omega
    have hs := h m l[m] (by simp [hm])
    refine (ih (by omega) fun j s h1 h2 hs => hl j s h1 (by omega) hs).trans ?_
    rcases stepS_parts hs with ⟨hg, he⟩ | ⟨_, _, he⟩
    · rcases hl m l[m] (by have : i ≤ m := hle; omega) (by omega) (by simp [hm]) with hw | hw
      · obtain ⟨τ, hτ⟩ := quiet_heap hC hw he
        rw [hτ]; exact VarPres.app _ _
      · exact rowW_pres hw (hvr m l[m] (by simp [hm]) hg) he
    · rw [he]; exact VarPres.refl _

theorem varload_mono {F : Frame} {σ σ' : Heap} {s : SOp} (hv : isVarLoad s = true) (hs : spotOk F s = true) (hp : VarPres σ σ') {v : Value} (h : (evOp C F σ s).map (·.1) = some v) : (evOp C F σ' s).map (·.1) = some v := by
  have mp : ∀ (q : Option Value) (σ' : Heap), (q.map (·, σ')).map (·.1) = q := by intro q σ'; cases q <;> rfl
  cases s <;> first | (simp [isVarLoad] at hv; done) | skip
  · rename_i x
    simp only [evOp, mp] at h ⊢
    unfold aLoad1 at h ⊢
    split at h
    · rename_i a hx
      simp only [spotOk, hx] at hs
      split at h
      · rename_i obj ho
        split at h
        · rename_i hc
          have h0 : obj.esz = 0 := by rw [Option.isNone_iff_eq_none.1 hs] at hc; simpa [ptrOk, nat_beq'] using hc
          rw [hp.var _ _ ho h0]
          dsimp only
          rw [if_pos hc]; exact h
        · cases h
      · cases h
    · cases h
  · rename_i n x
    simp only [evOp, mp] at h ⊢
    unfold aLoadN at h ⊢
    split at h
    · rename_i a hx
      simp only [spotOk, hx] at hs
      split at h
      · rename_i obj ho
        split at h
        · rename_i hc
          have hc1 : ptrOk obj a.spot = true := by simp only [Bool.and_eq_true] at hc; exact hc.1
          have h0 : obj.esz = 0 := by rw [Option.isNone_iff_eq_none.1 hs] at hc1; simpa [ptrOk, nat_beq'] using hc1
          rw [hp.var _ _ ho h0]
          dsimp only
          rw [if_pos hc]; exact h
        · cases h
      · cases h
    · cases h

theorem varload_back {F : Frame} {σ σ' : Heap} {s : SOp} (hv : isVarLoad s = true) (hs : spotOk F s = true) (hp : VarPres σ' σ) (hin : ∀ x ∈ s.operands, ∀ a, eval F x = .pointer (some a) → ∃ obj, σ'[a.block]? = some obj) {v : Value}
    (h : (evOp C F σ s).map (·.1) = some v) : (evOp C F σ' s).map (·.1) = some v := by
  have mp : ∀ (q : Option Value) (σ' : Heap), (q.map (·, σ')).map (·.1) = q := by intro q σ'; cases q <;> rfl
  have key : ∀ (a : Addr) (obj : AObj), a.spot = none → σ[a.block]? = some obj → ptrOk obj a.spot = true → (∃ obj, σ'[a.block]? = some obj) → σ'[a.block]? = some obj := by
    intro a obj hn ho hc ⟨obj2, ho2⟩
    have h0 : obj.esz = 0 := by rw [hn] at hc; simpa [ptrOk, nat_beq'] using hc
    obtain ⟨o3, h3, e3⟩ := hp.row _ _ ho2
    rw [ho] at h3; cases h3
    have := hp.var _ _ ho2 (by rw [← e3]; exact h0)
    rw [ho] at this; cases this; exact ho2
  cases s <;> first | (simp [isVarLoad] at hv; done) | skip
  · rename_i x
    simp only [evOp, mp] at h ⊢
    have hx2 := hin x (by simp [SOp.operands])
    unfold aLoad1 at h ⊢
    split at h
    · rename_i a hx
      simp only [spotOk, hx] at hs
      split at h
      · rename_i obj ho
        split at h
        · rename_i hc
          rw [key a obj (Option.isNone_iff_eq_none.1 hs) ho hc (hx2 a hx)]
          dsimp only
          rw [if_pos hc]; exact h
        · cases h
      · cases h
    · cases h
  · rename_i n x
    simp only [evOp, mp] at h ⊢
    have hx2 := hin x (by simp [SOp.operands])
    unfold aLoadN at h ⊢
    split at h
    · rename_i a hx
      simp only [spotOk, hx] at hs
      split at h
      · rename_i obj ho
        split at h
        · rename_i hc
          have hc1 : ptrOk obj a.spot = true := by simp only [Bool.and_eq_true] at hc; exact hc.1
          rw [key a obj (Option.isNone_iff_eq_none.1 hs) ho hc1 (hx2 a hx)]
          dsimp only
          rw [if_pos hc]; exact h
        · cases h
      · cases h
    · cases h

def spotOkIf (g : Bool) (F : Frame) (s : SOp) : Bool := bif g then spotOk F s else true
theorem varRun_trace : ∀ {l : List SOper} {F : Frame} {σ : Heap} {Fs : Nat → Frame} {σs : Nat → Heap} {us : Nat → Value}, Fs 0 = F → σs 0 = σ → (∀ (i : Nat) (s : SOper), l[i]? = some s → stepS C s (Fs i) (σs i) = some (us i, Fs (i + 1), σs (i + 1))) → varRun C l F σ = true →
    ∀ (i : Nat) (s : SOper), l[i]? = some s → guardOf (Fs i) s.guard = some true → spotOk (Fs i) s.op = true
  | [], F, σ, Fs, σs, us, hF, hσ, htr, hv, i, s, hs, hg => by simp at hs
  | o :: l, F, σ, Fs, σs, us, hF, hσ, htr, hv, i, s, hs, hg => by
    have h0 := htr 0 o rfl
    unfold varRun at hv
    unfold stepS at h0
    rw [← hF, ← hσ] at hv
    cases hgd : guardOf (Fs 0) o.guard with
    | none => rw [hgd] at h0; cases h0
    | some g =>
      rw [hgd] at h0 hv
      have key : spotOkIf g (Fs 0) o.op = true ∧ varRun C l (Fs 1) (σs 1) = true := by
        cases g with
        | true =>
          simp only [cond_true] at h0 hv
          cases he : evOp C (Fs 0) (σs 0) o.op with
          | none => rw [he] at h0; cases h0
          | some r =>
            rw [he] at h0 hv
            simp only [Option.map_some, Option.some.injEq, Prod.mk.injEq] at h0
            simp only [Bool.and_eq_true] at hv
            exact ⟨hv.1, by rw [← h0.2.1, ← h0.2.2]; exact hv.2⟩
        | false =>
          simp only [cond_false] at h0 hv
          simp only [Option.some.injEq, Prod.mk.injEq] at h0
          exact ⟨rfl, by rw [← h0.2.1, ← h0.2.2]; exact hv⟩
      cases i with
      | zero =>
        simp at hs; subst hs
        rw [hgd] at hg; cases hg
        exact key.1
      | succ i => exact varRun_trace (Fs := fun k => Fs (k + 1)) (σs := fun k => σs (k + 1)) (us := fun k => us (k + 1)) rfl rfl (fun j x hx => htr (j + 1) x (by simpa using hx)) key.2 i s (by simpa using hs) hg

theorem draw_stepV (hC : CtabOk P C) {ops : Array Oper} {l : List SOper} (D : DrawnV P C ops l) {Fs : Nat → Frame} {σs : Nat → Heap} {us : Nat → Value} (hvr : ∀ (i : Nat) (s : SOper), l[i]? = some s → guardOf (Fs i) s.guard = some true → spotOk (Fs i) s.op = true)
    (htr : ∀ (i : Nat) (s : SOper), l[i]? = some s → stepS C s (Fs i) (σs i) = some (us i, Fs (i + 1), σs (i + 1))) {β0 : Inj} {σ0 : Heap} {w0 : World} {a0 : Act} (hdst : ∀ (i : Nat) (o : Oper), ops[i]? = some o → ∀ d, o.dst = some d → d < a0.tmps.size)
    {L : Nat → Bool} {a : Act} {w : World} (J : DSt ops l σs us (fget (Fs 0)) β0 σ0 w0 a0 L a w) {i : Nat} {o : Oper} (ho : ops[i]? = some o) (hLi : L i = false) (hedges : ∀ e ∈ o.after.toList, Region.binds .any e = true → L e.on = true)
    {K : Act → World → Prop} {Q : Exit → Act → World → Prop} (hK : ∀ a' w', DSt ops l σs us (fget (Fs 0)) β0 σ0 w0 a0 (fun j => if j = i then true else L j) a' w' → K a' w') : wpOp P ops Q i K a w := by
  have hio : i < ops.size := by
    rcases Nat.lt_or_ge i ops.size with h' | h'
    · exact h'
    · simp [Array.getElem?_eq_none h'] at ho
  have hil : i < l.length := by rw [D.len]; exact hio
  obtain ⟨s, hs⟩ : ∃ s, l[i]? = some s := ⟨l[i], by simp [hil]⟩
  have hrel := D.rel i o s ho hs
  have hanc := anc_doneV D J.closed i s o hs ho hedges
  obtain ⟨p, hpl, hp1, hp2, β, hT, hV⟩ := J.st
  have hstep := htr i s hs
  -- those behind that clash with it are not done; those ahead are
  have ahead : ∀ (j : Nat) (x : SOper), j < i → l[j]? = some x → clashV C x s = true → L j = true := fun j x hj hx hc => hanc j (D.ord j i x s hj hx hs hc)
  have behind : ∀ (j : Nat) (x : SOper), i < j → l[j]? = some x → clashV C s x = true → L j = false := by
    intro j x hj hx hc
    cases hLj : L j with
    | false => rfl
    | true =>
      have hjl : j < l.length := by
        rcases Nat.lt_or_ge j l.length with h' | h'
        · exact h'
        · rw [List.getElem?_eq_none h'] at hx; cases hx
      have hoj : ops[j]? = some (ops[j]'(by rw [← D.len]; exact hjl)) := by simp [show j < ops.size by rw [← D.len]; exact hjl]
      have := anc_doneV D J.closed j x _ hx hoj (fun e he hb => J.closed j _ hLj hoj e he hb) i (D.ord i j s x hj hs hx hc)
      rw [hLi] at this; cases this
  have clash_dst : ∀ (j : Nat) (x : SOper) (t : Nat), l[j]? = some x → x.dst = some t → t ∈ s.looks → clashV C x s = true ∧ clashV C s x = true := by
    intro j x t hx hd ht
    have hm : memb s.looks t = true := (memb_iff t _).2 ht
    constructor
    · simp [clashV, hasDst, hd, hm]
    · simp [clashV, hasDst, hd, hm]
  have clash_same : ∀ (j : Nat) (x : SOper) (t : Nat), l[j]? = some x → x.dst = some t → s.dst = some t → clashV C s x = true := by
    intro j x t hx hd ht
    simp [clashV, sameDst, hd, ht]
  -- what it looks at stands as in the order of the text
  have hlook : ∀ t ∈ s.looks, lastW l us L (fget (Fs 0)) l.length t = fget (Fs i) t := by
    intro t ht
    have e1 : lastW l us L (fget (Fs 0)) l.length t = lastW l us L (fget (Fs 0)) i t := by
      refine lastW_cut (by omega) fun j h1 h2 hd => ?_
      rw [List.getElem?_eq_getElem h2] at hd
      simp only [Option.bind_some] at hd
      by_cases e : j = i
      · subst e; exact hLi
      · exact behind j _ (by omega) (List.getElem?_eq_getElem h2) (clash_dst j _ t (List.getElem?_eq_getElem h2) hd ht).2
    have e2 : lastW l us L (fget (Fs 0)) i t = lastW l us (fun _ => true) (fget (Fs 0)) i t := by
      refine lastW_congr fun j hj hd => ?_
      have h2 : j < l.length := by omega
      rw [List.getElem?_eq_getElem h2] at hd
      simp only [Option.bind_some] at hd
      exact ahead j _ hj (List.getElem?_eq_getElem h2) (clash_dst j _ t (List.getElem?_eq_getElem h2) hd ht).1
    rw [e1, e2, frame_lastW htr i (by omega) t]
  have hF : FOk β (σs p) (fkeep s.looks (Fs i)) a.tmps := by
    intro t
    rw [fget_fkeep]
    split
    · rename_i hm
      have := hV t
      rw [hlook t ((memb_iff t _).1 hm)] at this
      exact this
    · exact .dead _
  have hlooks_ops : ∀ t ∈ tmpsOf s.op.operands, t ∈ s.looks := by
    intro t ht
    unfold SOper.looks
    split
    · simp [ht]
    · exact ht
  have hev : ∀ σ, evOp C (fkeep s.looks (Fs i)) σ s.op = evOp C (Fs i) σ s.op := by
    intro σ
    refine evOp_congr fun t ht => ?_
    rw [fget_fkeep, if_pos ((memb_iff t _).2 (hlooks_ops t ht))]
  have hguard : guardOf (fkeep s.looks (Fs i)) s.guard = guardOf (Fs i) s.guard := by
    cases hg : s.guard with
    | none => rfl
    | some q =>
      obtain ⟨t, want⟩ := q
      simp only [guardOf]
      rw [fget_fkeep, if_pos ((memb_iff t _).2 (by simp [SOper.looks, hg]))]
  -- what holds behind it
  have closed' : Closed ops (fun j => if j = i then true else L j) := by
    intro j o' hj ho' e he hb
    dsimp only at hj ⊢
    by_cases ej : j = i
    · subst ej
      rw [ho] at ho'; cases ho'
      by_cases ee : e.on = j
      · rw [if_pos ee]
      · rw [if_neg ee]; exact hedges e he hb
    · rw [if_neg ej] at hj
      by_cases ee : e.on = i
      · rw [if_pos ee]
      · rw [if_neg ee]; exact J.closed j o' hj ho' e he hb
  have hslot : ∀ (β' : Inj) (σ' : Heap) (c : Value), Later β (σs p) β' σ' → VRel β' σ' (us i) c → ∀ t, VRel β' σ' (lastW l us (fun j => if j = i then true else L j) (fget (Fs 0)) l.length t) ((a.put o.dst c).tmps.getD t undef) := by
    intro β' σ' c hlat hc t
    by_cases hd : s.dst = some t
    · -- it is the last that writes here
      have e1 : lastW l us (fun j => if j = i then true else L j) (fget (Fs 0)) l.length t = us i := by
        rw [lastW_cut (i := i + 1) (by omega) fun j h1 h2 hdj => ?_]
        · simp [lastW, hs, hd]
        · rw [List.getElem?_eq_getElem h2] at hdj
          simp only [Option.bind_some] at hdj
          try dsimp only
          rw [if_neg (by omega)]
          exact behind j _ (by omega) (List.getElem?_eq_getElem h2) (clash_same j _ t (List.getElem?_eq_getElem h2) hdj hd)
      rw [e1]
      have hod : o.dst = some t := by rw [← hrel.dst]; exact hd
      have hlt : t < a.tmps.size := by rw [J.sz]; exact hdst i o ho t hod
      simpa [Act.put, hod, Array.getD_eq_getD_getElem?, hlt] using hc
    · have e1 : lastW l us (fun j => if j = i then true else L j) (fget (Fs 0)) l.length t = lastW l us L (fget (Fs 0)) l.length t := by
        refine lastW_congr fun j hj hdj => ?_
        try dsimp only
        rw [if_neg]
        intro ej; subst ej
        rw [hs] at hdj
        exact hd (by simpa using hdj)
      rw [e1]
      have h0 := (hV t).later hlat
      cases hod : o.dst with
      | none => simpa [Act.put, hod] using h0
      | some d =>
        have hne : d ≠ t := fun e => hd (by rw [hrel.dst, hod, e])
        rw [Array.getD_eq_getD_getElem?] at h0 ⊢
        simp only [Act.put]
        rw [Array.getElem?_setIfInBounds, if_neg hne]
        exact h0
  unfold wpOp
  rw [ho]
  by_cases hh : s.op.heavy = true
  · -- a heavy one: it is the next
    have hpi : p = i := by
      rcases Nat.lt_trichotomy p i with h' | h' | h'
      · exfalso
        have hpl' : p < l.length := by omega
        have := hp2 _ (List.getElem?_eq_getElem hpl')
        have hc : clashV C l[p] s = true := by simp [clashV, this.1, hh]
        have := ahead p _ h' (List.getElem?_eq_getElem hpl') hc
        rw [this] at *
        simp_all
      · exact h'
      · exfalso
        have := hp1 i s h' hs hh
        rw [hLi] at this; cases this
    subst hpi
    obtain ⟨p', hp'1, hp'2, hp'3, hp'4⟩ := nextHeavy l (p + 1) (by omega)
    have hconst : σs p' = σs (p + 1) := heap_const htr hp'1 hp'2 hp'3
    have hnext : ∀ (β' : Inj) (w' : World) (c : Value), Trans β (σs p) w β' (σs (p + 1)) w' → VRel β' (σs (p + 1)) (us p) c → DSt ops l σs us (fget (Fs 0)) β0 σ0 w0 a0 (fun j => if j = p then true else L j) (a.put o.dst c) w' := by
      intro β' w' c ht hc
      refine ⟨closed', ⟨p', hp'2, fun j x hj hx hhx => ?_, fun x hx => ⟨hp'4 x hx, ?_⟩, β', ?_, ?_⟩, by rw [put_size, J.sz], by rw [put_defers, J.df]⟩
      · try dsimp only
        by_cases ej : j = p
        · rw [if_pos ej]
        · rw [if_neg ej]
          by_cases hlt : j < p
          · exact hp1 j x hlt hx hhx
          · have := hp'3 j x (by omega) hj hx
            rw [this] at hhx; cases hhx
      · try dsimp only
        rw [if_neg (by omega)]
        refine behind p' x (by omega) hx ?_
        simp [clashV, hh, hp'4 x hx]
      · rw [hconst]; exact hT.trans ht
      · rw [hconst]; exact hslot β' (σs (p + 1)) c ht.later hc
    rcases stepS_parts hstep with ⟨hg, he⟩ | ⟨hg, hu, he⟩
    · have hw := guard_sound hrel hF (by rw [hguard]; exact hg)
      simp only [hw, if_true]
      refine .inl ((evOp_sound hC hT.ok hF hrel.op (by rw [hev]; exact he)).wp fun c w' hc => ?_)
      obtain ⟨β', ht, hv⟩ := hc
      exact hK _ _ (hnext β' w' c ht hv)
    · have hw := guard_sound hrel hF (by rw [hguard]; exact hg)
      simp only [hw, Bool.false_eq_true, if_false]
      exact hK _ _ (hnext β w undef (by rw [he]; exact Trans.refl hT.ok) (by rw [hu]; exact vrel_undef))
  · -- a light one
    have hl : s.op.heavy = false := by simpa using hh
    have hnext : ∀ (β' : Inj) (w' : World) (c : Value), Trans β (σs p) w β' (σs p) w' → VRel β' (σs p) (us i) c → DSt ops l σs us (fget (Fs 0)) β0 σ0 w0 a0 (fun j => if j = i then true else L j) (a.put o.dst c) w' := by
      intro β' w' c ht hc
      refine ⟨closed', ⟨p, hpl, fun j x hj hx hhx => ?_, fun x hx => ⟨(hp2 x hx).1, ?_⟩, β', hT.trans ht, hslot β' (σs p) c ht.later hc⟩, by rw [put_size, J.sz], by rw [put_defers, J.df]⟩
      · try dsimp only
        by_cases ej : j = i
        · rw [if_pos ej]
        · rw [if_neg ej]; exact hp1 j x hj hx hhx
      · try dsimp only
        rw [if_neg]
        · exact (hp2 x hx).2
        · intro e; subst e
          rw [hs] at hx; cases hx
          have := (hp2 s hs).1
          rw [hl] at this; cases this
    rcases stepS_parts hstep with ⟨hg, he⟩ | ⟨hg, hu, he⟩
    · have hw := guard_sound hrel hF (by rw [hguard]; exact hg)
      simp only [hw, if_true]
      -- the same value in the heap as it is now
      have hval : (evOp C (fkeep s.looks (Fs i)) (σs p) s.op).map (·.1) = some (us i) := by
        have he' : (evOp C (fkeep s.looks (Fs i)) (σs i) s.op).map (·.1) = some (us i) := by rw [hev, he]; rfl
        by_cases hr : s.op.readsMem = true
        · by_cases hvl : isVarLoad s.op = true
          · -- it loads a variable; rows alone are written meanwhile
            have hwr : ∀ (j : Nat) (x : SOper), l[j]? = some x → x.op.writes C = true → x.op.heavy = true := by
              intro j x _ hx
              cases hop : x.op <;> rw [hop] at hx <;> simp [SOp.writes] at hx <;> rfl
            have hsp : spotOk (Fs i) s.op = true := hvr i s hs hg
            have heo : ∀ x ∈ s.op.operands, eval (fkeep s.looks (Fs i)) x = eval (Fs i) x := by
              intro x hx
              cases x with
              | tmp t =>
                simp only [eval]
                rw [fget_fkeep, if_pos ((memb_iff t _).2 (hlooks_ops t (mem_tmpsOf hx)))]
              | const v => cases v <;> rfl
              | _ => rfl
            rcases Nat.le_total i p with hip | hpi
            · have hvp := var_pres hC htr hvr hip hpl fun (j : Nat) (x : SOper) h1 h2 hx => by
                cases hw2 : x.op.writes C with
                | false => exact .inl rfl
                | true =>
                  right
                  cases hrw : isRowW x.op with
                  | true => rfl
                  | false =>
                    exfalso
                    have hji : j ≠ i := by
                      intro e; subst e
                      rw [hs] at hx; cases hx
                      have := hwr j s hs hw2
                      rw [hl] at this; cases this
                    have hd := behind j x (by omega) hx (by simp [clashV, hr, hw2, hrw])
                    have := hp1 j x h2 hx (hwr j x hx hw2)
                    rw [hd] at this; cases this
              exact varload_mono hvl (spotOk_fkeep heo hsp) hvp he'
            · have hvp := var_pres hC htr hvr hpi (by omega) fun (j : Nat) (x : SOper) h1 h2 hx => by
                cases hw2 : x.op.writes C with
                | false => exact .inl rfl
                | true =>
                  right
                  cases hrw : isRowW x.op with
                  | true => rfl
                  | false =>
                    exfalso
                    have hx2 := hwr j x hx hw2
                    have hLj := ahead j x h2 hx (by simp [clashV, hr, hw2, hrw])
                    have hpl' : p < l.length := by omega
                    have hp2' := hp2 _ (List.getElem?_eq_getElem hpl')
                    by_cases ejp : j = p
                    · subst ejp; rw [hp2'.2] at hLj; cases hLj
                    · have hoj : ops[j]? = some (ops[j]'(by rw [← D.len]; omega)) := by simp [show j < ops.size by rw [← D.len]; omega]
                      have := anc_doneV D J.closed j x _ hx hoj (fun e he hb => J.closed j _ hLj hoj e he hb) p (D.ord p j _ x (by omega) (List.getElem?_eq_getElem hpl') hx (by simp [clashV, hp2'.1, hx2]))
                      rw [hp2'.2] at this; cases this
              refine varload_back hvl (spotOk_fkeep heo hsp) hvp (fun x hx q hq => ?_) he'
              have hvx : VRel β (σs p) (eval (fkeep s.looks (Fs i)) x) (a.eval x) := eval_sound hF x
              rw [hq] at hvx
              generalize a.eval x = cx at hvx
              cases hvx with
              | ptr q obj hσ c hk h => exact ⟨obj, hσ⟩
          · have hvl : isVarLoad s.op = false := by simpa using hvl
            have hwr : ∀ (j : Nat) (x : SOper), l[j]? = some x → x.op.writes C = true → x.op.heavy = true := by
              intro j x _ hx
              cases hop : x.op <;> rw [hop] at hx <;> simp [SOp.writes] at hx <;> rfl
            rcases Nat.le_total i p with hip | hpi
            · obtain ⟨τ, hτ⟩ := heap_ext hC htr hip hpl fun (j : Nat) (x : SOper) h1 h2 hx => by
                cases hw2 : x.op.writes C with
                | false => rfl
                | true =>
                  exfalso
                  have hji : j ≠ i := by
                    intro e; subst e
                    rw [hs] at hx; cases hx
                    have := hwr j s hs hw2
                    rw [hl] at this; cases this
                  have hd := behind j x (by omega) hx (by simp [clashV, hr, hw2, hvl])
                  have := hp1 j x h2 hx (hwr j x hx hw2)
                  rw [hd] at this; cases this
              rw [hτ]
              exact light_mono hl he'
            · obtain ⟨τ, hτ⟩ := heap_ext hC htr hpi (by omega) fun j x h1 h2 hx => by
                cases hw2 : x.op.writes C with
                | false => rfl
                | true =>
                  exfalso
                  have hx2 := hwr j x hx hw2
                  have hLj := ahead j x h2 hx (by simp [clashV, hr, hw2, hvl])
                  have hpl' : p < l.length := by omega
                  have hp2' := hp2 _ (List.getElem?_eq_getElem hpl')
                  by_cases ejp : j = p
                  · subst ejp; rw [hp2'.2] at hLj; cases hLj
                  · -- a heavy one done behind one that is not
                    have hoj : ops[j]? = some (ops[j]'(by rw [← D.len]; omega)) := by simp [show j < ops.size by rw [← D.len]; omega]
                    have := anc_doneV D J.closed j x _ hx hoj (fun e he hb => J.closed j _ hLj hoj e he hb) p (D.ord p j _ x (by omega) (List.getElem?_eq_getElem hpl') hx (by simp [clashV, hp2'.1, hx2]))
                    rw [hp2'.2] at this; cases this
              rw [hτ] at he'
              rw [light_ext hl fun x hx => ?_] at he'
              · exact he'
              · have hvx : VRel β (σs p) (eval (fkeep s.looks (Fs i)) x) (a.eval x) := eval_sound hF x
                constructor
                · intro q hq
                  rw [hq] at hvx
                  generalize a.eval x = cx at hvx
                  cases hvx with
                  | ptr q obj hσ c hk h => exact ⟨obj, hσ⟩
                · intro q len cap hq
                  rw [hq] at hvx
                  generalize a.eval x = cx at hvx
                  cases hvx with
                  | sl q obj hσ len cap c cap' hsz hcap h => exact ⟨obj, hσ⟩
        · have hr' : s.op.readsMem = false := by simpa using hr
          rw [pure_any (σ' := σs i) hl hr']
          exact he'
      cases hq : evOp C (fkeep s.looks (Fs i)) (σs p) s.op with
      | none => rw [hq] at hval; cases hval
      | some r =>
        obtain ⟨v, σ'⟩ := r
        rw [hq] at hval
        simp only [Option.map_some, Option.some.injEq] at hval
        subst hval
        have hσ' := light_heap hl hq
        subst hσ'
        refine .inl ((evOp_sound hC hT.ok hF hrel.op hq).wp fun c w' hc => ?_)
        obtain ⟨β', ht, hv⟩ := hc
        exact hK _ _ (hnext β' w' c ht hv)
    · have hw := guard_sound hrel hF (by rw [hguard]; exact hg)
      simp only [hw, Bool.false_eq_true, if_false]
      exact hK _ _ (hnext β w undef (Trans.refl hT.ok) (by rw [hu]; exact vrel_undef))

/-! Stores come last, behind all that is heavy or reads. -/
theorem okAgainstS_spec {o : SOper} : ∀ {done : List SOper} {n : Nat}, okAgainstS o n done = true → ∀ (i : Nat) (x : SOper), done[i]? = some x → clashS x o = true → o.anc.testBit (n + i) = true
  | [], n, _, i, x, hx => by simp at hx
  | y :: done, n, h, i, x, hx => by
    simp only [okAgainstS, Bool.and_eq_true] at h
    intro hc
    cases i with
    | zero => simp at hx; subst hx; simpa [hc] using h.1
    | succ i =>
      have := okAgainstS_spec h.2 i x (by simpa using hx) hc
      rw [show n + (i + 1) = n + 1 + i by omega]; exact this

theorem drawOkGoS_spec : ∀ {rest done : List SOper}, drawOkGoS done rest = true → ∀ (i j : Nat) (x y : SOper), i < done.length + j → rest[j]? = some y → (done ++ rest)[i]? = some x → clashS x y = true → y.anc.testBit i = true
  | [], done, _, i, j, x, y, _, hy, _ => by simp at hy
  | o :: rest, done, h, i, j, x, y, hij, hy, hx => by
    simp only [drawOkGoS, Bool.and_eq_true] at h
    intro hc
    cases j with
    | zero =>
      simp at hy; subst hy
      rw [List.getElem?_append_left (by omega)] at hx
      have := okAgainstS_spec h.1 i x hx hc
      simpa using this
    | succ j =>
      exact drawOkGoS_spec h.2 i j x y (by simp; omega) (by simpa using hy) (by simpa using hx) hc

theorem tailOk_spec : ∀ {l : List SOper}, tailOk l = true → ∃ m, m ≤ l.length ∧ (∀ j s, j < m → l[j]? = some s → isStore s.op = false) ∧ (∀ j s, m ≤ j → l[j]? = some s → tailOp s = true) ∧ (∀ s, l[m]? = some s → isStore s.op = true)
  | [], _ => ⟨0, by simp, by simp, by simp, by simp⟩
  | o :: rest, h => by
    unfold tailOk at h
    split at h
    · rename_i hs
      rw [Bool.and_eq_true, List.all_eq_true] at h
      refine ⟨0, by simp, fun j s hj => by omega, fun j s _ hx => ?_, fun s hx => by simp at hx; subst hx; exact hs⟩
      cases j with
      | zero => simp at hx; subst hx; exact h.1
      | succ j => exact h.2 s (List.mem_of_getElem? (by simpa using hx))
    · rename_i hs
      obtain ⟨m, h1, h2, h3, h4⟩ := tailOk_spec h
      refine ⟨m + 1, by simp; omega, fun j s hj hx => ?_, fun j s hj hx => ?_, fun s hx => h4 s (by simpa using hx)⟩
      · cases j with
        | zero => simp at hx; subst hx; simpa using hs
        | succ j => exact h2 j s (by omega) (by simpa using hx)
      · cases j with
        | zero => omega
        | succ j => exact h3 j s (by omega) (by simpa using hx)

/-- A store left out. -/
def deStore (s : SOper) : SOper := if isStore s.op then ⟨s.dst, s.guard, .mov (.global default), s.anc⟩ else s
def deStores (l : List SOper) : List SOper := l.map deStore
theorem deStores_get {l : List SOper} {i : Nat} {s' : SOper} (h : (deStores l)[i]? = some s') : ∃ s, l[i]? = some s ∧ s' = deStore s := by
  unfold deStores at h
  rw [List.getElem?_map, Option.map_eq_some_iff] at h
  obtain ⟨s, h1, h2⟩ := h
  exact ⟨s, h1, h2.symm⟩
theorem deStore_dst (s : SOper) : (deStore s).dst = s.dst := by unfold deStore; split <;> rfl
theorem deStore_anc (s : SOper) : (deStore s).anc = s.anc := by unfold deStore; split <;> rfl
theorem deStore_clash {x y : SOper} (h : clash0 (deStore x) (deStore y) = true) : clash0 x y = true := by
  have hl : ∀ (s : SOper) (t : Nat), memb (deStore s).looks t = true → memb s.looks t = true := by
    intro s t ht
    unfold deStore at ht
    split at ht
    · unfold SOper.looks at ht ⊢
      cases hg : s.guard with
      | none => rw [hg] at ht; simp [SOp.operands, tmpsOf, memb] at ht
      | some q =>
        rw [hg] at ht
        rw [memb_iff] at ht ⊢
        simp [SOp.operands, tmpsOf] at ht ⊢
        exact .inl ht
    · exact ht
  have hd : ∀ (a b : SOper), hasDst (deStore a) (deStore b).looks = true → hasDst a b.looks = true := by
    intro a b hab
    unfold hasDst at hab ⊢
    rw [deStore_dst] at hab
    split <;> rename_i d <;> rw [d] at hab
    · exact hl _ _ hab
    · cases hab
  unfold clash0 at h ⊢
  rw [Bool.or_eq_true, Bool.or_eq_true] at h ⊢
  rcases h with (h | h) | h
  · exact .inl (.inl (hd _ _ h))
  · exact .inl (.inr (hd _ _ h))
  · refine .inr ?_
    unfold sameDst at h ⊢
    rw [deStore_dst, deStore_dst] at h
    exact h

def usD (l : List SOper) (us : Nat → Value) (i : Nat) : Value := match l[i]? with | some s => if isStore s.op then dead else us i | none => us i

structure StoresLast (P : Program) (C : Ctab) (ops : Array Oper) (l : List SOper) (m : Nat) : Prop where
  full : Drawn P C ops l (fun j => j < m ∧ ∃ s, l[j]? = some s ∧ s.op.heavy = true)
  part : Drawn0 P ops (deStores l) (fun j => ∀ s, l[j]? = some s → isStore s.op = false)
  le : m ≤ l.length
  pre : ∀ j s, j < m → l[j]? = some s → isStore s.op = false
  tail : ∀ j s, m ≤ j → l[j]? = some s → tailOp s = true
  at_ : ∀ s, l[m]? = some s → isStore s.op = true
  quiet : ∀ j s, j < m → l[j]? = some s → s.op.writes C = false

theorem tailOp_cases {s : SOper} (h : tailOp s = true) : (isStore s.op = true ∧ s.dst = none ∧ s.guard = none) ∨ (isStore s.op = false ∧ s.op.heavy = false ∧ s.op.readsMem = false) := by
  unfold tailOp at h
  rw [Bool.or_eq_true, Bool.and_eq_true, Bool.and_eq_true, Bool.and_eq_true] at h
  rcases h with ⟨⟨h1, h2⟩, h3⟩ | ⟨h1, h2⟩
  · exact .inl ⟨h1, Option.isNone_iff_eq_none.1 h2, Option.isNone_iff_eq_none.1 h3⟩
  · refine .inr ⟨?_, by simpa using h1, by simpa using h2⟩
    cases hop : s.op <;> rw [hop] at h1 <;> first | rfl | (simp [SOp.heavy] at h1; done)
theorem light_quiet {s : SOp} (h : s.heavy = false) : s.writes C = false := by
  cases s <;> first | rfl | (simp [SOp.heavy] at h; done)
theorem store_heavy {s : SOp} (h : isStore s = true) : s.heavy = true ∧ s.readsMem = false := by
  cases s <;> first | exact ⟨rfl, rfl⟩ | (simp [isStore] at h; done)

theorem storesLast {ops : Array Oper} {l : List SOper} (h : rOps P ops [] ops.toList = some l) (hb : backEdges 0 ops.toList = true) (hd : drawOkS l = true) (hw : noWritesS C l = true) : ∃ m, StoresLast P C ops l m := by
  unfold drawOkS at hd
  rw [Bool.and_eq_true] at hd
  obtain ⟨m, hm1, hm2, hm3, hm4⟩ := tailOk_spec hd.2
  have hord : ∀ (i j : Nat) (x y : SOper), i < j → l[i]? = some x → l[j]? = some y → clashS x y = true → y.anc.testBit i = true := fun i j x y hij hx hy hc =>
    drawOkGoS_spec (done := []) hd.1 i j x y (by simpa using hij) hy (by simpa using hx) hc
  obtain ⟨h1, h2⟩ := rOps_rel h
  have hlen : l.length = ops.size := by simpa using h1
  have hback : ∀ (j : Nat) (o : Oper), ops[j]? = some o → ∀ e ∈ o.after.toList, Region.binds .any e = true → e.on < j := by
    intro j o ho e he hbn
    have := backEdges_spec hb j o (by simpa using ho) e he hbn
    omega
  have hanc : ∀ (j : Nat) (s : SOper) (o : Oper), l[j]? = some s → ops[j]? = some o → ∀ i, s.anc.testBit i = true → ∃ e ∈ o.after.toList, Region.binds .any e = true ∧ (e.on = i ∨ ∃ s', l[e.on]? = some s' ∧ s'.anc.testBit i = true) := by
    intro j s o hs ho i hi
    have ha := rOps_anc h j s o hs (by simpa using ho)
    rw [ha, List.nil_append] at hi
    rcases ancOf_bit _ _ _ _ hi with h0 | ⟨e, he, hbn, h3⟩
    · simp at h0
    · refine ⟨e, he, hbn, ?_⟩
      rcases h3 with h3 | h3
      · exact .inl h3
      · right
        have hlt := hback j o ho e he hbn
        have hjl : j < l.length := by
          rcases Nat.lt_or_ge j l.length with h' | h'
          · exact h'
          · rw [List.getElem?_eq_none h'] at hs; cases hs
        refine ⟨l[e.on]'(by omega), by simp [show e.on < l.length by omega], ?_⟩
        rw [List.getD_eq_getElem?_getD, List.getElem?_map, List.getElem?_take, if_pos hlt] at h3
        simpa [show e.on < l.length by omega] using h3
  have hq : ∀ j s, j < m → l[j]? = some s → s.op.writes C = false := by
    intro j s hj hs
    have := List.all_eq_true.1 hw s (List.mem_of_getElem? hs)
    rw [hm2 j s hj hs] at this
    simpa using this
  have sub0 : ∀ {x y : SOper}, clash0 x y = true → clashS x y = true := by intro x y h; unfold clashS; rw [h]; rfl
  refine ⟨m, ⟨hlen, fun i o s ho hs => h2 i o s (by simpa using ho) hs, hback, hanc, ?_⟩, ⟨by simp [deStores, hlen], ?_, hback, ?_, ?_⟩, hm1, hm2, hm3, hm4, hq⟩
  · intro i j x y hij hx hy hc
    by_cases hc0 : clash0 x y = true
    · exact .inl (hord i j x y hij hx hy (sub0 hc0))
    have hcc : (x.op.heavy && y.op.heavy) = true ∨ (x.op.writes C && y.op.readsMem) = true ∨ (x.op.readsMem && y.op.writes C) = true := by
      unfold clash0 at hc0
      unfold clash at hc
      revert hc hc0
      cases (x.op.heavy && y.op.heavy) <;> cases (x.op.writes C && y.op.readsMem) <;> cases (x.op.readsMem && y.op.writes C) <;> simp <;> intros <;> simp_all
    rcases Nat.lt_or_ge j m with hj | hj
    · -- both stand ahead of the stores
      right
      have w1 := hq i x (by omega) hx
      have w2 := hq j y hj hy
      rw [w1, w2] at hcc
      simp at hcc
      exact ⟨⟨by omega, x, hx, hcc.1⟩, ⟨hj, y, hy, hcc.2⟩⟩
    · left
      rcases tailOp_cases (hm3 j y hj hy) with ⟨t1, _, _⟩ | ⟨t1, t2, t3⟩
      · refine hord i j x y hij hx hy ?_
        unfold clashS
        have := store_heavy t1
        rw [this.2] at hcc
        rw [t1]
        rcases hcc with hcc | hcc | hcc
        · rw [Bool.and_eq_true] at hcc; simp [hcc.1]
        · simp at hcc
        · rw [Bool.and_eq_true] at hcc; simp [hcc.1]
      · rw [t2, t3, light_quiet t2] at hcc
        simp at hcc
  · intro i o s hR ho hs
    obtain ⟨s0, g1, rfl⟩ := deStores_get hs
    have : deStore s0 = s0 := by unfold deStore; rw [hR s0 g1]; rfl
    rw [this]
    exact h2 i o s0 (by simpa using ho) g1
  · intro j s o hs ho i hi
    obtain ⟨s0, g1, rfl⟩ := deStores_get hs
    rw [deStore_anc] at hi
    obtain ⟨e, he, hbn, h3⟩ := hanc j s0 o g1 ho i hi
    refine ⟨e, he, hbn, h3.imp id ?_⟩
    rintro ⟨s', k1, k2⟩
    exact ⟨deStore s', by unfold deStores; rw [List.getElem?_map, k1]; rfl, by rw [deStore_anc]; exact k2⟩
  · intro i j x y hij hx hy hc
    obtain ⟨x0, g1, rfl⟩ := deStores_get hx
    obtain ⟨y0, g2, rfl⟩ := deStores_get hy
    rw [deStore_anc]
    exact hord i j x0 y0 hij g1 g2 (sub0 (deStore_clash hc))

theorem StoresLast.trace {ops : Array Oper} {l : List SOper} {m : Nat} (S : StoresLast P C ops l m) {Fs : Nat → Frame} {σs : Nat → Heap} {us : Nat → Value}
    (htr : ∀ (i : Nat) (s : SOper), l[i]? = some s → stepS C s (Fs i) (σs i) = some (us i, Fs (i + 1), σs (i + 1))) : ∀ (i : Nat) (s : SOper), (deStores l)[i]? = some s → stepS C s (Fs i) (σs (min i m)) = some (usD l us i, Fs (i + 1), σs (min (i + 1) m)) := by
  intro i s hs
  obtain ⟨s0, g1, rfl⟩ := deStores_get hs
  have h0 := htr i s0 g1
  unfold usD
  rw [g1]
  dsimp only
  rcases Nat.lt_or_ge i m with hi | hi
  · have hns := S.pre i s0 hi g1
    have : deStore s0 = s0 := by unfold deStore; rw [hns]; rfl
    rw [this, hns, show min i m = i by omega, show min (i + 1) m = i + 1 by omega]
    exact h0
  · rw [show min i m = m by omega, show min (i + 1) m = m by omega]
    rcases tailOp_cases (S.tail i s0 hi g1) with ⟨t1, t2, t3⟩ | ⟨t1, t2, t3⟩
    · have hF : Fs (i + 1) = Fs i := by
        unfold stepS at h0
        rw [t3, t2] at h0
        simp only [guardOf, cond_true] at h0
        rw [Option.map_eq_some_iff] at h0
        obtain ⟨r, _, h2⟩ := h0
        simp only [Prod.mk.injEq] at h2
        rw [← h2.2.1]; rfl
      have : deStore s0 = ⟨none, none, .mov (.global default), s0.anc⟩ := by unfold deStore; rw [t1, if_pos rfl, t2, t3]
      rw [this, t1, if_pos rfl, hF]
      rfl
    · have : deStore s0 = s0 := by unfold deStore; rw [t1]; rfl
      rw [this, t1]
      have hp := pure_any (C := C) (F := Fs i) (σ := σs i) (σ' := σs m) t2 t3
      unfold stepS at h0 ⊢
      cases hg : guardOf (Fs i) s0.guard with
      | none => rw [hg] at h0; cases h0
      | some g =>
        rw [hg] at h0
        cases g with
        | true =>
          simp only [cond_true] at h0 ⊢
          cases he : evOp C (Fs i) (σs i) s0.op with
          | none => rw [he] at h0; cases h0
          | some r =>
            rw [he] at h0 hp
            simp only [Option.map_some, Option.some.injEq, Prod.mk.injEq] at h0
            cases he2 : evOp C (Fs i) (σs m) s0.op with
            | none => rw [he2] at hp; cases hp
            | some r2 =>
              obtain ⟨v2, σ2⟩ := r2
              rw [he2] at hp
              simp only [Option.map_some, Option.some.injEq] at hp
              have := light_heap t2 he2
              simp only [Option.map_some, ← hp, this, ← h0.1, ← h0.2.1]
              rfl
        | false =>
          simp only [cond_false, Option.some.injEq, Prod.mk.injEq] at h0 ⊢
          exact ⟨h0.1, h0.2.1, trivial⟩

theorem lastW_deStores {l : List SOper} {us : Nat → Value} {L : Nat → Bool} {base : Nat → Value} (hn : ∀ (j : Nat) (s : SOper), l[j]? = some s → isStore s.op = true → s.dst = none) (t : Nat) : ∀ (n : Nat), lastW (deStores l) (usD l us) L base n t = lastW l us L base n t
  | 0 => rfl
  | n + 1 => by
    simp only [lastW]
    rw [lastW_deStores hn t n]
    have e1 : ((deStores l)[n]?).bind (·.dst) = (l[n]?).bind (·.dst) := by
      unfold deStores
      rw [List.getElem?_map]
      cases l[n]? with
      | none => rfl
      | some s => exact deStore_dst s
    rw [e1]
    split
    · rename_i h
      unfold usD
      cases hx : l[n]? with
      | none => rfl
      | some s =>
        dsimp only
        split
        · rename_i hs
          rw [hx] at h
          simp [hn n s hx hs] at h
        · rfl
    · rfl

theorem StoresLast.nodst {ops : Array Oper} {l : List SOper} {m : Nat} (S : StoresLast P C ops l m) : ∀ (j : Nat) (s : SOper), l[j]? = some s → isStore s.op = true → s.dst = none := by
  intro j s hs hst
  rcases Nat.lt_or_ge j m with h | h
  · have := S.pre j s h hs; rw [hst] at this; cases this
  · rcases tailOp_cases (S.tail j s h hs) with ⟨_, t2, _⟩ | ⟨t1, _, _⟩
    · exact t2
    · rw [hst] at t1; cases t1

def DStS (ops : Array Oper) (l : List SOper) (m : Nat) (σs : Nat → Heap) (us : Nat → Value) (base : Nat → Value) (β0 : Inj) (σ0 : Heap) (w0 : World) (a0 : Act) (L : Nat → Bool) (a : Act) (w : World) : Prop :=
  ((∀ j s, l[j]? = some s → isStore s.op = true → L j = false) ∧ DStQ ops (deStores l) (fun i => σs (min i m)) (usD l us) base β0 σ0 w0 a0 L a w) ∨
  ((∀ j, (j < m ∧ ∃ s, l[j]? = some s ∧ s.op.heavy = true) → L j = true) ∧ DSt ops l σs us base β0 σ0 w0 a0 L a w)

theorem DStS.toDSt {ops : Array Oper} {l : List SOper} {m : Nat} (S : StoresLast P C ops l m) {σs : Nat → Heap} {us : Nat → Value} {base : Nat → Value} {β0 : Inj} {σ0 : Heap} {w0 : World} {a0 : Act} {L : Nat → Bool} {a : Act} {w : World}
    (J : DStS ops l m σs us base β0 σ0 w0 a0 L a w) (hX : ∀ j, (j < m ∧ ∃ s, l[j]? = some s ∧ s.op.heavy = true) → L j = true) : DSt ops l σs us base β0 σ0 w0 a0 L a w := by
  rcases J with ⟨hs, J⟩ | ⟨_, J⟩
  · obtain ⟨β, hI, hT, hN, hV⟩ := J.st
    have hl : (deStores l).length = l.length := by simp [deStores]
    have hm : min (deStores l).length m = m := by rw [hl]; have := S.le; omega
    refine ⟨J.closed, ⟨m, S.le, fun j s hj hs hh => hX j ⟨hj, s, hs, hh⟩, fun s hs2 => ⟨(store_heavy (S.at_ s hs2)).1, hs m s hs2 (S.at_ s hs2)⟩, cutB β (σs m).length, ?_, fun t => ?_⟩, J.sz, J.df⟩
    · rw [hm] at hT; exact hT
    · have := hV t (deStores l).length (Nat.le_refl _) (fun j h1 h2 _ => by omega)
      rw [hm, hl, lastW_deStores S.nodst] at this
      exact this
  · exact J

theorem draw_stepS (hC : CtabOk P C) {ops : Array Oper} {l : List SOper} {m : Nat} (S : StoresLast P C ops l m) {Fs : Nat → Frame} {σs : Nat → Heap} {us : Nat → Value}
    (htr : ∀ (i : Nat) (s : SOper), l[i]? = some s → stepS C s (Fs i) (σs i) = some (us i, Fs (i + 1), σs (i + 1))) {β0 : Inj} {σ0 : Heap} {w0 : World} {a0 : Act} (hdst : ∀ (i : Nat) (o : Oper), ops[i]? = some o → ∀ d, o.dst = some d → d < a0.tmps.size) (hσ0 : σs 0 = σ0)
    {L : Nat → Bool} {a : Act} {w : World} (J : DStS ops l m σs us (fget (Fs 0)) β0 σ0 w0 a0 L a w) {i : Nat} {o : Oper} (ho : ops[i]? = some o) (hLi : L i = false) (hedges : ∀ e ∈ o.after.toList, Region.binds .any e = true → L e.on = true)
    {K : Act → World → Prop} {Q : Exit → Act → World → Prop} (hK : ∀ a' w', DStS ops l m σs us (fget (Fs 0)) β0 σ0 w0 a0 (fun j => if j = i then true else L j) a' w' → K a' w') : wpOp P ops Q i K a w := by
  have up : ∀ {j : Nat}, L j = true → (if j = i then true else L j) = true := by intro j h; split <;> first | rfl | exact h
  have late : (∀ j, (j < m ∧ ∃ s, l[j]? = some s ∧ s.op.heavy = true) → L j = true) → wpOp P ops Q i K a w := fun hX =>
    draw_step hC S.full htr hdst hX (J.toDSt S hX) ho hLi hedges fun a' w' J' => hK a' w' (.inr ⟨fun j hj => up (hX j hj), J'⟩)
  have hil : i < l.length := by
    rw [S.full.len]
    rcases Nat.lt_or_ge i ops.size with h' | h'
    · exact h'
    · simp [Array.getElem?_eq_none h'] at ho
  obtain ⟨s, hs⟩ : ∃ s, l[i]? = some s := ⟨l[i], by simp [hil]⟩
  rcases J with ⟨hst, J0⟩ | ⟨hX, J0⟩
  · cases his : isStore s.op with
    | true =>
      refine late fun j hj => ?_
      obtain ⟨hjm, x, hx, hh⟩ := hj
      have him : m ≤ i := by
        rcases Nat.lt_or_ge i m with h | h
        · have := S.pre i s h hs; rw [his] at this; cases this
        · exact h
      refine anc_done S.full J0.closed i s o hs ho hedges j ?_
      rcases S.full.ord j i x s (by omega) hx hs (by unfold clash; rw [hh, (store_heavy his).1]; rfl) with h | ⟨_, h⟩
      · exact h
      · exact absurd h.1 (by omega)
    | false =>
      have hl : (deStores l).length = l.length := by simp [deStores]
      refine draw_stepQ hC S.part (fun j x hx => ?_) (S.trace htr) hdst (by simpa using hσ0) J0 (fun s' hs' => by rw [hs] at hs'; cases hs'; exact his) ho hLi hedges fun a' w' J' => hK a' w' (.inl ⟨fun j x hx hxs => ?_, J'⟩)
      · obtain ⟨x0, g1, rfl⟩ := deStores_get hx
        unfold deStore
        split
        · rfl
        · rename_i hns
          rcases Nat.lt_or_ge j m with h | h
          · exact S.quiet j x0 h g1
          · rcases tailOp_cases (S.tail j x0 h g1) with ⟨t1, _, _⟩ | ⟨_, t2, _⟩
            · exact absurd t1 hns
            · exact light_quiet t2
      · have := hst j x hx hxs
        by_cases e : j = i
        · subst e; rw [hs] at hx; cases hx; rw [his] at hxs; cases hxs
        · show (if j = i then true else L j) = false
          rw [if_neg e]; exact this
  · exact late hX

end
end Go.Abs

/- The abstract machine: a region whose order is drawn, in which reads have the same value at every heap that may be. Condition: the contracts that are used hold. -/
namespace Go.Abs

theorem stabRun_of {C : Ctab} {l : List SOper} {F : Frame} {σ : Heap} (h : stabRun C l F σ = true) : StabRun C l F σ := by
  unfold stabRun at h
  exact @of_decide_eq_true _ (_) h
section
variable {P : Program} {C : Ctab}

structure DrawnT (P : Program) (ops : Array Oper) (l : List SOper) : Prop where
  len : l.length = ops.size
  rel : ∀ (i : Nat) (o : Oper) (s : SOper), ops[i]? = some o → l[i]? = some s → OpRel P ops o s
  back : ∀ (j : Nat) (o : Oper), ops[j]? = some o → ∀ e ∈ o.after.toList, Region.binds .any e = true → e.on < j
  anc : ∀ (j : Nat) (s : SOper) (o : Oper), l[j]? = some s → ops[j]? = some o → ∀ i, s.anc.testBit i = true → ∃ e ∈ o.after.toList, Region.binds .any e = true ∧ (e.on = i ∨ ∃ s', l[e.on]? = some s' ∧ s'.anc.testBit i = true)
  ord : ∀ (i j : Nat) (x y : SOper), i < j → l[i]? = some x → l[j]? = some y → clashT x y = true → y.anc.testBit i = true

theorem okAgainstT_spec {o : SOper} : ∀ {done : List SOper} {n : Nat}, okAgainstT o n done = true → ∀ (i : Nat) (x : SOper), done[i]? = some x → clashT x o = true → o.anc.testBit (n + i) = true
  | [], n, _, i, x, hx => by simp at hx
  | y :: done, n, h, i, x, hx => by
    simp only [okAgainstT, Bool.and_eq_true] at h
    intro hc
    cases i with
    | zero => simp at hx; subst hx; simpa [hc] using h.1
    | succ i =>
      have := okAgainstT_spec h.2 i x (by simpa using hx) hc
      rw [show n + (i + 1) = n + 1 + i by omega]; exact this

theorem drawOkGoT_spec : ∀ {rest done : List SOper}, drawOkGoT done rest = true → ∀ (i j : Nat) (x y : SOper), i < done.length + j → rest[j]? = some y → (done ++ rest)[i]? = some x → clashT x y = true → y.anc.testBit i = true
  | [], done, _, i, j, x, y, _, hy, _ => by simp at hy
  | o :: rest, done, h, i, j, x, y, hij, hy, hx => by
    simp only [drawOkGoT, Bool.and_eq_true] at h
    intro hc
    cases j with
    | zero =>
      simp at hy; subst hy
      rw [List.getElem?_append_left (by omega)] at hx
      have := okAgainstT_spec h.1 i x hx hc
      simpa using this
    | succ j =>
      exact drawOkGoT_spec h.2 i j x y (by simp; omega) (by simpa using hy) (by simpa using hx) hc

theorem drawnT_of {ops : Array Oper} {l : List SOper} (h : rOps P ops [] ops.toList = some l) (hb : backEdges 0 ops.toList = true) (hd : drawOkT l = true) : DrawnT P ops l := by
  obtain ⟨h1, h2⟩ := rOps_rel h
  have hback : ∀ (j : Nat) (o : Oper), ops[j]? = some o → ∀ e ∈ o.after.toList, Region.binds .any e = true → e.on < j := by
    intro j o ho e he hbn
    have := backEdges_spec hb j o (by simpa using ho) e he hbn
    omega
  refine ⟨by simpa using h1, fun i o s ho hs => h2 i o s (by simpa using ho) hs, hback, ?_, ?_⟩
  · intro j s o hs ho i hi
    have ha := rOps_anc h j s o hs (by simpa using ho)
    rw [ha, List.nil_append] at hi
    rcases ancOf_bit _ _ _ _ hi with h0 | ⟨e, he, hbn, h3⟩
    · simp at h0
    · refine ⟨e, he, hbn, ?_⟩
      rcases h3 with h3 | h3
      · exact .inl h3
      · right
        have hlt := hback j o ho e he hbn
        have hjl : j < l.length := by
          rcases Nat.lt_or_ge j l.length with h' | h'
          · exact h'
          · rw [List.getElem?_eq_none h'] at hs; cases hs
        refine ⟨l[e.on]'(by omega), by simp [show e.on < l.length by omega], ?_⟩
        rw [List.getD_eq_getElem?_getD, List.getElem?_map, List.getElem?_take, if_pos hlt] at h3
        simpa [show e.on < l.length by omega] using h3
  · intro i j x y hij hx hy hc
    exact drawOkGoT_spec (done := []) hd i j x y (by simpa using hij) hy (by simpa using hx) hc

theorem anc_doneT {ops : Array Oper} {l : List SOper} (D : DrawnT P ops l) {L : Nat → Bool} (hL : Closed ops L) : ∀ (j : Nat) (s : SOper) (o : Oper), l[j]? = some s → ops[j]? = some o → (∀ e ∈ o.after.toList, Region.binds .any e = true → L e.on = true) →
    ∀ i, s.anc.testBit i = true → L i = true := by
  intro j
  induction j using Nat.strongRecOn with
  | _ j ih =>
    intro s o hs ho hedges i hi
    obtain ⟨e, he, hb, h⟩ := D.anc j s o hs ho i hi
    rcases h with rfl | ⟨s', hs', h⟩
    · exact hedges e he hb
    · have hlt := D.back j o ho e he hb
      have hjl : e.on < l.length := by
        rcases Nat.lt_or_ge e.on l.length with h' | h'
        · exact h'
        · rw [List.getElem?_eq_none h'] at hs'; cases hs'
      have hol : e.on < ops.size := by rw [← D.len]; exact hjl
      have ho' : ops[e.on]? = some ops[e.on] := by simp [hol]
      exact ih e.on hlt s' _ hs' ho' (fun e2 he2 hb2 => hL e.on _ (hedges e he hb) ho' e2 he2 hb2) i h

theorem draw_stepT (hC : CtabOk P C) {ops : Array Oper} {l : List SOper} (D : DrawnT P ops l) {Fs : Nat → Frame} {σs : Nat → Heap} {us : Nat → Value} (hvr : Stable C l Fs σs us)
    (htr : ∀ (i : Nat) (s : SOper), l[i]? = some s → stepS C s (Fs i) (σs i) = some (us i, Fs (i + 1), σs (i + 1))) {β0 : Inj} {σ0 : Heap} {w0 : World} {a0 : Act} (hdst : ∀ (i : Nat) (o : Oper), ops[i]? = some o → ∀ d, o.dst = some d → d < a0.tmps.size)
    {L : Nat → Bool} {a : Act} {w : World} (J : DSt ops l σs us (fget (Fs 0)) β0 σ0 w0 a0 L a w) {i : Nat} {o : Oper} (ho : ops[i]? = some o) (hLi : L i = false) (hedges : ∀ e ∈ o.after.toList, Region.binds .any e = true → L e.on = true)
    {K : Act → World → Prop} {Q : Exit → Act → World → Prop} (hK : ∀ a' w', DSt ops l σs us (fget (Fs 0)) β0 σ0 w0 a0 (fun j => if j = i then true else L j) a' w' → K a' w') : wpOp P ops Q i K a w := by
  have hio : i < ops.size := by
    rcases Nat.lt_or_ge i ops.size with h' | h'
    · exact h'
    · simp [Array.getElem?_eq_none h'] at ho
  have hil : i < l.length := by rw [D.len]; exact hio
  obtain ⟨s, hs⟩ : ∃ s, l[i]? = some s := ⟨l[i], by simp [hil]⟩
  have hrel := D.rel i o s ho hs
  have hanc := anc_doneT D J.closed i s o hs ho hedges
  obtain ⟨p, hpl, hp1, hp2, β, hT, hV⟩ := J.st
  have hstep := htr i s hs
  -- those behind that clash with it are not done; those ahead are
  have ahead : ∀ (j : Nat) (x : SOper), j < i → l[j]? = some x → clashT x s = true → L j = true := fun j x hj hx hc => hanc j (D.ord j i x s hj hx hs hc)
  have behind : ∀ (j : Nat) (x : SOper), i < j → l[j]? = some x → clashT s x = true → L j = false := by
    intro j x hj hx hc
    cases hLj : L j with
    | false => rfl
    | true =>
      have hjl : j < l.length := by
        rcases Nat.lt_or_ge j l.length with h' | h'
        · exact h'
        · rw [List.getElem?_eq_none h'] at hx; cases hx
      have hoj : ops[j]? = some (ops[j]'(by rw [← D.len]; exact hjl)) := by simp [show j < ops.size by rw [← D.len]; exact hjl]
      have := anc_doneT D J.closed j x _ hx hoj (fun e he hb => J.closed j _ hLj hoj e he hb) i (D.ord i j s x hj hs hx hc)
      rw [hLi] at this; cases this
  have clash_dst : ∀ (j : Nat) (x : SOper) (t : Nat), l[j]? = some x → x.dst = some t → t ∈ s.looks → clashT x s = true ∧ clashT s x = true := by
    intro j x t hx hd ht
    have hm : memb s.looks t = true := (memb_iff t _).2 ht
    constructor
    · simp [clashT, clash0, hasDst, hd, hm]
    · simp [clashT, clash0, hasDst, hd, hm]
  have clash_same : ∀ (j : Nat) (x : SOper) (t : Nat), l[j]? = some x → x.dst = some t → s.dst = some t → clashT s x = true := by
    intro j x t hx hd ht
    simp [clashT, clash0, sameDst, hd, ht]
  -- what it looks at stands as in the order of the text
  have hlook : ∀ t ∈ s.looks, lastW l us L (fget (Fs 0)) l.length t = fget (Fs i) t := by
    intro t ht
    have e1 : lastW l us L (fget (Fs 0)) l.length t = lastW l us L (fget (Fs 0)) i t := by
      refine lastW_cut (by omega) fun j h1 h2 hd => ?_
      rw [List.getElem?_eq_getElem h2] at hd
      simp only [Option.bind_some] at hd
      by_cases e : j = i
      · subst e; exact hLi
      · exact behind j _ (by omega) (List.getElem?_eq_getElem h2) (clash_dst j _ t (List.getElem?_eq_getElem h2) hd ht).2
    have e2 : lastW l us L (fget (Fs 0)) i t = lastW l us (fun _ => true) (fget (Fs 0)) i t := by
      refine lastW_congr fun j hj hd => ?_
      have h2 : j < l.length := by omega
      rw [List.getElem?_eq_getElem h2] at hd
      simp only [Option.bind_some] at hd
      exact ahead j _ hj (List.getElem?_eq_getElem h2) (clash_dst j _ t (List.getElem?_eq_getElem h2) hd ht).1
    rw [e1, e2, frame_lastW htr i (by omega) t]
  have hF : FOk β (σs p) (fkeep s.looks (Fs i)) a.tmps := by
    intro t
    rw [fget_fkeep]
    split
    · rename_i hm
      have := hV t
      rw [hlook t ((memb_iff t _).1 hm)] at this
      exact this
    · exact .dead _
  have hlooks_ops : ∀ t ∈ tmpsOf s.op.operands, t ∈ s.looks := by
    intro t ht
    unfold SOper.looks
    split
    · simp [ht]
    · exact ht
  have hev : ∀ σ, evOp C (fkeep s.looks (Fs i)) σ s.op = evOp C (Fs i) σ s.op := by
    intro σ
    refine evOp_congr fun t ht => ?_
    rw [fget_fkeep, if_pos ((memb_iff t _).2 (hlooks_ops t ht))]
  have hguard : guardOf (fkeep s.looks (Fs i)) s.guard = guardOf (Fs i) s.guard := by
    cases hg : s.guard with
    | none => rfl
    | some q =>
      obtain ⟨t, want⟩ := q
      simp only [guardOf]
      rw [fget_fkeep, if_pos ((memb_iff t _).2 (by simp [SOper.looks, hg]))]
  -- what holds behind it
  have closed' : Closed ops (fun j => if j = i then true else L j) := by
    intro j o' hj ho' e he hb
    dsimp only at hj ⊢
    by_cases ej : j = i
    · subst ej
      rw [ho] at ho'; cases ho'
      by_cases ee : e.on = j
      · rw [if_pos ee]
      · rw [if_neg ee]; exact hedges e he hb
    · rw [if_neg ej] at hj
      by_cases ee : e.on = i
      · rw [if_pos ee]
      · rw [if_neg ee]; exact J.closed j o' hj ho' e he hb
  have hslot : ∀ (β' : Inj) (σ' : Heap) (c : Value), Later β (σs p) β' σ' → VRel β' σ' (us i) c → ∀ t, VRel β' σ' (lastW l us (fun j => if j = i then true else L j) (fget (Fs 0)) l.length t) ((a.put o.dst c).tmps.getD t undef) := by
    intro β' σ' c hlat hc t
    by_cases hd : s.dst = some t
    · -- it is the last that writes here
      have e1 : lastW l us (fun j => if j = i then true else L j) (fget (Fs 0)) l.length t = us i := by
        rw [lastW_cut (i := i + 1) (by omega) fun j h1 h2 hdj => ?_]
        · simp [lastW, hs, hd]
        · rw [List.getElem?_eq_getElem h2] at hdj
          simp only [Option.bind_some] at hdj
          try dsimp only
          rw [if_neg (by omega)]
          exact behind j _ (by omega) (List.getElem?_eq_getElem h2) (clash_same j _ t (List.getElem?_eq_getElem h2) hdj hd)
      rw [e1]
      have hod : o.dst = some t := by rw [← hrel.dst]; exact hd
      have hlt : t < a.tmps.size := by rw [J.sz]; exact hdst i o ho t hod
      simpa [Act.put, hod, Array.getD_eq_getD_getElem?, hlt] using hc
    · have e1 : lastW l us (fun j => if j = i then true else L j) (fget (Fs 0)) l.length t = lastW l us L (fget (Fs 0)) l.length t := by
        refine lastW_congr fun j hj hdj => ?_
        try dsimp only
        rw [if_neg]
        intro ej; subst ej
        rw [hs] at hdj
        exact hd (by simpa using hdj)
      rw [e1]
      have h0 := (hV t).later hlat
      cases hod : o.dst with
      | none => simpa [Act.put, hod] using h0
      | some d =>
        have hne : d ≠ t := fun e => hd (by rw [hrel.dst, hod, e])
        rw [Array.getD_eq_getD_getElem?] at h0 ⊢
        simp only [Act.put]
        rw [Array.getElem?_setIfInBounds, if_neg hne]
        exact h0
  unfold wpOp
  rw [ho]
  by_cases hh : s.op.heavy = true
  · -- a heavy one: it is the next
    have hpi : p = i := by
      rcases Nat.lt_trichotomy p i with h' | h' | h'
      · exfalso
        have hpl' : p < l.length := by omega
        have := hp2 _ (List.getElem?_eq_getElem hpl')
        have hc : clashT l[p] s = true := by simp [clashT, this.1, hh]
        have := ahead p _ h' (List.getElem?_eq_getElem hpl') hc
        rw [this] at *
        simp_all
      · exact h'
      · exfalso
        have := hp1 i s h' hs hh
        rw [hLi] at this; cases this
    subst hpi
    obtain ⟨p', hp'1, hp'2, hp'3, hp'4⟩ := nextHeavy l (p + 1) (by omega)
    have hconst : σs p' = σs (p + 1) := heap_const htr hp'1 hp'2 hp'3
    have hnext : ∀ (β' : Inj) (w' : World) (c : Value), Trans β (σs p) w β' (σs (p + 1)) w' → VRel β' (σs (p + 1)) (us p) c → DSt ops l σs us (fget (Fs 0)) β0 σ0 w0 a0 (fun j => if j = p then true else L j) (a.put o.dst c) w' := by
      intro β' w' c ht hc
      refine ⟨closed', ⟨p', hp'2, fun j x hj hx hhx => ?_, fun x hx => ⟨hp'4 x hx, ?_⟩, β', ?_, ?_⟩, by rw [put_size, J.sz], by rw [put_defers, J.df]⟩
      · try dsimp only
        by_cases ej : j = p
        · rw [if_pos ej]
        · rw [if_neg ej]
          by_cases hlt : j < p
          · exact hp1 j x hlt hx hhx
          · have := hp'3 j x (by omega) hj hx
            rw [this] at hhx; cases hhx
      · try dsimp only
        rw [if_neg (by omega)]
        refine behind p' x (by omega) hx ?_
        simp [clashT, hh, hp'4 x hx]
      · rw [hconst]; exact hT.trans ht
      · rw [hconst]; exact hslot β' (σs (p + 1)) c ht.later hc
    rcases stepS_parts hstep with ⟨hg, he⟩ | ⟨hg, hu, he⟩
    · have hw := guard_sound hrel hF (by rw [hguard]; exact hg)
      simp only [hw, if_true]
      refine .inl ((evOp_sound hC hT.ok hF hrel.op (by rw [hev]; exact he)).wp fun c w' hc => ?_)
      obtain ⟨β', ht, hv⟩ := hc
      exact hK _ _ (hnext β' w' c ht hv)
    · have hw := guard_sound hrel hF (by rw [hguard]; exact hg)
      simp only [hw, Bool.false_eq_true, if_false]
      exact hK _ _ (hnext β w undef (by rw [he]; exact Trans.refl hT.ok) (by rw [hu]; exact vrel_undef))
  · -- a light one
    have hl : s.op.heavy = false := by simpa using hh
    have hnext : ∀ (β' : Inj) (w' : World) (c : Value), Trans β (σs p) w β' (σs p) w' → VRel β' (σs p) (us i) c → DSt ops l σs us (fget (Fs 0)) β0 σ0 w0 a0 (fun j => if j = i then true else L j) (a.put o.dst c) w' := by
      intro β' w' c ht hc
      refine ⟨closed', ⟨p, hpl, fun j x hj hx hhx => ?_, fun x hx => ⟨(hp2 x hx).1, ?_⟩, β', hT.trans ht, hslot β' (σs p) c ht.later hc⟩, by rw [put_size, J.sz], by rw [put_defers, J.df]⟩
      · try dsimp only
        by_cases ej : j = i
        · rw [if_pos ej]
        · rw [if_neg ej]; exact hp1 j x hj hx hhx
      · try dsimp only
        rw [if_neg]
        · exact (hp2 x hx).2
        · intro e; subst e
          rw [hs] at hx; cases hx
          have := (hp2 s hs).1
          rw [hl] at this; cases this
    rcases stepS_parts hstep with ⟨hg, he⟩ | ⟨hg, hu, he⟩
    · have hw := guard_sound hrel hF (by rw [hguard]; exact hg)
      simp only [hw, if_true]
      -- the same value in the heap as it is now
      have hval : (evOp C (fkeep s.looks (Fs i)) (σs p) s.op).map (·.1) = some (us i) := by
        have he' : (evOp C (fkeep s.looks (Fs i)) (σs i) s.op).map (·.1) = some (us i) := by rw [hev, he]; rfl
        by_cases hr : s.op.readsMem = true
        · rw [hev]
          refine hvr i s hs hr hl hg p hpl (fun j x hj hx hhx => ?_) (fun j x hj hx hhx => ?_) (fun x hx => ?_)
          · cases hb : x.anc.testBit i with
            | false => rfl
            | true =>
              exfalso
              have hLj := hp1 j x hj hx hhx
              have hjl : j < l.length := by omega
              have hoj : ops[j]? = some (ops[j]'(by rw [← D.len]; exact hjl)) := by simp [show j < ops.size by rw [← D.len]; exact hjl]
              have := anc_doneT D J.closed j x _ hx hoj (fun e he hb => J.closed j _ hLj hoj e he hb) i hb
              rw [hLi] at this; cases this
          · cases hb : s.anc.testBit j with
            | false => rfl
            | true =>
              exfalso
              have hLj := hanc j hb
              have hjl : j < l.length := by
                rcases Nat.lt_or_ge j l.length with h' | h'
                · exact h'
                · rw [List.getElem?_eq_none h'] at hx; cases hx
              have hpl' : p < l.length := by omega
              have hp2' := hp2 _ (List.getElem?_eq_getElem hpl')
              by_cases ejp : j = p
              · subst ejp; rw [hp2'.2] at hLj; cases hLj
              · have hoj : ops[j]? = some (ops[j]'(by rw [← D.len]; exact hjl)) := by simp [show j < ops.size by rw [← D.len]; exact hjl]
                have := anc_doneT D J.closed j x _ hx hoj (fun e he hb => J.closed j _ hLj hoj e he hb) p (D.ord p j _ x (by omega) (List.getElem?_eq_getElem hpl') hx (by simp [clashT, hp2'.1, hhx]))
                rw [hp2'.2] at this; cases this
          · have heo : eval (fkeep s.looks (Fs i)) x = eval (Fs i) x := by
              cases x with
              | tmp t =>
                simp only [eval]
                rw [fget_fkeep, if_pos ((memb_iff t _).2 (hlooks_ops t (mem_tmpsOf hx)))]
              | const v => cases v <;> rfl
              | _ => rfl
            have hvx : VRel β (σs p) (eval (fkeep s.looks (Fs i)) x) (a.eval x) := eval_sound hF x
            rw [heo] at hvx
            constructor
            · intro q hq
              rw [hq] at hvx
              generalize a.eval x = cx at hvx
              cases hvx with
              | ptr q obj hσ c hk h => exact ⟨obj, hσ⟩
            · intro q len cap hq
              rw [hq] at hvx
              generalize a.eval x = cx at hvx
              cases hvx with
              | sl q obj hσ len cap c cap' hsz hcap h => exact ⟨obj, hσ⟩
        · have hr' : s.op.readsMem = false := by simpa using hr
          rw [pure_any (σ' := σs i) hl hr']
          exact he'
      cases hq : evOp C (fkeep s.looks (Fs i)) (σs p) s.op with
      | none => rw [hq] at hval; cases hval
      | some r =>
        obtain ⟨v, σ'⟩ := r
        rw [hq] at hval
        simp only [Option.map_some, Option.some.injEq] at hval
        subst hval
        have hσ' := light_heap hl hq
        subst hσ'
        refine .inl ((evOp_sound hC hT.ok hF hrel.op hq).wp fun c w' hc => ?_)
        obtain ⟨β', ht, hv⟩ := hc
        exact hK _ _ (hnext β' w' c ht hv)
    · have hw := guard_sound hrel hF (by rw [hguard]; exact hg)
      simp only [hw, Bool.false_eq_true, if_false]
      exact hK _ _ (hnext β w undef (Trans.refl hT.ok) (by rw [hu]; exact vrel_undef))
end
end Go.Abs

/- The abstract machine: a region whose order is drawn, in which one new row of constants may be made early. Condition: the contracts that are used hold. -/
namespace Go.Abs

theorem floatRun_of {C : Ctab} {l : List SOper} {F : Frame} {σ : Heap} (h : floatRun C l F σ = true) : ∃ c, drawOkF c l = true ∧ FloatRun C l c F σ := by
  unfold floatRun at h
  exact @of_decide_eq_true _ (_) h
section
variable {P : Program} {C : Ctab}

structure DrawnF (P : Program) (ops : Array Oper) (l : List SOper) (c : Nat) : Prop where
  len : l.length = ops.size
  rel : ∀ (i : Nat) (o : Oper) (s : SOper), ops[i]? = some o → l[i]? = some s → OpRel P ops o s
  back : ∀ (j : Nat) (o : Oper), ops[j]? = some o → ∀ e ∈ o.after.toList, Region.binds .any e = true → e.on < j
  anc : ∀ (j : Nat) (s : SOper) (o : Oper), l[j]? = some s → ops[j]? = some o → ∀ i, s.anc.testBit i = true → ∃ e ∈ o.after.toList, Region.binds .any e = true ∧ (e.on = i ∨ ∃ s', l[e.on]? = some s' ∧ s'.anc.testBit i = true)
  ord : ∀ (i j : Nat) (x y : SOper), i < j → l[i]? = some x → l[j]? = some y → (clash0 x y = true ∨ (x.op.heavy = true ∧ y.op.heavy = true ∧ j ≠ c)) → y.anc.testBit i = true
  fl : ∃ s, l[c]? = some s ∧ s.op.heavy = true ∧ s.guard = none
  pre : ∀ (i j : Nat) (x y : SOper), l[i]? = some x → x.anc.testBit c = true → j < c → l[j]? = some y → y.op.heavy = true → x.anc.testBit j = true

theorem okAgainstF_spec {c i : Nat} {o : SOper} : ∀ {done : List SOper} {n : Nat}, okAgainstF c i o n done = true → ∀ (k : Nat) (x : SOper), done[k]? = some x → (clash0 x o = true ∨ (x.op.heavy = true ∧ o.op.heavy = true ∧ i ≠ c)) → o.anc.testBit (n + k) = true
  | [], n, _, k, x, hx => by simp at hx
  | y :: done, n, h, k, x, hx => by
    simp only [okAgainstF, Bool.and_eq_true] at h
    intro hc
    cases k with
    | zero =>
      simp at hx; subst hx
      have h1 := h.1
      rw [Bool.or_eq_true] at h1
      rcases h1 with h1 | h1
      · exfalso
        rw [Bool.not_eq_true', Bool.or_eq_false_iff] at h1
        rcases hc with hc | ⟨h2, h3, h4⟩
        · rw [hc] at h1; exact absurd h1.1 (by decide)
        · have : (Nat.beq i c) = false := by
            cases hb : Nat.beq i c with
            | false => rfl
            | true => exact absurd (Nat.eq_of_beq_eq_true hb) h4
          rw [h2, h3, this] at h1; exact absurd h1.2 (by decide)
      · simpa using h1
    | succ k =>
      have := okAgainstF_spec h.2 k x (by simpa using hx) hc
      rw [show n + (k + 1) = n + 1 + k by omega]; exact this

theorem drawOkGoF_spec {c : Nat} : ∀ {rest done : List SOper}, drawOkGoF c done rest = true → ∀ (i j : Nat) (x y : SOper), i < done.length + j → rest[j]? = some y → (done ++ rest)[i]? = some x → (clash0 x y = true ∨ (x.op.heavy = true ∧ y.op.heavy = true ∧ done.length + j ≠ c)) → y.anc.testBit i = true
  | [], done, _, i, j, x, y, _, hy, _ => by simp at hy
  | o :: rest, done, h, i, j, x, y, hij, hy, hx => by
    simp only [drawOkGoF, Bool.and_eq_true] at h
    intro hc
    cases j with
    | zero =>
      simp at hy; subst hy
      rw [List.getElem?_append_left (by omega)] at hx
      have := okAgainstF_spec h.1 i x hx (by simpa using hc)
      simpa using this
    | succ j =>
      exact drawOkGoF_spec h.2 i j x y (by simp; omega) (by simpa using hy) (by simpa using hx) (by
        rcases hc with hc | ⟨h1, h2, h3⟩
        · exact .inl hc
        · refine .inr ⟨h1, h2, ?_⟩
          simp only [List.length_append, List.length_cons, List.length_nil]
          omega)

theorem ancAll_spec {anc : Nat} : ∀ {l : List SOper} {n : Nat}, ancAll anc n l = true → ∀ (k : Nat) (x : SOper), l[k]? = some x → x.op.heavy = true → anc.testBit (n + k) = true
  | [], n, _, k, x, hx => by simp at hx
  | y :: l, n, h, k, x, hx => by
    simp only [ancAll, Bool.and_eq_true] at h
    intro hh
    cases k with
    | zero => simp at hx; subst hx; simpa [hh] using h.1
    | succ k =>
      have := ancAll_spec h.2 k x (by simpa using hx) hh
      rw [show n + (k + 1) = n + 1 + k by omega]; exact this

theorem drawnF_of {ops : Array Oper} {l : List SOper} {c : Nat} (h : rOps P ops [] ops.toList = some l) (hb : backEdges 0 ops.toList = true) (hd : drawOkF c l = true) : DrawnF P ops l c := by
  obtain ⟨h1, h2⟩ := rOps_rel h
  have hback : ∀ (j : Nat) (o : Oper), ops[j]? = some o → ∀ e ∈ o.after.toList, Region.binds .any e = true → e.on < j := by
    intro j o ho e he hbn
    have := backEdges_spec hb j o (by simpa using ho) e he hbn
    omega
  unfold drawOkF at hd
  rw [Bool.and_eq_true, Bool.and_eq_true] at hd
  obtain ⟨⟨hd1, hd2⟩, hd3⟩ := hd
  refine ⟨by simpa using h1, fun i o s ho hs => h2 i o s (by simpa using ho) hs, hback, ?_, ?_, ?_, ?_⟩
  · intro j s o hs ho i hi
    have ha := rOps_anc h j s o hs (by simpa using ho)
    rw [ha, List.nil_append] at hi
    rcases ancOf_bit _ _ _ _ hi with h0 | ⟨e, he, hbn, h3⟩
    · simp at h0
    · refine ⟨e, he, hbn, ?_⟩
      rcases h3 with h3 | h3
      · exact .inl h3
      · right
        have hlt := hback j o ho e he hbn
        have hjl : j < l.length := by
          rcases Nat.lt_or_ge j l.length with h' | h'
          · exact h'
          · rw [List.getElem?_eq_none h'] at hs; cases hs
        refine ⟨l[e.on]'(by omega), by simp [show e.on < l.length by omega], ?_⟩
        rw [List.getD_eq_getElem?_getD, List.getElem?_map, List.getElem?_take, if_pos hlt] at h3
        simpa [show e.on < l.length by omega] using h3
  · intro i j x y hij hx hy hc
    exact drawOkGoF_spec (done := []) hd1 i j x y (by simpa using hij) hy (by simpa using hx) (by simpa using hc)
  · split at hd2
    · rename_i s hs
      rw [Bool.and_eq_true] at hd2
      exact ⟨s, hs, hd2.1, by simpa using hd2.2⟩
    · cases hd2
  · intro i j x y hx hc hj hy hh
    have := List.all_eq_true.1 hd3 x (List.mem_of_getElem? hx)
    rw [hc] at this
    have h4 := ancAll_spec (by simpa using this) j y (by rw [List.getElem?_take, if_pos hj]; exact hy) hh
    simpa using h4

theorem anc_doneF {ops : Array Oper} {l : List SOper} {c : Nat} (D : DrawnF P ops l c) {L : Nat → Bool} (hL : Closed ops L) : ∀ (j : Nat) (s : SOper) (o : Oper), l[j]? = some s → ops[j]? = some o → (∀ e ∈ o.after.toList, Region.binds .any e = true → L e.on = true) →
    ∀ i, s.anc.testBit i = true → L i = true := by
  intro j
  induction j using Nat.strongRecOn with
  | _ j ih =>
    intro s o hs ho hedges i hi
    obtain ⟨e, he, hb, h⟩ := D.anc j s o hs ho i hi
    rcases h with rfl | ⟨s', hs', h⟩
    · exact hedges e he hb
    · have hlt := D.back j o ho e he hb
      have hjl : e.on < l.length := by
        rcases Nat.lt_or_ge e.on l.length with h' | h'
        · exact h'
        · rw [List.getElem?_eq_none h'] at hs'; cases hs'
      have hol : e.on < ops.size := by rw [← D.len]; exact hjl
      have ho' : ops[e.on]? = some ops[e.on] := by simp [hol]
      exact ih e.on hlt s' _ hs' ho' (fun e2 he2 hb2 => hL e.on _ (hedges e he hb) ho' e2 he2 hb2) i h

/-- What was made early. -/
def Flt (l : List SOper) (c m : Nat) (u : Value) (obj : AObj) (β : Inj) (w0 : World) (a : Act) (w : World) : Prop :=
  ∃ (sp : Spot) (cc : Array Value) (e : TypeId) (fz : Nat × Nat), w.heap[sp.blk]? = some (.cells cc e fz) ∧
    (∀ (j : Nat) (v : Value), obj.cells[j]? = some v → ∃ x, cc[sp.base + j]? = some x ∧ ∀ (β' : Inj) (σ' : Heap), VRel β' σ' v x) ∧
    (obj.rw = true → sp.base = 0 ∧ cc.size = sp.K ∧ (fz.1 = fz.2 ∨ cc.size ≤ fz.1)) ∧ w0.heap.size ≤ sp.blk ∧ (∀ k t, β k = some t → t.blk ≠ sp.blk) ∧
    ∀ (s : SOper) (t : Nat), l[c]? = some s → s.dst = some t → ∀ (β' : Inj) (σ' : Heap), σ'[m]? = some obj → β' m = some sp → VRel β' σ' u (a.tmps.getD t undef)

theorem Flt.next {l : List SOper} {c m : Nat} {u : Value} {obj : AObj} {β β' : Inj} {σ σ' : Heap} {w0 w w' : World} {a a' : Act} (h : Flt l c m u obj β w0 a w) (T : Trans β σ w β' σ' w') (ha : ∀ (s : SOper) (t : Nat), l[c]? = some s → s.dst = some t → a'.tmps.getD t undef = a.tmps.getD t undef) :
    Flt l c m u obj β' w0 a' w' := by
  obtain ⟨sp, cc, e, fz, h1, h2, h3, h4, h5, h6⟩ := h
  have hlt := block_lt h1
  refine ⟨sp, cc, e, fz, ?_, h2, h3, h4, fun k t hk => ?_, fun s t hs hd β' σ' g1 g2 => ?_⟩
  · rw [T.keep _ hlt ?_]; exact h1
    rintro ⟨k, ob, t, _, _, g3, g4⟩
    exact h5 k t g3 g4
  · rcases T.fresh k t hk with g | g
    · exact h5 k t g
    · omega
  · rw [ha s t hs hd]; exact h6 s t hs hd β' σ' g1 g2

/-- It takes its place. -/
theorem Flt.merge {l : List SOper} {c : Nat} {u : Value} {obj : AObj} {β β0 : Inj} {σ σ0 : Heap} {w0 w : World} {a : Act} (h : Flt l c σ.length u obj β w0 a w) (T : Trans β0 σ0 w0 β σ w) :
    ∃ β', Trans β0 σ0 w0 β' (σ ++ [obj]) w ∧ Later β σ β' (σ ++ [obj]) ∧ ∀ (s : SOper) (t : Nat), l[c]? = some s → s.dst = some t → VRel β' (σ ++ [obj]) u (a.tmps.getD t undef) := by
  obtain ⟨sp, cc, e, fz, h1, h2, h3, h4, h5, h6⟩ := h
  obtain ⟨β', hβ⟩ : ∃ β' : Inj, ∀ k, β' k = if k = σ.length then some sp else β k := ⟨_, fun _ => rfl⟩
  have bl : ∀ k, k < σ.length → β' k = β k := fun k hk => by rw [hβ, if_neg (by omega)]
  have lat : Later β σ β' (σ ++ [obj]) := later_pre (fun k hk => List.getElem?_append_left hk) bl
  have hlast : (σ ++ [obj])[σ.length]? = some obj := by simp
  have hm : β' σ.length = some sp := by rw [hβ, if_pos rfl]
  have old : ∀ {k : Nat} {t : Spot}, k ≠ σ.length → β' k = some t → k < σ.length ∧ β k = some t := fun {k t} hk ht => by
    rw [hβ, if_neg hk] at ht
    exact ⟨T.ok.dom k t ht, ht⟩
  have ok : InjOk β' (σ ++ [obj]) w := by
    refine ⟨fun k t hk => ?_, fun k ob t hk ht => ?_, fun k k' ob t t' hk hrw ht ht' hb => ?_⟩
    · by_cases e : k = σ.length
      · subst e; simp
      · have := (old e hk).1; simp; omega
    · by_cases e1 : k = σ.length
      · subst e1
        rw [hlast] at hk; cases hk
        rw [hm] at ht; cases ht
        exact ⟨cc, e, fz, h1, fun j v hj => by obtain ⟨x, g1, g2⟩ := h2 j v hj; exact ⟨x, g1, g2 _ _⟩, h3⟩
      · obtain ⟨q1, q2⟩ := old e1 ht
        rw [List.getElem?_append_left q1] at hk
        obtain ⟨c2, e2, f2, g1, g2, g3⟩ := T.ok.obj k ob t hk q2
        exact ⟨c2, e2, f2, g1, fun j v hj => by obtain ⟨x, g4, g5⟩ := g2 j v hj; exact ⟨x, g4, g5.later lat⟩, g3⟩
    · by_cases e1 : k = σ.length <;> by_cases e2 : k' = σ.length
      · rw [e1, e2]
      · subst e1
        rw [hm] at ht; cases ht
        exact absurd hb.symm (h5 k' t' (old e2 ht').2)
      · subst e2
        rw [hm] at ht'; cases ht'
        exact absurd hb (h5 k t (old e1 ht).2)
      · obtain ⟨q1, q2⟩ := old e1 ht
        rw [List.getElem?_append_left q1] at hk
        exact T.ok.inj k k' ob t t' hk hrw q2 (old e2 ht').2 hb
  refine ⟨β', { ok := ok, later := T.later.trans lat, len := Nat.le_trans T.len (by simp), size := T.size, keep := T.keep, grow := fun b hb hr => ?_, fresh := fun k t hk => ?_, os := T.os, tape := T.tape, output := T.output }, lat, fun s t hs hd => h6 s t hs hd β' _ hlast hm⟩
  · obtain ⟨k, ob, t, g1, g2, g3, g4⟩ := hr
    by_cases e1 : k = σ.length
    · subst e1
      rw [hm] at g3; cases g3
      omega
    · obtain ⟨q1, q2⟩ := old e1 g3
      rw [List.getElem?_append_left q1] at g1
      exact T.grow b hb ⟨k, ob, t, g1, g2, q2, g4⟩
  · by_cases e1 : k = σ.length
    · subst e1
      rw [hm] at hk; cases hk
      exact .inr h4
    · exact T.fresh k t (old e1 hk).2

/-- It is made early. -/
theorem Flt.make {l : List SOper} {c n m : Nat} {obj : AObj} {β β0 β2 : Inj} {σ σ0 : Heap} {w0 w w' : World} {a : Act} {x : Value} (T : Trans β0 σ0 w0 β σ w) (T2 : Trans β σ w β2 (σ ++ [obj]) w') (hx : VRel β2 (σ ++ [obj]) (.slice (some ⟨σ.length, 0, none⟩) n n) x)
    (he : obj.esz ≠ 0) (hn : obj.cells.length = n * obj.esz) (hc : ∀ v ∈ obj.cells, constOk v = true) (ha : ∀ (s : SOper) (t : Nat), l[c]? = some s → s.dst = some t → a.tmps.getD t undef = x) :
    Trans β0 σ0 w0 β σ w' ∧ Flt l c m (.slice (some ⟨m, 0, none⟩) n n) obj β w0 a w' := by
  have hlast : (σ ++ [obj])[σ.length]? = some obj := by simp
  have b2 : ∀ k, k < σ.length → β2 k = β k := fun k hk => by
    obtain ⟨ob', g1, _, _, _, g5, _⟩ := T2.later.at_ k _ (List.getElem?_eq_getElem hk)
    rw [List.getElem?_append_left hk, List.getElem?_eq_getElem hk] at g1
    cases g1
    exact g5 rfl
  have ok : InjOk β σ w' := by
    refine ⟨T.ok.dom, fun k ob t hk ht => ?_, T.ok.inj⟩
    have hlt := T.ok.dom k t ht
    obtain ⟨cc, e, fz, g1, g2, g3⟩ := T2.ok.obj k ob t (by rw [List.getElem?_append_left hlt]; exact hk) (by rw [b2 k hlt]; exact ht)
    obtain ⟨_, _, _, _, g5, _⟩ := T.ok.obj k ob t hk ht
    refine ⟨cc, e, fz, g1, fun j v hj => ?_, g3⟩
    obtain ⟨u, hu, hr⟩ := g2 j v hj
    obtain ⟨u1, _, hr1⟩ := g5 j v hj
    have hd := hr1.down (fun k hk => (List.getElem?_append_left hk).symm) hr
    exact ⟨u, hu, hd.later (later_pre (fun k _ => rfl) fun k hk => (b2 k hk).symm)⟩
  refine ⟨{ ok := ok, later := T.later, len := T.len, size := Nat.le_trans T.size T2.size, keep := fun b hb hnr => ?_, grow := T.grow, fresh := T.fresh, os := T2.os.trans T.os, tape := T2.tape.trans T.tape, output := T2.output.trans T.output }, ?_⟩
  · rw [T2.keep b (Nat.lt_of_lt_of_le hb T.size) (fun h => hnr (T.grow b hb h)), T.keep b hb hnr]
  · generalize hu : Value.slice (some ⟨σ.length, 0, none⟩) n n = u at hx
    cases hx with
    | sl q ob hσ len cap cx cap' hsz hcap h =>
      cases hu
      dsimp only at hσ
      rw [hlast] at hσ; cases hσ
      obtain ⟨sp, g1, g2, g3⟩ := h he (by simpa using hn) (.inr rfl)
      obtain ⟨cc, e, fz, k1, k2, k3⟩ := T2.ok.obj _ obj sp hlast g1
      have hsz2 : w.heap.size ≤ sp.blk := by
        rcases T2.fresh _ sp g1 with g | g
        · exact absurd (T.ok.dom _ _ g) (Nat.lt_irrefl _)
        · exact g
      refine ⟨sp, cc, e, fz, k1, fun j v hj => ?_, k3, Nat.le_trans T.size hsz2, fun k t hk hb => ?_, fun s t hs hd β' σ' p1 p2 => ?_⟩
      · obtain ⟨y, q1, q2⟩ := k2 j v hj
        exact ⟨y, q1, fun β' σ' => vrel_constOk q2 (hc v (List.mem_of_getElem? hj))⟩
      · have hk2 := T.ok.dom k t hk
        obtain ⟨_, _, _, q1, _⟩ := T.ok.obj k _ t (List.getElem?_eq_getElem hk2) hk
        have := block_lt q1
        omega
      · rw [ha s t hs hd]
        exact .sl ⟨m, 0, none⟩ obj p1 n n cx cap' hsz hcap fun _ _ _ => ⟨sp, p2, g2, g3⟩
    | _ => cases hu

/-- The state of such a region: early holds while the new row is made and stands behind what is not done. -/
structure DStF (ops : Array Oper) (l : List SOper) (c : Nat) (obj : AObj) (σs : Nat → Heap) (us : Nat → Value) (base : Nat → Value) (β0 : Inj) (σ0 : Heap) (w0 : World) (a0 : Act) (L : Nat → Bool) (a : Act) (w : World) : Prop where
  closed : Closed ops L
  st : ∃ p, p ≤ l.length ∧ (∀ j s, j < p → l[j]? = some s → s.op.heavy = true → L j = true) ∧ (∀ s, l[p]? = some s → s.op.heavy = true ∧ L p = false) ∧
    ∃ β, Trans β0 σ0 w0 β (σs p) w ∧ (∀ t, (L c = true → p < c → ∀ s, l[c]? = some s → s.dst ≠ some t) → VRel β (σs p) (lastW l us L base l.length t) (a.tmps.getD t undef)) ∧ (L c = true → p < c → Flt l c (σs c).length (us c) obj β w0 a w)
  sz : a.tmps.size = a0.tmps.size
  df : a.defers = a0.defers

theorem draw_stepF (hC : CtabOk P C) {ops : Array Oper} {l : List SOper} {c n : Nat} {obj : AObj} (D : DrawnF P ops l c) {Fs : Nat → Frame} {σs : Nat → Heap} {us : Nat → Value} (hvr : Stable C l Fs σs us)
    (he : obj.esz ≠ 0) (hn : obj.cells.length = n * obj.esz) (hcon : ∀ v ∈ obj.cells, constOk v = true) (hmk : ∀ s, l[c]? = some s → ∀ σ', evOp C (Fs c) σ' s.op = some (.slice (some ⟨σ'.length, 0, none⟩) n n, σ' ++ [obj]))
    (htr : ∀ (i : Nat) (s : SOper), l[i]? = some s → stepS C s (Fs i) (σs i) = some (us i, Fs (i + 1), σs (i + 1))) {β0 : Inj} {σ0 : Heap} {w0 : World} {a0 : Act} (hdst : ∀ (i : Nat) (o : Oper), ops[i]? = some o → ∀ d, o.dst = some d → d < a0.tmps.size)
    {L : Nat → Bool} {a : Act} {w : World} (J : DStF ops l c obj σs us (fget (Fs 0)) β0 σ0 w0 a0 L a w) {i : Nat} {o : Oper} (ho : ops[i]? = some o) (hLi : L i = false) (hedges : ∀ e ∈ o.after.toList, Region.binds .any e = true → L e.on = true)
    {K : Act → World → Prop} {Q : Exit → Act → World → Prop} (hK : ∀ a' w', DStF ops l c obj σs us (fget (Fs 0)) β0 σ0 w0 a0 (fun j => if j = i then true else L j) a' w' → K a' w') : wpOp P ops Q i K a w := by
  have hio : i < ops.size := by
    rcases Nat.lt_or_ge i ops.size with h' | h'
    · exact h'
    · simp [Array.getElem?_eq_none h'] at ho
  have hil : i < l.length := by rw [D.len]; exact hio
  obtain ⟨s, hs⟩ : ∃ s, l[i]? = some s := ⟨l[i], by simp [hil]⟩
  have hrel := D.rel i o s ho hs
  have hanc := anc_doneF D J.closed i s o hs ho hedges
  obtain ⟨p, hpl, hp1, hp2, β, hT, hV, hFl⟩ := J.st
  obtain ⟨sc, hsc, hsc1, hsc2⟩ := D.fl
  have hstep := htr i s hs
  have ancD : ∀ (j : Nat) (x : SOper) (k : Nat), L j = true → l[j]? = some x → x.anc.testBit k = true → L k = true := by
    intro j x k hLj hx hk
    have hjl : j < l.length := by
      rcases Nat.lt_or_ge j l.length with h' | h'
      · exact h'
      · rw [List.getElem?_eq_none h'] at hx; cases hx
    have hoj : ops[j]? = some (ops[j]'(by rw [← D.len]; exact hjl)) := by simp [show j < ops.size by rw [← D.len]; exact hjl]
    exact anc_doneF D J.closed j x _ hx hoj (fun e he hb => J.closed j _ hLj hoj e he hb) k hk
  -- while the row is early, nothing that is behind it is done or may be done
  have early : L c = true → p < c → s.anc.testBit c = false := by
    intro h1 h2
    cases hb : s.anc.testBit c with
    | false => rfl
    | true =>
      exfalso
      have hpl' : p < l.length := by
        have : c < l.length := (List.getElem?_eq_some_iff.1 hsc).1
        omega
      have h3 := hp2 _ (List.getElem?_eq_getElem hpl')
      have := hanc p (D.pre i p s _ hs hb h2 (List.getElem?_eq_getElem hpl') h3.1)
      rw [h3.2] at this; cases this
  -- those behind that clash with it are not done; those ahead are
  have ahead : ∀ (j : Nat) (x : SOper), j < i → l[j]? = some x → clash0 x s = true → L j = true := fun j x hj hx hc => hanc j (D.ord j i x s hj hx hs (.inl hc))
  have behind : ∀ (j : Nat) (x : SOper), i < j → l[j]? = some x → (clash0 s x = true ∨ (s.op.heavy = true ∧ x.op.heavy = true ∧ j ≠ c)) → L j = false := by
    intro j x hj hx hc
    cases hLj : L j with
    | false => rfl
    | true =>
      have := ancD j x i hLj hx (D.ord i j s x hj hs hx hc)
      rw [hLi] at this; cases this
  have clash_dst : ∀ (j : Nat) (x : SOper) (t : Nat), l[j]? = some x → x.dst = some t → t ∈ s.looks → clash0 x s = true ∧ clash0 s x = true := by
    intro j x t hx hd ht
    have hm : memb s.looks t = true := (memb_iff t _).2 ht
    constructor
    · simp [clash0, hasDst, hd, hm]
    · simp [clash0, hasDst, hd, hm]
  have clash_same : ∀ (j : Nat) (x : SOper) (t : Nat), l[j]? = some x → x.dst = some t → s.dst = some t → clash0 s x = true ∧ clash0 x s = true := by
    intro j x t hx hd ht
    constructor <;> simp [clash0, sameDst, hd, ht]
  -- nothing that may be done clashes with the early row
  have free : L c = true → p < c → i ≠ c → clash0 s sc = true → clash0 sc s = true → False := by
    intro h1 h2 h3 h4 h5
    rcases Nat.lt_or_gt_of_ne h3 with h' | h'
    · have := ancD c sc i h1 hsc (D.ord i c s sc h' hs hsc (.inl h4))
      rw [hLi] at this; cases this
    · have := D.ord c i sc s h' hsc hs (.inl h5)
      rw [early h1 h2] at this; cases this
  have hne : L c = true → i ≠ c := fun h e => by rw [e, h] at hLi; cases hLi
  have lookfree : ∀ t ∈ s.looks, L c = true → p < c → ∀ x, l[c]? = some x → x.dst ≠ some t := by
    intro t ht h1 h2 x hx hd
    rw [hsc] at hx; cases hx
    have := clash_dst c sc t hsc hd ht
    exact free h1 h2 (hne h1) this.2 this.1
  -- what it looks at stands as in the order of the text
  have hlook : ∀ t ∈ s.looks, lastW l us L (fget (Fs 0)) l.length t = fget (Fs i) t := by
    intro t ht
    have e1 : lastW l us L (fget (Fs 0)) l.length t = lastW l us L (fget (Fs 0)) i t := by
      refine lastW_cut (by omega) fun j h1 h2 hd => ?_
      rw [List.getElem?_eq_getElem h2] at hd
      simp only [Option.bind_some] at hd
      by_cases e : j = i
      · subst e; exact hLi
      · exact behind j _ (by omega) (List.getElem?_eq_getElem h2) (.inl (clash_dst j _ t (List.getElem?_eq_getElem h2) hd ht).2)
    have e2 : lastW l us L (fget (Fs 0)) i t = lastW l us (fun _ => true) (fget (Fs 0)) i t := by
      refine lastW_congr fun j hj hd => ?_
      have h2 : j < l.length := by omega
      rw [List.getElem?_eq_getElem h2] at hd
      simp only [Option.bind_some] at hd
      exact ahead j _ hj (List.getElem?_eq_getElem h2) (clash_dst j _ t (List.getElem?_eq_getElem h2) hd ht).1
    rw [e1, e2, frame_lastW htr i (by omega) t]
  have hF : FOk β (σs p) (fkeep s.looks (Fs i)) a.tmps := by
    intro t
    rw [fget_fkeep]
    split
    · rename_i hm
      have ht := (memb_iff t _).1 hm
      have := hV t (lookfree t ht)
      rw [hlook t ht] at this
      exact this
    · exact .dead _
  have hlooks_ops : ∀ t ∈ tmpsOf s.op.operands, t ∈ s.looks := by
    intro t ht
    unfold SOper.looks
    split
    · simp [ht]
    · exact ht
  have hev : ∀ σ, evOp C (fkeep s.looks (Fs i)) σ s.op = evOp C (Fs i) σ s.op := by
    intro σ
    refine evOp_congr fun t ht => ?_
    rw [fget_fkeep, if_pos ((memb_iff t _).2 (hlooks_ops t ht))]
  have hguard : guardOf (fkeep s.looks (Fs i)) s.guard = guardOf (Fs i) s.guard := by
    cases hg : s.guard with
    | none => rfl
    | some q =>
      obtain ⟨t, want⟩ := q
      simp only [guardOf]
      rw [fget_fkeep, if_pos ((memb_iff t _).2 (by simp [SOper.looks, hg]))]
  -- what holds behind it
  have closed' : Closed ops (fun j => if j = i then true else L j) := by
    intro j o' hj ho' e he hb
    dsimp only at hj ⊢
    by_cases ej : j = i
    · subst ej
      rw [ho] at ho'; cases ho'
      by_cases ee : e.on = j
      · rw [if_pos ee]
      · rw [if_neg ee]; exact hedges e he hb
    · rw [if_neg ej] at hj
      by_cases ee : e.on = i
      · rw [if_pos ee]
      · rw [if_neg ee]; exact J.closed j o' hj ho' e he hb
  have hslot : ∀ (β' : Inj) (σ' : Heap) (x : Value), Later β (σs p) β' σ' → VRel β' σ' (us i) x → ∀ t, (s.dst ≠ some t → L c = true → p < c → ∀ x, l[c]? = some x → x.dst ≠ some t) → VRel β' σ' (lastW l us (fun j => if j = i then true else L j) (fget (Fs 0)) l.length t) ((a.put o.dst x).tmps.getD t undef) := by
    intro β' σ' x hlat hc t hnt
    by_cases hd : s.dst = some t
    · -- it is the last that writes here
      have e1 : lastW l us (fun j => if j = i then true else L j) (fget (Fs 0)) l.length t = us i := by
        rw [lastW_cut (i := i + 1) (by omega) fun j h1 h2 hdj => ?_]
        · simp [lastW, hs, hd]
        · rw [List.getElem?_eq_getElem h2] at hdj
          simp only [Option.bind_some] at hdj
          try dsimp only
          rw [if_neg (by omega)]
          exact behind j _ (by omega) (List.getElem?_eq_getElem h2) (.inl (clash_same j _ t (List.getElem?_eq_getElem h2) hdj hd).1)
      rw [e1]
      have hod : o.dst = some t := by rw [← hrel.dst]; exact hd
      have hlt : t < a.tmps.size := by rw [J.sz]; exact hdst i o ho t hod
      simpa [Act.put, hod, Array.getD_eq_getD_getElem?, hlt] using hc
    · have e1 : lastW l us (fun j => if j = i then true else L j) (fget (Fs 0)) l.length t = lastW l us L (fget (Fs 0)) l.length t := by
        refine lastW_congr fun j hj hdj => ?_
        try dsimp only
        rw [if_neg]
        intro ej; subst ej
        rw [hs] at hdj
        exact hd (by simpa using hdj)
      rw [e1]
      have h0 := (hV t (hnt hd)).later hlat
      cases hod : o.dst with
      | none => simpa [Act.put, hod] using h0
      | some d =>
        have hne : d ≠ t := fun e => hd (by rw [hrel.dst, hod, e])
        rw [Array.getD_eq_getD_getElem?] at h0 ⊢
        simp only [Act.put]
        rw [Array.getElem?_setIfInBounds, if_neg hne]
        exact h0
  have slot_keep : L c = true → p < c → ∀ (x : Value) (y : SOper) (t : Nat), l[c]? = some y → y.dst = some t → (a.put o.dst x).tmps.getD t undef = a.tmps.getD t undef := by
    intro h1 h2 x y t hy hd
    rw [hsc] at hy; cases hy
    cases hod : o.dst with
    | none => simp [Act.put]
    | some d =>
      have hne2 : d ≠ t := by
        rintro rfl
        have hd2 : s.dst = some d := by rw [hrel.dst, hod]
        have := clash_same c sc d hsc hd hd2
        exact free h1 h2 (hne h1) this.1 this.2
      rw [Array.getD_eq_getD_getElem?, Array.getD_eq_getD_getElem?]
      simp only [Act.put]
      rw [Array.getElem?_setIfInBounds, if_neg hne2]
  unfold wpOp
  rw [ho]
  by_cases hh : s.op.heavy = true
  · by_cases hpi : p = i
    · -- a heavy one: it is the next
      subst hpi
      obtain ⟨p', hp'1, hp'2, hp'3, hp'4⟩ := nextHeavy l (p + 1) (by omega)
      have hconst : σs p' = σs (p + 1) := heap_const htr hp'1 hp'2 hp'3
      have hdone : ∀ j x, j < p' → l[j]? = some x → x.op.heavy = true → (if j = p then true else L j) = true := by
        intro j x hj hx hhx
        by_cases ej : j = p
        · rw [if_pos ej]
        · rw [if_neg ej]
          by_cases hlt : j < p
          · exact hp1 j x hlt hx hhx
          · have := hp'3 j x (by omega) hj hx
            rw [this] at hhx; cases hhx
      have hnext : ∀ (β' : Inj) (w' : World) (x : Value), Trans β (σs p) w β' (σs (p + 1)) w' → VRel β' (σs (p + 1)) (us p) x → DStF ops l c obj σs us (fget (Fs 0)) β0 σ0 w0 a0 (fun j => if j = p then true else L j) (a.put o.dst x) w' := by
        intro β' w' x ht hx
        by_cases hm : L c = true ∧ p < c ∧ p' = c
        · -- the early row takes its place
          obtain ⟨m1, m2, rfl⟩ := hm
          have F1 := (hFl m1 m2).next ht (fun y t hy hd => slot_keep m1 m2 x y t hy hd)
          rw [hconst] at F1
          obtain ⟨βm, M1, M2, M3⟩ := F1.merge (hT.trans ht)
          have hc1 := htr p' sc hsc
          obtain ⟨p2, hp21, hp22, hp23, hp24⟩ := nextHeavy l (p' + 1) (by have : p' < l.length := (List.getElem?_eq_some_iff.1 hsc).1; omega)
          have hgc : guardOf (Fs p') sc.guard = some true := by rw [hsc2]; rfl
          have hσc : us p' = .slice (some ⟨(σs p').length, 0, none⟩) n n ∧ σs (p' + 1) = σs p' ++ [obj] := by
            unfold stepS at hc1
            rw [hgc] at hc1
            simp only [hmk sc hsc (σs p'), cond_true, Option.map_some, Option.some.injEq, Prod.mk.injEq] at hc1
            exact ⟨hc1.1.symm, hc1.2.2.symm⟩
          have hconst2 : σs p2 = σs (p + 1) ++ [obj] := by rw [heap_const htr hp21 hp22 hp23, hσc.2, hconst]
          refine ⟨closed', ⟨p2, hp22, fun j y hj hy hhy => ?_, fun y hy => ⟨hp24 y hy, ?_⟩, βm, ?_, fun t _ => ?_, fun _ h => ?_⟩, by rw [put_size, J.sz], by rw [put_defers, J.df]⟩
          · try dsimp only
            by_cases ej : j = p
            · rw [if_pos ej]
            · rw [if_neg ej]
              by_cases hlt : j < p
              · exact hp1 j y hlt hy hhy
              · by_cases ec : j = p'
                · rw [ec]; exact m1
                · by_cases hj2 : j < p'
                  · have := hp'3 j y (by omega) hj2 hy
                    rw [this] at hhy; cases hhy
                  · have := hp23 j y (by omega) hj hy
                    rw [this] at hhy; cases hhy
          · try dsimp only
            rw [if_neg (by omega)]
            exact behind p2 y (by omega) hy (.inr ⟨hh, hp24 y hy, by omega⟩)
          · rw [hconst2]; exact M1
          · rw [hconst2]
            by_cases hdt : sc.dst = some t
            · have hnd : s.dst ≠ some t := fun h => by
                have := clash_same p' sc t hsc hdt h
                exact free m1 m2 (hne m1) this.1 this.2
              have e1 : lastW l us (fun j => if j = p then true else L j) (fget (Fs 0)) l.length t = us p' := by
                have hpc : p' < l.length := (List.getElem?_eq_some_iff.1 hsc).1
                rw [lastW_cut (i := p' + 1) (by omega) fun j h1 h2 hdj => ?_]
                · simp [lastW, hsc, hdt, show p' ≠ p by omega, m1]
                · rw [List.getElem?_eq_getElem h2] at hdj
                  simp only [Option.bind_some] at hdj
                  try dsimp only
                  rw [if_neg (by omega)]
                  cases hLj : L j with
                  | false => rfl
                  | true =>
                    exfalso
                    have hanc2 := D.ord p' j sc _ (by omega) hsc (List.getElem?_eq_getElem h2) (.inl (by simp [clash0, sameDst, hdj, hdt]))
                    have h4 := ancD j _ p hLj (List.getElem?_eq_getElem h2) (D.pre j p _ s (List.getElem?_eq_getElem h2) hanc2 m2 hs hh)
                    rw [hLi] at h4; cases h4
              rw [e1]
              exact M3 sc t hsc hdt
            · have h0 := hslot β' (σs (p + 1)) x ht.later hx t (fun _ _ _ y hy => by rw [hsc] at hy; cases hy; exact hdt)
              exact h0.later (by first | exact M2 | (rw [hconst] at M2; exact M2))
          · omega
        · have hc' : ∀ x, l[p']? = some x → L p' = false := by
            intro y hy
            by_cases ec : p' = c
            · cases hLc : L c with
              | false => rw [ec]; exact hLc
              | true => exact absurd ⟨hLc, by omega, ec⟩ hm
            · exact behind p' y (by omega) hy (.inr ⟨hh, hp'4 y hy, ec⟩)
          have hLc' : (if c = p then true else L c) = true → p' < c → L c = true ∧ p < c := by
            intro h1 h2
            rw [if_neg (by omega)] at h1
            exact ⟨h1, by omega⟩
          refine ⟨closed', ⟨p', hp'2, hdone, fun y hy => ⟨hp'4 y hy, ?_⟩, β', ?_, fun t hnt => ?_, fun h1 h2 => ?_⟩, by rw [put_size, J.sz], by rw [put_defers, J.df]⟩
          · try dsimp only
            rw [if_neg (by omega)]
            exact hc' y hy
          · rw [hconst]; exact hT.trans ht
          · rw [hconst]
            refine hslot β' (σs (p + 1)) x ht.later hx t fun _ h1 h2 => ?_
            refine hnt ?_ ?_
            · try dsimp only
              rw [if_neg (by omega)]; exact h1
            · rcases Nat.lt_trichotomy p' c with h' | h' | h'
              · exact h'
              · exact absurd ⟨h1, h2, h'⟩ hm
              · have := hp'3 c sc (by omega) h' hsc
                rw [hsc1] at this; cases this
          · obtain ⟨g1, g2⟩ := hLc' h1 h2
            have := (hFl g1 g2).next ht (fun y t hy hd => slot_keep g1 g2 x y t hy hd)
            exact this
      rcases stepS_parts hstep with ⟨hg, hee⟩ | ⟨hg, hu, hee⟩
      · have hw := guard_sound hrel hF (by rw [hguard]; exact hg)
        simp only [hw, if_true]
        refine .inl ((evOp_sound hC hT.ok hF hrel.op (by rw [hev]; exact hee)).wp fun c w' hc => ?_)
        obtain ⟨β', ht, hv⟩ := hc
        exact hK _ _ (hnext β' w' c ht hv)
      · have hw := guard_sound hrel hF (by rw [hguard]; exact hg)
        simp only [hw, Bool.false_eq_true, if_false]
        exact hK _ _ (hnext β w undef (by rw [hee]; exact Trans.refl hT.ok) (by rw [hu]; exact vrel_undef))
    · -- it is the row, made early
      have hplt : p < i := by
        rcases Nat.lt_or_ge p i with h' | h'
        · exact h'
        · exfalso
          have := hp1 i s (by omega) hs hh
          rw [hLi] at this; cases this
      have hpl' : p < l.length := by omega
      have hp2' := hp2 _ (List.getElem?_eq_getElem hpl')
      have hic : i = c := by
        rcases Nat.lt_or_ge i c with h' | h'
        · exfalso
          have := hanc p (D.ord p i _ s hplt (List.getElem?_eq_getElem hpl') hs (.inr ⟨hp2'.1, hh, by omega⟩))
          rw [hp2'.2] at this; cases this
        · rcases Nat.eq_or_lt_of_le h' with h'' | h''
          · exact h''.symm
          · exfalso
            have := hanc p (D.ord p i _ s hplt (List.getElem?_eq_getElem hpl') hs (.inr ⟨hp2'.1, hh, by omega⟩))
            rw [hp2'.2] at this; cases this
      subst hic
      rw [hsc] at hs; cases hs
      have hgc : guardOf (Fs i) s.guard = some true := by rw [hsc2]; rfl
      have husc : us i = .slice (some ⟨(σs i).length, 0, none⟩) n n := by
        unfold stepS at hstep
        rw [hgc] at hstep
        simp only [hmk s hsc (σs i), cond_true, Option.map_some, Option.some.injEq, Prod.mk.injEq] at hstep
        exact hstep.1.symm
      have hw := guard_sound hrel hF (by rw [hguard]; exact hgc)
      simp only [hw, if_true]
      refine .inl ((evOp_sound hC hT.ok hF hrel.op (by rw [hev]; exact hmk s hsc (σs p))).wp fun x w' hx => ?_)
      obtain ⟨β2, ht, hv⟩ := hx
      have hput : ∀ (s : SOper) (t : Nat), l[i]? = some s → s.dst = some t → (a.put o.dst x).tmps.getD t undef = x := by
        intro y t hy hd
        rw [hsc] at hy; cases hy
        have hod : o.dst = some t := by rw [← hrel.dst]; exact hd
        have hlt : t < a.tmps.size := by rw [J.sz]; exact hdst i o ho t hod
        simp [Act.put, hod, Array.getD_eq_getD_getElem?, hlt]
      obtain ⟨T3, F3⟩ := Flt.make (l := l) (c := i) (m := (σs i).length) hT ht hv he hn hcon hput
      refine hK _ _ ⟨closed', ⟨p, hpl, fun j y hj hy hhy => ?_, fun y hy => ⟨(hp2 y hy).1, ?_⟩, β, T3, fun t hnt => ?_, fun _ _ => ?_⟩, by rw [put_size, J.sz], by rw [put_defers, J.df]⟩
      · try dsimp only
        by_cases ej : j = i
        · rw [if_pos ej]
        · rw [if_neg ej]; exact hp1 j y hj hy hhy
      · try dsimp only
        rw [if_neg (by omega)]
        exact (hp2 y hy).2
      · have hnd : s.dst ≠ some t := hnt (by simp) hplt s hsc
        have e1 : lastW l us (fun j => if j = i then true else L j) (fget (Fs 0)) l.length t = lastW l us L (fget (Fs 0)) l.length t := by
          refine lastW_congr fun j hj hdj => ?_
          try dsimp only
          rw [if_neg]
          intro ej; subst ej
          rw [hsc] at hdj
          exact hnd (by simpa using hdj)
        rw [e1]
        have h0 := hV t (fun h => by rw [hLi] at h; cases h)
        cases hod : o.dst with
        | none => simpa [Act.put, hod] using h0
        | some d =>
          have hne : d ≠ t := fun e => hnd (by rw [hrel.dst, hod, e])
          rw [Array.getD_eq_getD_getElem?] at h0 ⊢
          simp only [Act.put]
          rw [Array.getElem?_setIfInBounds, if_neg hne]
          exact h0
      · rw [husc]; exact F3
  · -- a light one
    have hl : s.op.heavy = false := by simpa using hh
    have hic : i ≠ c := fun e => by subst e; rw [hsc] at hs; cases hs; rw [hsc1] at hl; cases hl
    have hnext : ∀ (β' : Inj) (w' : World) (x : Value), Trans β (σs p) w β' (σs p) w' → VRel β' (σs p) (us i) x → DStF ops l c obj σs us (fget (Fs 0)) β0 σ0 w0 a0 (fun j => if j = i then true else L j) (a.put o.dst x) w' := by
      intro β' w' x ht hx
      refine ⟨closed', ⟨p, hpl, fun j y hj hy hhy => ?_, fun y hy => ⟨(hp2 y hy).1, ?_⟩, β', hT.trans ht, fun t hnt => ?_, fun h1 h2 => ?_⟩, by rw [put_size, J.sz], by rw [put_defers, J.df]⟩
      · try dsimp only
        by_cases ej : j = i
        · rw [if_pos ej]
        · rw [if_neg ej]; exact hp1 j y hj hy hhy
      · try dsimp only
        rw [if_neg]
        · exact (hp2 y hy).2
        · intro e; subst e
          rw [hs] at hy; cases hy
          have := (hp2 s hs).1
          rw [hl] at this; cases this
      · refine hslot β' (σs p) x ht.later hx t fun _ h1 h2 => hnt ?_ h2
        try dsimp only
        rw [if_neg (Ne.symm hic)]; exact h1
      · try dsimp only at h1
        rw [if_neg (Ne.symm hic)] at h1
        exact (hFl h1 h2).next ht (fun y t hy hd => slot_keep h1 h2 x y t hy hd)
    rcases stepS_parts hstep with ⟨hg, hee⟩ | ⟨hg, hu, hee⟩
    · have hw := guard_sound hrel hF (by rw [hguard]; exact hg)
      simp only [hw, if_true]
      -- the same value in the heap as it is now
      have hval : (evOp C (fkeep s.looks (Fs i)) (σs p) s.op).map (·.1) = some (us i) := by
        have he' : (evOp C (fkeep s.looks (Fs i)) (σs i) s.op).map (·.1) = some (us i) := by rw [hev, hee]; rfl
        by_cases hr : s.op.readsMem = true
        · rw [hev]
          refine hvr i s hs hr hl hg p hpl (fun j x hj hx hhx => ?_) (fun j x hj hx hhx => ?_) (fun x hx => ?_)
          · cases hb : x.anc.testBit i with
            | false => rfl
            | true =>
              exfalso
              have := ancD j x i (hp1 j x hj hx hhx) hx hb
              rw [hLi] at this; cases this
          · cases hb : s.anc.testBit j with
            | false => rfl
            | true =>
              exfalso
              have hLj := hanc j hb
              have hjl : j < l.length := by
                rcases Nat.lt_or_ge j l.length with h' | h'
                · exact h'
                · rw [List.getElem?_eq_none h'] at hx; cases hx
              have hpl' : p < l.length := by omega
              have hp2' := hp2 _ (List.getElem?_eq_getElem hpl')
              by_cases ejp : j = p
              · subst ejp; rw [hp2'.2] at hLj; cases hLj
              · by_cases ejc : j = c
                · subst ejc
                  rw [early hLj (by omega)] at hb; cases hb
                · have := ancD j x p hLj hx (D.ord p j _ x (by omega) (List.getElem?_eq_getElem hpl') hx (.inr ⟨hp2'.1, hhx, ejc⟩))
                  rw [hp2'.2] at this; cases this
          · have heo : eval (fkeep s.looks (Fs i)) x = eval (Fs i) x := by
              cases x with
              | tmp t =>
                simp only [eval]
                rw [fget_fkeep, if_pos ((memb_iff t _).2 (hlooks_ops t (mem_tmpsOf hx)))]
              | const v => cases v <;> rfl
              | _ => rfl
            have hvx : VRel β (σs p) (eval (fkeep s.looks (Fs i)) x) (a.eval x) := eval_sound hF x
            rw [heo] at hvx
            constructor
            · intro q hq
              rw [hq] at hvx
              generalize a.eval x = cx at hvx
              cases hvx with
              | ptr q obj hσ c hk h => exact ⟨obj, hσ⟩
            · intro q len cap hq
              rw [hq] at hvx
              generalize a.eval x = cx at hvx
              cases hvx with
              | sl q obj hσ len cap c cap' hsz hcap h => exact ⟨obj, hσ⟩
        · have hr' : s.op.readsMem = false := by simpa using hr
          rw [pure_any (σ' := σs i) hl hr']
          exact he'
      cases hq : evOp C (fkeep s.looks (Fs i)) (σs p) s.op with
      | none => rw [hq] at hval; cases hval
      | some r =>
        obtain ⟨v, σ'⟩ := r
        rw [hq] at hval
        simp only [Option.map_some, Option.some.injEq] at hval
        subst hval
        have hσ' := light_heap hl hq
        subst hσ'
        refine .inl ((evOp_sound hC hT.ok hF hrel.op hq).wp fun c w' hc => ?_)
        obtain ⟨β', ht, hv⟩ := hc
        exact hK _ _ (hnext β' w' c ht hv)
    · have hw := guard_sound hrel hF (by rw [hguard]; exact hg)
      simp only [hw, Bool.false_eq_true, if_false]
      exact hK _ _ (hnext β w undef (Trans.refl hT.ok) (by rw [hu]; exact vrel_undef))
end
end Go.Abs

/- The abstract machine: what it comes to, the model comes to: regions, code, functions. Conditions: the contracts that are used hold; the program follows the mixed orders. -/
namespace Go.Abs

section
variable {P : Program} {C : Ctab}

theorem ready_iff {ops : Array Oper} {listed : Array Bool} (hsz : listed.size = ops.size) (i : Nat) (h : i ∈ Region.ready .any ops listed) :
    ∃ o, ops[i]? = some o ∧ listed.getD i false = false ∧ ∀ e ∈ o.after.toList, Region.binds .any e = true → listed.getD e.on false = true := by
  unfold Region.ready at h
  rw [List.mem_filter] at h
  obtain ⟨hr, h⟩ := h
  simp only [List.mem_range] at hr
  have ho : ops[i]? = some ops[i] := by simp [hr]
  rw [ho] at h
  simp only [Option.map_some, Option.getD_some, Bool.and_eq_true, Bool.not_eq_true'] at h
  refine ⟨ops[i], ho, ?_, fun e he hb => ?_⟩
  · have : i < listed.size := by omega
    simpa [Array.getD_eq_getD_getElem?, this] using h.1
  · have h2 := h.2
    rw [← Array.all_toList, List.all_eq_true] at h2
    have := h2 e he
    simpa [hb] using this

theorem wpAny_draw (hC : CtabOk P C) {ops : Array Oper} {l : List SOper} (D : Drawn P C ops l (fun _ => False)) {Fs : Nat → Frame} {σs : Nat → Heap} {us : Nat → Value}
    (htr : ∀ (i : Nat) (s : SOper), l[i]? = some s → stepS C s (Fs i) (σs i) = some (us i, Fs (i + 1), σs (i + 1))) {β0 : Inj} {σ0 : Heap} {w0 : World} {a0 : Act} (hdst : ∀ (i : Nat) (o : Oper), ops[i]? = some o → ∀ d, o.dst = some d → d < a0.tmps.size)
    {Q : Exit → Act → World → Prop} (hQ : ∀ a' w' β', Trans β0 σ0 w0 β' (σs l.length) w' → FOk β' (σs l.length) (Fs l.length) a'.tmps → a'.tmps.size = a0.tmps.size → a'.defers = a0.defers → Q .normal a' w') :
    ∀ (fuel : Nat) (listed : Array Bool) (a : Act) (w : World), listed.size = ops.size → leftOf (fun i => listed.getD i false) ops.size ≤ fuel → DSt ops l σs us (fget (Fs 0)) β0 σ0 w0 a0 (fun i => listed.getD i false) a w → wpAny P .any ops Q fuel listed a w := by
  have done : ∀ (listed : Array Bool) (a : Act) (w : World), listed.size = ops.size → Region.ready .any ops listed = [] → DSt ops l σs us (fget (Fs 0)) β0 σ0 w0 a0 (fun i => listed.getD i false) a w → Q .normal a w := by
    intro listed a w hsz hr J
    -- all are done
    have hall : ∀ i, i < ops.size → listed.getD i false = true := by
      intro i
      induction i using Nat.strongRecOn with
      | _ i ih =>
        intro hi
        cases hL : listed.getD i false with
        | true => rfl
        | false =>
          exfalso
          have ho : ops[i]? = some ops[i] := by simp [hi]
          have hmem : i ∈ Region.ready .any ops listed := by
            unfold Region.ready
            rw [List.mem_filter]
            refine ⟨by simpa using hi, ?_⟩
            rw [ho]
            simp only [Option.map_some, Option.getD_some, Bool.and_eq_true, Bool.not_eq_true']
            constructor
            · have : i < listed.size := by omega
              simpa [Array.getD_eq_getD_getElem?, this] using hL
            · rw [← Array.all_toList, List.all_eq_true]
              intro e he
              cases hb : Region.binds .any e with
              | false => rfl
              | true =>
                have hlt := D.back i _ ho e he hb
                simpa using ih e.on hlt (by omega)
          rw [hr] at hmem
          cases hmem
    obtain ⟨p, hpl, hp1, hp2, β, hT, hV⟩ := J.st
    have hp : p = l.length := by
      rcases Nat.lt_or_ge p l.length with h' | h'
      · exfalso
        have := (hp2 _ (List.getElem?_eq_getElem h')).2
        rw [hall p (by rw [← D.len]; exact h')] at this
        cases this
      · omega
    subst hp
    refine hQ a w β hT (fun t => ?_) J.sz J.df
    rw [frame_lastW htr l.length (Nat.le_refl _) t]
    rw [lastW_congr (L' := fun i => listed.getD i false) fun j hj _ => (hall j (by rw [← D.len]; exact hj)).symm]
    exact hV t
  intro fuel
  induction fuel with
  | zero =>
    intro listed a w hsz hle J
    have hr : Region.ready .any ops listed = [] := by
      cases hr : Region.ready .any ops listed with
      | nil => rfl
      | cons i rs =>
        exfalso
        obtain ⟨o, ho, hLi, _⟩ := ready_iff hsz i (by rw [hr]; simp)
        have hi : i < ops.size := by
          rcases Nat.lt_or_ge i ops.size with h' | h'
          · exact h'
          · simp [Array.getElem?_eq_none h'] at ho
        have := leftOf_zero (L := fun i => listed.getD i false) (n := ops.size) (by omega) i hi
        rw [hLi] at this; cases this
    exact ⟨hr, done listed a w hsz hr J⟩
  | succ fuel ih =>
    intro listed a w hsz hle J
    refine ⟨fun hr => done listed a w hsz hr J, fun i hi => ?_⟩
    obtain ⟨o, ho, hLi, hed⟩ := ready_iff hsz i hi
    have hio : i < ops.size := by
      rcases Nat.lt_or_ge i ops.size with h' | h'
      · exact h'
      · simp [Array.getElem?_eq_none h'] at ho
    have hset : (fun j => (listed.setIfInBounds i true).getD j false) = fun j => if j = i then true else listed.getD j false := by
      funext j
      rw [Array.getD_eq_getD_getElem?, Array.getElem?_setIfInBounds]
      by_cases e : i = j
      · subst e; rw [if_pos rfl, if_pos rfl, if_pos (by omega)]; rfl
      · rw [if_neg e, if_neg (fun h => e h.symm), Array.getD_eq_getD_getElem?]
    refine draw_step hC D htr hdst (fun _ h => h.elim) J ho hLi hed fun a' w' J' => ?_
    refine ih _ a' w' (by simpa using hsz) ?_ (by rw [hset]; exact J')
    rw [hset]
    have := leftOf_set (fun j => listed.getD j false) i hLi ops.size
    rw [if_pos hio] at this
    have h2 : leftOf (fun j => if j = i then true else listed.getD j false) ops.size + 1 = leftOf (fun j => listed.getD j false) ops.size := this
    omega

/-- Any order, by what stays true. -/
theorem wpAny_gen {ops : Array Oper} (back : ∀ (j : Nat) (o : Oper), ops[j]? = some o → ∀ e ∈ o.after.toList, Region.binds .any e = true → e.on < j) {J : (Nat → Bool) → Act → World → Prop} {Q : Exit → Act → World → Prop}
    (hstep : ∀ (L : Nat → Bool) (a : Act) (w : World) (i : Nat) (o : Oper) (K : Act → World → Prop), J L a w → ops[i]? = some o → L i = false → (∀ e ∈ o.after.toList, Region.binds .any e = true → L e.on = true) → (∀ a' w', J (fun j => if j = i then true else L j) a' w' → K a' w') → wpOp P ops Q i K a w)
    (hend : ∀ (L : Nat → Bool) (a : Act) (w : World), (∀ i, i < ops.size → L i = true) → J L a w → Q .normal a w) :
    ∀ (fuel : Nat) (listed : Array Bool) (a : Act) (w : World), listed.size = ops.size → leftOf (fun i => listed.getD i false) ops.size ≤ fuel → J (fun i => listed.getD i false) a w → wpAny P .any ops Q fuel listed a w := by
  have done : ∀ (listed : Array Bool) (a : Act) (w : World), listed.size = ops.size → Region.ready .any ops listed = [] → J (fun i => listed.getD i false) a w → Q .normal a w := by
    intro listed a w hsz hr J
    refine hend _ a w ?_ J
    intro i
    induction i using Nat.strongRecOn with
    | _ i ih =>
      intro hi
      cases hL : listed.getD i false with
      | true => rfl
      | false =>
        exfalso
        have ho : ops[i]? = some ops[i] := by simp [hi]
        have hmem : i ∈ Region.ready .any ops listed := by
          unfold Region.ready
          rw [List.mem_filter]
          refine ⟨by simpa using hi, ?_⟩
          rw [ho]
          simp only [Option.map_some, Option.getD_some, Bool.and_eq_true, Bool.not_eq_true']
          constructor
          · have : i < listed.size := by omega
            simpa [Array.getD_eq_getD_getElem?, this] using hL
          · rw [← Array.all_toList, List.all_eq_true]
            intro e he
            cases hb : Region.binds .any e with
            | false => rfl
            | true =>
              have hlt := back i _ ho e he hb
              simpa using ih e.on hlt (by omega)
        rw [hr] at hmem
        cases hmem
  intro fuel
  induction fuel with
  | zero =>
    intro listed a w hsz hle J
    have hr : Region.ready .any ops listed = [] := by
      cases hr : Region.ready .any ops listed with
      | nil => rfl
      | cons i rs =>
        exfalso
        obtain ⟨o, ho, hLi, _⟩ := ready_iff hsz i (by rw [hr]; simp)
        have hi : i < ops.size := by
          rcases Nat.lt_or_ge i ops.size with h' | h'
          · exact h'
          · simp [Array.getElem?_eq_none h'] at ho
        have := leftOf_zero (L := fun i => listed.getD i false) (n := ops.size) (by omega) i hi
        rw [hLi] at this; cases this
    exact ⟨hr, done listed a w hsz hr J⟩
  | succ fuel ih =>
    intro listed a w hsz hle J
    refine ⟨fun hr => done listed a w hsz hr J, fun i hi => ?_⟩
    obtain ⟨o, ho, hLi, hed⟩ := ready_iff hsz i hi
    have hio : i < ops.size := by
      rcases Nat.lt_or_ge i ops.size with h' | h'
      · exact h'
      · simp [Array.getElem?_eq_none h'] at ho
    have hset : (fun j => (listed.setIfInBounds i true).getD j false) = fun j => if j = i then true else listed.getD j false := by
      funext j
      rw [Array.getD_eq_getD_getElem?, Array.getElem?_setIfInBounds]
      by_cases e : i = j
      · subst e; rw [if_pos rfl, if_pos rfl, if_pos (by omega)]; rfl
      · rw [if_neg e, if_neg (fun h => e h.symm), Array.getD_eq_getD_getElem?]
    refine hstep _ a w i o _ J ho hLi hed fun a' w' J' => ?_
    refine ih _ a' w' (by simpa using hsz) ?_ (by rw [hset]; exact J')
    rw [hset]
    have := leftOf_set (fun j => listed.getD j false) i hLi ops.size
    rw [if_pos hio] at this
    have h2 : leftOf (fun j => if j = i then true else listed.getD j false) ops.size + 1 = leftOf (fun j => listed.getD j false) ops.size := this
    omega

/-- A region, in the order of the text or drawn. -/
theorem region_sound (hm : P.follows .mixedOrders = true) (hC : CtabOk P C) {n id : Nat} {ops : Array Oper} {draw : Bool} {l : List SOper} (hd : dstsOk n ops.toList = true) (hb : (!draw || backEdges 0 ops.toList) = true) (hr : rOps P ops [] ops.toList = some l)
    {β : Inj} {σ : Heap} {w : World} {F : Frame} {a : Act} (hok2 : (!draw || drawOk C l || (noWrites C l && drawOk0 l) || (drawOkV C l && varRun C l F σ) || (noWritesS C l && drawOkS l) || (drawOkT l && stabRun C l F σ) || floatRun C l F σ) = true) (hok : InjOk β σ w) (hF : FOk β σ F a.tmps) (hn : a.tmps.size = n) {F' : Frame} {σ' : Heap} (h : evOps C l F σ = some (F', σ'))
    {Q : Exit → Act → World → Prop} (hQ : ∀ a' w' β', At β σ w β' σ' w' F' a a' → Q .normal a' w') : (Code.region id ops draw).wp P Q a w := by
  have hdst : ∀ (i : Nat) (o : Oper), ops[i]? = some o → ∀ d, o.dst = some d → d < a.tmps.size := by
    intro i o ho d hod
    unfold dstsOk at hd
    rw [List.all_eq_true] at hd
    have := hd o (by rw [Array.mem_toList_iff]; exact Array.mem_of_getElem? ho)
    rw [hod] at this
    rw [hn]
    simpa using this
  cases draw with
  | false =>
    refine wp_region ?_
    obtain ⟨h1, h2⟩ := rOps_rel hr
    have := evOps_sound hC ops l ops.toList 0 β σ w F a (fun i => by simp) (by simpa using h1) (fun i o s ho hs => h2 i o s ho hs) (fun o ho d hod => by
      obtain ⟨i, hi, rfl⟩ := List.getElem_of_mem ho
      exact hdst i _ (by simp at hi; simp [hi]) d hod) hok hF h hQ
    rw [List.range_eq_range']
    simpa using this
  | true =>
    simp only [Bool.not_true, Bool.false_or] at hb hok2
    obtain ⟨Fs, σs, us, e1, e2, e3, e4, htr⟩ := trace l F σ F' σ' h
    refine wp_region_any hm ?_
    have hok1 : InjOk β σ { w with drawn := w.drawn + 1 } := hok.drawn _
    have hL0 : ∀ i, (Array.replicate ops.size false).getD i false = false := by
      intro i
      rw [Array.getD_eq_getD_getElem?]
      by_cases hi : i < ops.size <;> simp [hi]
    have hleft : ∀ m, leftOf (fun i => (Array.replicate ops.size false).getD i false) m ≤ m := by
      intro m
      induction m with
      | zero => simp [leftOf]
      | succ m ih => simp only [leftOf]; split <;> omega
    by_cases hnw : (noWrites C l && drawOk0 l) = true
    · -- nothing writes
      rw [Bool.and_eq_true] at hnw
      have D := drawn0_of hr hb hnw.2
      have hq : ∀ (i : Nat) (s : SOper), l[i]? = some s → s.op.writes C = false := by
        intro i s hs
        have := List.all_eq_true.1 hnw.1 s (List.mem_of_getElem? hs)
        simpa using this
      have glen : ∀ {x y : Nat}, x ≤ y → y ≤ l.length → ∃ τ, σs y = σs x ++ τ := fun {x y} hxy hy => heap_ext hC htr hxy hy fun j s _ _ hs => hq j s hs
      refine wpAny_gen D.back (J := fun L a' w' => DStQ ops l σs us (fget (Fs 0)) β σ w a L a' w') (fun L a' w' i o K J ho hLi hed hK => draw_stepQ hC D hq htr hdst e2 J trivial ho hLi hed hK) ?_ ops.size _ a _ (by simp) (hleft _) ?_
      · intro L a' w' hall J
        obtain ⟨β', hI, hT, hN, hV⟩ := J.st
        rw [e4] at hT
        refine hQ a' w' _ ⟨hT, fun t => ?_, J.sz, J.df⟩
        have h1 := hV t l.length (Nat.le_refl _) (fun j h1 h2 _ => by omega)
        rw [lastW_congr (L' := fun _ => true) fun j hj _ => hall j (by rw [← D.len]; exact hj), ← frame_lastW htr l.length (Nat.le_refl _) t, e3, e4] at h1
        exact h1
      · exact dstq_init e1 e2 (fun {x y} => glen) hok hF hL0
    by_cases hvv : (drawOkV C l && varRun C l F σ) = true
    · -- variables are read, rows are written
      rw [Bool.and_eq_true] at hvv
      have D := drawnV_of hr hb hvv.1
      have hvr := varRun_trace e1 e2 htr hvv.2
      obtain ⟨p, hp0, hp1, hp2, hp3⟩ := nextHeavy l 0 (by omega)
      have hσp : σs p = σ := by rw [heap_const htr hp0 hp1 hp2, e2]
      refine wpAny_gen D.back (J := fun L a' w' => DSt ops l σs us (fget (Fs 0)) β σ w a L a' w') (fun L a' w' i o K J ho hLi hed hK => draw_stepV hC D hvr htr hdst J ho hLi hed hK) ?_ ops.size _ a _ (by simp) (hleft _) ?_
      · intro L a' w' hall J
        obtain ⟨p, hpl, hp1, hp2, β', hT, hV⟩ := J.st
        have hp : p = l.length := by
          rcases Nat.lt_or_ge p l.length with h' | h'
          · exfalso
            have := (hp2 _ (List.getElem?_eq_getElem h')).2
            rw [hall p (by rw [← D.len]; exact h')] at this
            cases this
          · omega
        subst hp
        rw [e4] at hT
        refine hQ a' w' β' ⟨hT, fun t => ?_, J.sz, J.df⟩
        have h1 := hV t
        rw [lastW_congr (L' := fun _ => true) fun j hj _ => hall j (by rw [← D.len]; exact hj), ← frame_lastW htr l.length (Nat.le_refl _) t, e3, e4] at h1
        exact h1
      · refine ⟨fun j o hj => absurd hj (by rw [hL0]; decide), ⟨p, hp1, fun j s hj hs hh => ?_, fun s hs => ⟨hp3 s hs, hL0 p⟩, β, ?_, fun t => ?_⟩, rfl, rfl⟩
        · rw [hp2 j s (by omega) hj hs] at hh; cases hh
        · rw [hσp]; exact Trans.drawn hok _
        · rw [hσp, lastW_cut (i := 0) (by omega) fun j _ _ _ => hL0 j, e1]
          exact hF t
    by_cases hss : (noWritesS C l && drawOkS l) = true
    · -- stores come last
      rw [Bool.and_eq_true] at hss
      obtain ⟨m, S⟩ := storesLast hr hb hss.2 hss.1
      have htr2 := S.trace htr
      have glen : ∀ {x y : Nat}, x ≤ y → y ≤ l.length → ∃ τ, σs (min y m) = σs (min x m) ++ τ := fun {x y} hxy hy => heap_ext hC htr (by omega) (by omega) fun j s _ h2 hs => S.quiet j s (by omega) hs
      refine wpAny_gen S.full.back (J := fun L a' w' => DStS ops l m σs us (fget (Fs 0)) β σ w a L a' w') (fun L a' w' i o K J ho hLi hed hK => draw_stepS hC S htr hdst e2 J ho hLi hed hK) ?_ ops.size _ a _ (by simp) (hleft _) ?_
      · intro L a' w' hall J
        have J := DStS.toDSt S J (fun j hj => hall j (by
          obtain ⟨_, x, hx, _⟩ := hj
          rw [← S.full.len]
          rcases Nat.lt_or_ge j l.length with h' | h'
          · exact h'
          · rw [List.getElem?_eq_none h'] at hx; cases hx))
        obtain ⟨p, hpl, hp1, hp2, β', hT, hV⟩ := J.st
        have hp : p = l.length := by
          rcases Nat.lt_or_ge p l.length with h' | h'
          · exfalso
            have := (hp2 _ (List.getElem?_eq_getElem h')).2
            rw [hall p (by rw [← S.full.len]; exact h')] at this
            cases this
          · omega
        subst hp
        rw [e4] at hT
        refine hQ a' w' β' ⟨hT, fun t => ?_, J.sz, J.df⟩
        have h1 := hV t
        rw [lastW_congr (L' := fun _ => true) fun j hj _ => hall j (by rw [← S.full.len]; exact hj), ← frame_lastW htr l.length (Nat.le_refl _) t, e3, e4] at h1
        exact h1
      · refine .inl ⟨fun j s _ _ => hL0 j, ?_⟩
        have hl : (deStores l).length = l.length := by simp [deStores]
        exact dstq_init e1 (by simpa using e2) (fun {x y} h1 h2 => glen h1 (by omega)) hok hF hL0
    by_cases htt : (drawOkT l && stabRun C l F σ) = true
    · -- reads are stable
      rw [Bool.and_eq_true] at htt
      have D := drawnT_of hr hb htt.1
      have hvr := stabRun_of htt.2 Fs σs us e1 e2 htr
      obtain ⟨p, hp0, hp1, hp2, hp3⟩ := nextHeavy l 0 (by omega)
      have hσp : σs p = σ := by rw [heap_const htr hp0 hp1 hp2, e2]
      refine wpAny_gen D.back (J := fun L a' w' => DSt ops l σs us (fget (Fs 0)) β σ w a L a' w') (fun L a' w' i o K J ho hLi hed hK => draw_stepT hC D hvr htr hdst J ho hLi hed hK) ?_ ops.size _ a _ (by simp) (hleft _) ?_
      · intro L a' w' hall J
        obtain ⟨p, hpl, hp1, hp2, β', hT, hV⟩ := J.st
        have hp : p = l.length := by
          rcases Nat.lt_or_ge p l.length with h' | h'
          · exfalso
            have := (hp2 _ (List.getElem?_eq_getElem h')).2
            rw [hall p (by rw [← D.len]; exact h')] at this
            cases this
          · omega
        subst hp
        rw [e4] at hT
        refine hQ a' w' β' ⟨hT, fun t => ?_, J.sz, J.df⟩
        have h1 := hV t
        rw [lastW_congr (L' := fun _ => true) fun j hj _ => hall j (by rw [← D.len]; exact hj), ← frame_lastW htr l.length (Nat.le_refl _) t, e3, e4] at h1
        exact h1
      · refine ⟨fun j o hj => absurd hj (by rw [hL0]; decide), ⟨p, hp1, fun j s hj hs hh => ?_, fun s hs => ⟨hp3 s hs, hL0 p⟩, β, ?_, fun t => ?_⟩, rfl, rfl⟩
        · rw [hp2 j s (by omega) hj hs] at hh; cases hh
        · rw [hσp]; exact Trans.drawn hok _
        · rw [hσp, lastW_cut (i := 0) (by omega) fun j _ _ _ => hL0 j, e1]
          exact hF t
    by_cases hff : floatRun C l F σ = true
    · -- one row may be made early
      obtain ⟨c, hfd, hfs, hfm⟩ := floatRun_of hff
      have D := drawnF_of hr hb hfd
      have hvr := hfs Fs σs us e1 e2 htr
      obtain ⟨obj, n0, m1, m2, m3, m4⟩ := hfm Fs σs us e1 e2 htr
      obtain ⟨p, hp0, hp1, hp2, hp3⟩ := nextHeavy l 0 (by omega)
      have hσp : σs p = σ := by rw [heap_const htr hp0 hp1 hp2, e2]
      refine wpAny_gen D.back (J := fun L a' w' => DStF ops l c obj σs us (fget (Fs 0)) β σ w a L a' w') (fun L a' w' i o K J ho hLi hed hK => draw_stepF hC D hvr m1 m2 m3 m4 htr hdst J ho hLi hed hK) ?_ ops.size _ a _ (by simp) (hleft _) ?_
      · intro L a' w' hall J
        obtain ⟨p, hpl, hp1, hp2, β', hT, hV, _⟩ := J.st
        have hp : p = l.length := by
          rcases Nat.lt_or_ge p l.length with h' | h'
          · exfalso
            have := (hp2 _ (List.getElem?_eq_getElem h')).2
            rw [hall p (by rw [← D.len]; exact h')] at this
            cases this
          · omega
        subst hp
        rw [e4] at hT
        refine hQ a' w' β' ⟨hT, fun t => ?_, J.sz, J.df⟩
        have h1 := hV t (fun _ hlt x hx => absurd (List.getElem?_eq_some_iff.1 hx).1 (by omega))
        rw [lastW_congr (L' := fun _ => true) fun j hj _ => hall j (by rw [← D.len]; exact hj), ← frame_lastW htr l.length (Nat.le_refl _) t, e3, e4] at h1
        exact h1
      · refine ⟨fun j o hj => absurd hj (by rw [hL0]; decide), ⟨p, hp1, fun j s hj hs hh => ?_, fun s hs => ⟨hp3 s hs, hL0 p⟩, β, ?_, fun t _ => ?_, fun h => absurd h (by rw [hL0]; decide)⟩, rfl, rfl⟩
        · rw [hp2 j s (by omega) hj hs] at hh; cases hh
        · rw [hσp]; exact Trans.drawn hok _
        · rw [hσp, lastW_cut (i := 0) (by omega) fun j _ _ _ => hL0 j, e1]
          exact hF t
    have hok2 : drawOk C l = true := by
      rw [Bool.or_eq_true, Bool.or_eq_true, Bool.or_eq_true, Bool.or_eq_true, Bool.or_eq_true] at hok2
      rcases hok2 with ((((h' | h') | h') | h') | h') | h'
      · exact h'
      · exact absurd h' hnw
      · exact absurd h' hvv
      · exact absurd h' hss
      · exact absurd h' htt
      · exact absurd h' hff
    have D := drawn_of hr hb hok2
    obtain ⟨p, hp0, hp1, hp2, hp3⟩ := nextHeavy l 0 (by omega)
    have hσp : σs p = σ := by rw [heap_const htr hp0 hp1 hp2, e2]
    refine wpAny_draw hC D htr (β0 := β) (σ0 := σ) (w0 := w) (a0 := a) hdst ?_ ops.size _ a _ (by simp) ?_ ?_
    · intro a' w' β' hT hF' hsz hdf
      rw [e4] at hT hF'
      rw [e3] at hF'
      exact hQ a' w' β' ⟨hT, hF', hsz, hdf⟩
    · have : ∀ m, leftOf (fun i => (Array.replicate ops.size false).getD i false) m ≤ m := by
        intro m
        induction m with
        | zero => simp [leftOf]
        | succ m ih => simp only [leftOf]; split <;> omega
      exact this _
    · have hL : ∀ i, (Array.replicate ops.size false).getD i false = false := by
        intro i
        rw [Array.getD_eq_getD_getElem?]
        by_cases hi : i < ops.size <;> simp [hi]
      refine ⟨fun j o hj => absurd hj (by rw [hL]; decide), ⟨p, hp1, fun j s hj hs hh => ?_, fun s hs => ⟨hp3 s hs, hL p⟩, β, ?_, fun t => ?_⟩, rfl, rfl⟩
      · rw [hp2 j s (by omega) hj hs] at hh; cases hh
      · rw [hσp]; exact Trans.drawn hok _
      · rw [hσp, lastW_cut (i := 0) (by omega) fun j _ _ _ => hL j, e1]
        exact hF t

def exitOf : Out → Exit
  | .normal => .normal
  | .exit id => .exit id
  | .ret => .ret

/-- Code. -/
theorem evCode_sound (hm : P.follows .mixedOrders = true) (hC : CtabOk P C) {n : Nat} : ∀ (S : SCode) (c : Code), rcode P n c = some S.strip → ∀ (β : Inj) (σ : Heap) (w : World) (F : Frame) (a : Act), InjOk β σ w → FOk β σ F a.tmps → a.tmps.size = n →
    ∀ {out : Out} {F' : Frame} {σ' : Heap}, evCode C S F σ = some (out, F', σ') → ∀ {Q : Exit → Act → World → Prop}, (∀ a' w' β', At β σ w β' σ' w' F' a a' → Q (exitOf out) a' w') → c.wp P Q a w := by
  intro S
  induction S with
  | skip =>
    intro c hc β σ w F a hok hF hn out F' σ' h Q hQ
    simp [evCode] at h
    obtain ⟨rfl, rfl, rfl⟩ := h
    have : c = .skip := by
      cases c <;> simp [rcode, SCode.strip] at hc <;> first | rfl | (split at hc <;> simp at hc) | skip
    subst this
    exact wp_skip (hQ a w β ⟨Trans.refl hok, hF, rfl, rfl⟩)
  | region ops draw =>
    intro c hc β σ w F a hok hF hn out F' σ' h Q hQ
    cases c with
    | region id os d =>
      simp only [rcode, SCode.strip] at hc
      split at hc
      · rename_i hcond
        simp only [Bool.and_eq_true] at hcond
        cases hr : rOps P os [] os.toList with
        | none => rw [hr] at hc; cases hc
        | some l =>
          rw [hr] at hc
          simp only [Option.map_some, Option.some.injEq, SCode.region.injEq] at hc
          obtain ⟨rfl, rfl⟩ := hc
          simp only [evCode] at h
          split at h
          · rename_i hok2
            cases he : evOps C l F σ with
            | none => rw [he] at h; cases h
            | some r =>
              rw [he] at h
              simp only [Option.map_some, Option.some.injEq, Prod.mk.injEq] at h
              obtain ⟨rfl, rfl, rfl⟩ := h
              exact region_sound hm hC hcond.1 hcond.2 hr hok2 hok hF hn he hQ
          · cases h
      · cases hc
    | _ => simp [rcode, SCode.strip] at hc <;> (split at hc <;> simp at hc)
  | seq x y ihx ihy =>
    intro c hc β σ w F a hok hF hn out F' σ' h Q hQ
    cases c with
    | seq cx cy =>
      simp only [rcode, SCode.strip] at hc
      split at hc
      · rename_i x' y' hx hy
        simp only [Option.some.injEq, SCode.seq.injEq] at hc
        obtain ⟨rfl, rfl⟩ := hc
        simp only [evCode] at h
        refine wp_seq ?_
        cases hx1 : evCode C x F σ with
        | none => rw [hx1] at h; cases h
        | some r =>
          obtain ⟨o1, F1, σ1⟩ := r
          rw [hx1] at h
          refine ihx cx hx β σ w F a hok hF hn hx1 fun a1 w1 β1 h1 => ?_
          cases o1 with
          | normal =>
            simp only at h
            refine ihy cy hy β1 σ1 w1 F1 a1 h1.tr.ok h1.fr (by rw [h1.sz, hn]) h fun a2 w2 β2 h2 => ?_
            exact hQ a2 w2 β2 ⟨h1.tr.trans h2.tr, h2.fr, by rw [h2.sz, h1.sz], by rw [h2.df, h1.df]⟩
          | exit id => simp only [Option.some.injEq, Prod.mk.injEq] at h; obtain ⟨rfl, rfl, rfl⟩ := h; exact hQ a1 w1 β1 h1
          | ret => simp only [Option.some.injEq, Prod.mk.injEq] at h; obtain ⟨rfl, rfl, rfl⟩ := h; exact hQ a1 w1 β1 h1
      · cases hc
    | _ => simp [rcode, SCode.strip] at hc <;> (split at hc <;> simp at hc)
  | cond t x y ihx ihy =>
    intro c hc β σ w F a hok hF hn out F' σ' h Q hQ
    cases c with
    | cond ct cx cy =>
      simp only [rcode, SCode.strip] at hc
      split at hc
      · rename_i x' y' hx hy
        simp only [Option.some.injEq, SCode.cond.injEq] at hc
        obtain ⟨rfl, rfl, rfl⟩ := hc
        simp only [evCode, condOn] at h
        have hv := eval_sound hF ct
        split at h
        · rename_i b hb
          rw [hb] at hv
          have hce : a.eval ct = .bool b := by
            generalize a.eval ct = u at hv
            cases hv; rfl
          cases b with
          | true => exact wp_cond hce (ihx cx hx β σ w F a hok hF hn h hQ)
          | false => exact wp_cond hce (ihy cy hy β σ w F a hok hF hn h hQ)
        · cases h
      · cases hc
    | _ => simp [rcode, SCode.strip] at hc <;> (split at hc <;> simp at hc)
  | block id x ih =>
    intro c hc β σ w F a hok hF hn out F' σ' h Q hQ
    cases c with
    | block id' cx =>
      simp only [rcode, SCode.strip] at hc
      cases hx : rcode P n cx with
      | none => rw [hx] at hc; cases hc
      | some x' =>
        rw [hx] at hc
        simp only [Option.map_some, Option.some.injEq, SCode.block.injEq] at hc
        obtain ⟨rfl, rfl⟩ := hc
        simp only [evCode] at h
        refine wp_block ?_
        cases hx1 : evCode C x F σ with
        | none => rw [hx1] at h; cases h
        | some r =>
          obtain ⟨o1, F1, σ1⟩ := r
          rw [hx1] at h
          refine ih cx hx β σ w F a hok hF hn hx1 fun a1 w1 β1 h1 => ?_
          cases o1 with
          | normal => simp only [Option.some.injEq, Prod.mk.injEq] at h; obtain ⟨rfl, rfl, rfl⟩ := h; exact hQ a1 w1 β1 h1
          | exit id =>
            simp only at h
            simp only [exitOf, Exit.inBlock]
            split at h
            · rename_i e
              simp only [Option.some.injEq, Prod.mk.injEq] at h
              obtain ⟨rfl, rfl, rfl⟩ := h
              rw [if_pos e]; exact hQ a1 w1 β1 h1
            · rename_i e
              simp only [Option.some.injEq, Prod.mk.injEq] at h
              obtain ⟨rfl, rfl, rfl⟩ := h
              rw [if_neg e]; exact hQ a1 w1 β1 h1
          | ret => simp only [Option.some.injEq, Prod.mk.injEq] at h; obtain ⟨rfl, rfl, rfl⟩ := h; exact hQ a1 w1 β1 h1
    | _ => simp [rcode, SCode.strip] at hc <;> (split at hc <;> simp at hc)
  | loop x ih =>
    intro c hc β σ w F a hok hF hn out F' σ' h Q hQ
    cases c with
    | loop cx =>
      simp only [rcode, SCode.strip] at hc
      cases hx : rcode P n cx with
      | none => rw [hx] at hc; cases hc
      | some x' =>
        rw [hx] at hc
        simp only [Option.map_some, Option.some.injEq, SCode.loop.injEq] at hc
        subst hc
        simp only [evCode] at h
        obtain ⟨m, hm'⟩ := iter_of_while h
        intro b k cs
        have key : ∀ (m : Nat) (β1 : Inj) (σ1 : Heap) (w1 : World) (F1 : Frame) (a1 : Act), At β σ w β1 σ1 w1 F1 a a1 → iter (evCode C x) m F1 σ1 = some (out, F', σ') →
            ∃ e a' w', Q e a' w' ∧ Arrives P (lone (b.at a1 (.code cx :: .inLoop cx :: k)) cs w1) b k cs e a' w' := by
          intro m
          induction m with
          | zero => intro _ _ _ _ _ _ h; cases h
          | succ m ihm =>
            intro β1 σ1 w1 F1 a1 h1 hi
            simp only [iter] at hi
            cases hb : evCode C x F1 σ1 with
            | none => rw [hb] at hi; cases hi
            | some r =>
              obtain ⟨o1, F2, σ2⟩ := r
              rw [hb] at hi
              obtain ⟨e, a2, w2, ⟨he, β2, h2⟩, harr⟩ := ih cx hx β1 σ1 w1 F1 a1 h1.tr.ok h1.fr (by rw [h1.sz, hn]) hb (Q := fun e a2 w2 => e = exitOf o1 ∧ ∃ β2, At β1 σ1 w1 β2 σ2 w2 F2 a1 a2) (fun a2 w2 β2 h2 => ⟨rfl, β2, h2⟩) b (.inLoop cx :: k) cs
              have h12 : At β σ w β2 σ2 w2 F2 a a2 := ⟨h1.tr.trans h2.tr, h2.fr, by rw [h2.sz, h1.sz], by rw [h2.df, h1.df]⟩
              subst he
              cases o1 with
              | normal =>
                simp only at hi
                obtain ⟨e, a', w', hq, harr2⟩ := ihm β2 σ2 w2 F2 a2 h12 hi
                exact ⟨e, a', w', hq, .of_steps (Steps.trans harr (.one step_inLoop)) harr2⟩
              | exit id =>
                simp only [Option.some.injEq, Prod.mk.injEq] at hi
                obtain ⟨rfl, rfl, rfl⟩ := hi
                exact ⟨_, a2, w2, hQ a2 w2 β2 h12, .pass (x := .inLoop cx) rfl (fun _ _ => .inl (by simp [exitOf])) harr⟩
              | ret =>
                simp only [Option.some.injEq, Prod.mk.injEq] at hi
                obtain ⟨rfl, rfl, rfl⟩ := hi
                exact ⟨_, a2, w2, hQ a2 w2 β2 h12, .pass (x := .inLoop cx) rfl (fun _ _ => .inl (by simp [exitOf])) harr⟩
        obtain ⟨e, a', w', hq, harr⟩ := key m β σ w F a ⟨Trans.refl hok, hF, rfl, rfl⟩ hm'
        exact ⟨e, a', w', hq, .of_steps (.one step_loop) harr⟩
    | _ => simp [rcode, SCode.strip] at hc <;> (split at hc <;> simp at hc)
  | exit id =>
    intro c hc β σ w F a hok hF hn out F' σ' h Q hQ
    simp [evCode] at h
    obtain ⟨rfl, rfl, rfl⟩ := h
    cases c with
    | exit id' =>
      simp [rcode, SCode.strip] at hc
      subst hc
      exact wp_exit (hQ a w β ⟨Trans.refl hok, hF, rfl, rfl⟩)
    | _ => simp [rcode, SCode.strip] at hc <;> (split at hc <;> simp at hc)
  | ret =>
    intro c hc β σ w F a hok hF hn out F' σ' h Q hQ
    simp [evCode] at h
    obtain ⟨rfl, rfl, rfl⟩ := h
    cases c with
    | ret => exact wp_ret (hQ a w β ⟨Trans.refl hok, hF, rfl, rfl⟩)
    | _ => simp [rcode, SCode.strip] at hc <;> (split at hc <;> simp at hc)
  | kp K x ih =>
    intro c hc β σ w F a hok hF hn out F' σ' h Q hQ
    exact ih c hc β σ w (fkeep K F) a hok (hF.keep K) hn h hQ

end
end Go.Abs

/- The abstract machine: functions and their contracts. Conditions: the contracts that are used hold; the program follows the mixed orders. -/
namespace Go.Abs

section
variable {P : Program} {C : Ctab}

theorem argFrame_get : ∀ (args : List Value) (n t : Nat), fget (argFrame n args) t = if n ≤ t then (args[t - n]?).getD dead else dead
  | [], n, t => by simp [argFrame, fget]
  | v :: vs, n, t => by
    simp only [argFrame, fget]
    by_cases h : n = t
    · subst h; simp [Nat.beq_refl]
    · have : Nat.beq n t = false := by
        cases hb : Nat.beq n t with
        | false => rfl
        | true => exact absurd (Nat.eq_of_beq_eq_true hb) h
      rw [this]
      simp only [cond_false]
      rw [argFrame_get vs (n + 1) t]
      by_cases h2 : n + 1 ≤ t
      · rw [if_pos h2, if_pos (by omega)]
        rw [show t - n = (t - (n + 1)) + 1 by omega]
        rfl
      · rw [if_neg h2, if_neg (by omega)]

theorem args_ok {β : Inj} {σ : Heap} {args : List Value} {cargs : Array Value} (h : LRel β σ args cargs.toList) (m : Nat) : FOk β σ (argFrame 0 args) (cargs ++ Array.replicate (m - cargs.size) undef) := by
  intro t
  rw [argFrame_get, if_pos (Nat.zero_le _), Nat.sub_zero]
  cases hv : args[t]? with
  | none => exact .dead _
  | some v =>
    obtain ⟨c, hc, hr⟩ := lrel_get h hv
    have hlt : t < cargs.size := by
      rcases Nat.lt_or_ge t cargs.size with h' | h'
      · exact h'
      · rw [List.getElem?_eq_none (by simpa using h')] at hc; cases hc
    have hc' : cargs[t]? = some c := by simpa using hc
    rw [Array.getD_eq_getD_getElem?, Array.getElem?_append_left hlt, hc']
    exact hr

/-- A result as the model takes it. -/
def resSem (tmps : Array Value) : ResultVar → Sem Value
  | .tmp t => pure (tmps.getD t undef)
  | .cell a t => do loadVar t (← asAddr (tmps.getD a undef))

theorem results_eq (fn : Func) (tmps : Array Value) : results fn tmps = (do
    let vs ← fn.results.mapM (resSem tmps)
    pure (if h : vs.size = 1 then vs[0] else .tuple vs)) := by
  unfold results
  congr 1

theorem run_resTmp (tmps : Array Value) (t : Nat) (w : World) : (resSem tmps (.tmp t)).run P w = .ok (tmps.getD t undef) w := rfl

theorem run_resCell {tmps : Array Value} {a : Nat} {t : TypeId} {q : Addr} {u : Value} {w : World} (hq : tmps.getD a undef = .pointer (some q)) (h : (Instr.loadAt t (.pointer (some q))).run P w = .ok u w) : (resSem tmps (.cell a t)).run P w = .ok u w := by
  have hu' : (loadVar t q).run P w = .ok u w := by simpa [Instr.loadAt, Instr.sureAddr] using h
  show (do loadVar t (← asAddr (tmps.getD a undef)) : Sem Value).run P w = _
  rw [hq]
  simp only [Sem.run_bind, asAddr, Sem.run_pure, Result.andThen_ok, hu']

theorem resVal_sound {β : Inj} {σ : Heap} {w : World} {F : Frame} {tmps : Array Value} (hok : InjOk β σ w) (hF : FOk β σ F tmps) : ∀ {rs : List ResultVar} {ss : List SRes}, rRes P rs = some ss → ∀ {vs : List Value}, resVals F σ ss = some vs →
    ∃ cs : List Value, (rs.mapM (resSem tmps)).run P w = .ok cs w ∧ LRel β σ vs cs
  | [], ss, h, vs, hv => by
    simp [rRes] at h; subst h
    simp [resVals] at hv; subst hv
    exact ⟨[], by simp, rfl, fun i v c hv => by simp at hv⟩
  | .tmp t :: rs, ss, h, vs, hv => by
    simp only [rRes] at h
    cases hr : rRes P rs with
    | none => rw [hr] at h; cases h
    | some l =>
      rw [hr] at h; cases h
      simp only [resVals, resVal, Option.bind_some] at hv
      cases hvs : resVals F σ l with
      | none => rw [hvs] at hv; cases hv
      | some l' =>
        rw [hvs] at hv; cases hv
        obtain ⟨cs, h1, h2⟩ := resVal_sound hok hF hr hvs
        refine ⟨tmps.getD t undef :: cs, by simp only [List.mapM_cons, Sem.run_bind, run_resTmp, Result.andThen_ok, h1, Sem.run_pure], by simp [h2.1], fun i v c hv hc => ?_⟩
        cases i with
        | zero => simp at hv hc; subst hv; subst hc; have := hF t; simpa using this
        | succ i => exact h2.2 i v c (by simpa using hv) (by simpa using hc)
  | .cell a t :: rs, ss, h, vs, hv => by
    have hload : ∀ {p v c : Value}, VRel β σ p c → (∃ q, p = .pointer (some q)) → ∃ q, c = .pointer (some q) := by
      rintro p v c hr ⟨q, rfl⟩
      cases hr with
      | ptr a obj hσ c hk h => exact ⟨c, rfl⟩
    simp only [rRes] at h
    split at h
    · rename_i n hag hn
      cases hr : rRes P rs with
      | none => rw [hr] at h; cases h
      | some l =>
        rw [hr] at h; cases h
        simp only [resVals, resVal] at hv
        cases hl : aLoadN σ n (fget F a) with
        | none => rw [hl] at hv; cases hv
        | some u =>
          rw [hl] at hv
          simp only [Option.bind_some] at hv
          cases hvs : resVals F σ l with
          | none => rw [hvs] at hv; cases hv
          | some l' =>
            rw [hvs] at hv; cases hv
            obtain ⟨cs, h1, h2⟩ := resVal_sound hok hF hr hvs
            obtain ⟨uc, hu, hrel⟩ := loadN_sound (P := P) hok hag hn hl (hF a)
            have hp : ∃ q, fget F a = .pointer (some q) := by
              unfold aLoadN at hl
              split at hl
              · rename_i q hq; exact ⟨q, hq⟩
              · cases hl
            obtain ⟨q, hq⟩ := hload (v := undef) (hF a) hp
            rw [hq] at hu
            refine ⟨uc :: cs, ?_, by simp [h2.1], fun i v c hv hc => ?_⟩
            · simp only [List.mapM_cons, Sem.run_bind, run_resCell hq hu, Sem.run_pure, Result.andThen_ok, h1]
            · cases i with
              | zero => simp at hv hc; subst hv; subst hc; exact hrel
              | succ i => exact h2.2 i v c (by simpa using hv) (by simpa using hc)
    · rename_i hag
      cases hr : rRes P rs with
      | none => rw [hr] at h; cases h
      | some l =>
        rw [hr] at h; cases h
        simp only [resVals, resVal] at hv
        cases hl : aLoad1 σ (fget F a) with
        | none => rw [hl] at hv; cases hv
        | some u =>
          rw [hl] at hv
          simp only [Option.bind_some] at hv
          cases hvs : resVals F σ l with
          | none => rw [hvs] at hv; cases hv
          | some l' =>
            rw [hvs] at hv; cases hv
            obtain ⟨cs, h1, h2⟩ := resVal_sound hok hF hr hvs
            obtain ⟨uc, hu, hrel⟩ := load1_sound (P := P) hok hag hl (hF a)
            have hp : ∃ q, fget F a = .pointer (some q) := by
              unfold aLoad1 at hl
              split at hl
              · rename_i q hq; exact ⟨q, hq⟩
              · cases hl
            obtain ⟨q, hq⟩ := hload (v := undef) (hF a) hp
            rw [hq] at hu
            refine ⟨uc :: cs, ?_, by simp [h2.1], fun i v c hv hc => ?_⟩
            · simp only [List.mapM_cons, Sem.run_bind, run_resCell hq hu, Sem.run_pure, Result.andThen_ok, h1]
            · cases i with
              | zero => simp at hv hc; subst hv; subst hc; exact hrel
              | succ i => exact h2.2 i v c (by simpa using hv) (by simpa using hc)
    · cases h

theorem resOf_vals {F : Frame} {σ : Heap} {ss : List SRes} {v : Value} (h : resOf F σ ss = some v) : ∃ vs, resVals F σ ss = some vs ∧ ((∃ u, vs = [u] ∧ v = u) ∨ (vs.length ≠ 1 ∧ v = .tuple vs.toArray)) := by
  have hlen : ∀ {l : List SRes} {us : List Value}, resVals F σ l = some us → us.length = l.length := by
    intro l
    induction l with
    | nil => intro us h; simp [resVals] at h; subst h; rfl
    | cons x l ih =>
      intro us h
      simp only [resVals] at h
      cases hx : resVal F σ x with
      | none => rw [hx] at h; cases h
      | some y =>
        rw [hx] at h
        simp only [Option.bind_some] at h
        cases hy : resVals F σ l with
        | none => rw [hy] at h; cases h
        | some z => rw [hy] at h; cases h; simp [ih hy]
  unfold resOf at h
  split at h
  · rename_i r
    exact ⟨[v], by simp [resVals, h], .inl ⟨v, rfl, rfl⟩⟩
  · rename_i hne
    cases hv : resVals F σ ss with
    | none => rw [hv] at h; cases h
    | some vs =>
      rw [hv] at h; cases h
      refine ⟨vs, rfl, .inr ⟨?_, rfl⟩⟩
      rw [hlen hv]
      intro h1
      match ss, h1 with
      | [r], _ => exact hne r rfl

theorem results_sound {β : Inj} {σ : Heap} {w : World} {F : Frame} {tmps : Array Value} (hok : InjOk β σ w) (hF : FOk β σ F tmps) {fn : Func} {ss : List SRes} (hr : rRes P fn.results.toList = some ss) {v : Value} (h : resOf F σ ss = some v) :
    ∃ c, (results fn tmps).run P w = .ok c w ∧ VRel β σ v c := by
  obtain ⟨vs, hvs, hcase⟩ := resOf_vals h
  obtain ⟨cs, h1, h2⟩ := resVal_sound hok hF hr hvs
  rw [results_eq]
  have hm : (fn.results.mapM (resSem tmps)).run P w = .ok cs.toArray w := by
    rw [Array.mapM_eq_mapM_toList]
    simp only [Sem.run_map, h1, Result.andThen_ok]
  rcases hcase with ⟨u, rfl, rfl⟩ | ⟨hne, rfl⟩
  · have hl : cs.length = 1 := by have := h2.1; simpa using this.symm
    match cs, hl with
    | [c], _ =>
      refine ⟨c, ?_, h2.2 0 v c (by simp) (by simp)⟩
      simp only [Sem.run_bind, hm, Result.andThen_ok]
      simp
  · have hl : cs.length ≠ 1 := by rw [← h2.1]; exact hne
    refine ⟨.tuple cs.toArray, ?_, .tuple _ _ (by simpa using h2.1) fun i v v' hv hv' => h2.2 i v v' (by simpa using hv) (by simpa using hv')⟩
    simp only [Sem.run_bind, hm, Result.andThen_ok]
    simp [hl]

/-- A whole call. -/
theorem evFn_sound (hm : P.follows .mixedOrders = true) (hC : CtabOk P C) {f : FuncId} {fn : Func} {S : SFunc} (hf : P.funcs[f]? = some fn) (hS : resolveFn P fn = some S.strip) {args : List Value} {σ : Heap} {v : Value} {σ' : Heap} (hn : args.length ≤ S.ntmps)
    (h : evFn C S args σ = some (v, σ')) {β : Inj} {w : World} {cargs : Array Value} (hok : InjOk β σ w) (ha : LRel β σ args cargs.toList) : Calls P f cargs w (fun e w' => ∃ c, e = .returned c ∧ Good β σ w v σ' c w') := by
  unfold resolveFn at hS
  split at hS
  · rename_i c hb
    split at hS
    · rename_i b rs hc hr
      simp only [Option.some.injEq, SFunc.strip, SFunc.mk.injEq] at hS
      obtain ⟨h1, rfl, rfl⟩ := hS
      have hcs : cargs.size = args.length := by have := ha.1; simpa using this.symm
      have hF := args_ok ha fn.ntmps
      have hsz : (cargs ++ Array.replicate (fn.ntmps - cargs.size) undef).size = fn.ntmps := by simp; omega
      refine calls_of_wp hf hb ?_
      unfold evFn at h
      split at h
      · rename_i F σ2 he
        cases hv : resOf F σ2 S.results with
        | none => rw [hv] at h; cases h
        | some u =>
          rw [hv] at h; cases h
          refine evCode_sound hm hC S.body c (by rw [hc]) β σ w _ _ hok hF hsz he fun a' w' β' hat => ?_
          obtain ⟨cv, hrun, hrel⟩ := results_sound hat.tr.ok hat.fr hr hv
          exact ⟨hat.df, cv, hrun, cv, rfl, β', hat.tr, hrel⟩
      · rename_i F σ2 he
        cases hv : resOf F σ2 S.results with
        | none => rw [hv] at h; cases h
        | some u =>
          rw [hv] at h; cases h
          refine evCode_sound hm hC S.body c (by rw [hc]) β σ w _ _ hok hF hsz he fun a' w' β' hat => ?_
          obtain ⟨cv, hrun, hrel⟩ := results_sound hat.tr.ok hat.fr hr hv
          exact ⟨hat.df, cv, hrun, cv, rfl, β', hat.tr, hrel⟩
      · cases h
    · cases hS
  · cases hS

end
end Go.Abs

