/- The abstract machine: what it comes to, the model comes to: regions, code, functions. Conditions: the contracts that are used hold; the program follows the mixed orders. -/
import Derived.Test.YtnibmlgdnhiglaaWvB9
namespace Go.Abs

section
variable {P : Program} {C : Ctab}

theorem ready_iff {ops : Array Oper} {listed : Array Bool} (hsz : listed.size = ops.size) (i : Nat) (h : i ∈ Region.ready .any ops listed) :
    ∃ o, ops[i]? = some o ∧ listed.getD i false = false ∧ ∀ e ∈ o.after.toList, Region.binds .any e = true → listed.getD e.on false = true := by
  unfold Region.ready at h
  rw [List.mem_filter] at h
  obtain ⟨hr, h⟩ := h
  simp only [List.mem_range] at hr
  have ho : ops[i]? = some ops[i] := by simp [hr]
  rw [ho] at h
  simp only [Option.map_some, Option.getD_some, Bool.and_eq_true, Bool.not_eq_true'] at h
  refine ⟨ops[i], ho, ?_, fun e he hb => ?_⟩
  · have : i < listed.size := by omega
    simpa [Array.getD_eq_getD_getElem?, this] using h.1
  · have h2 := h.2
    rw [← Array.all_toList, List.all_eq_true] at h2
    have := h2 e he
    simpa [hb] using this

theorem wpAny_draw (hC : CtabOk P C) {ops : Array Oper} {l : List SOper} (D : Drawn P C ops l) {Fs : Nat → Frame} {σs : Nat → Heap} {us : Nat → Value}
    (htr : ∀ (i : Nat) (s : SOper), l[i]? = some s → stepS C s (Fs i) (σs i) = some (us i, Fs (i + 1), σs (i + 1))) {β0 : Inj} {σ0 : Heap} {w0 : World} {a0 : Act} (hdst : ∀ (i : Nat) (o : Oper), ops[i]? = some o → ∀ d, o.dst = some d → d < a0.tmps.size)
    {Q : Exit → Act → World → Prop} (hQ : ∀ a' w' β', Trans β0 σ0 w0 β' (σs l.length) w' → FOk β' (σs l.length) (Fs l.length) a'.tmps → a'.tmps.size = a0.tmps.size → a'.defers = a0.defers → Q .normal a' w') :
    ∀ (fuel : Nat) (listed : Array Bool) (a : Act) (w : World), listed.size = ops.size → leftOf (fun i => listed.getD i false) ops.size ≤ fuel → DSt ops l σs us (fget (Fs 0)) β0 σ0 w0 a0 (fun i => listed.getD i false) a w → wpAny P .any ops Q fuel listed a w := by
  have done : ∀ (listed : Array Bool) (a : Act) (w : World), listed.size = ops.size → Region.ready .any ops listed = [] → DSt ops l σs us (fget (Fs 0)) β0 σ0 w0 a0 (fun i => listed.getD i false) a w → Q .normal a w := by
    intro listed a w hsz hr J
    -- all are done
    have hall : ∀ i, i < ops.size → listed.getD i false = true := by
      intro i
      induction i using Nat.strongRecOn with
      | _ i ih =>
        intro hi
        cases hL : listed.getD i false with
        | true => rfl
        | false =>
          exfalso
          have ho : ops[i]? = some ops[i] := by simp [hi]
          have hmem : i ∈ Region.ready .any ops listed := by
            unfold Region.ready
            rw [List.mem_filter]
            refine ⟨by simpa using hi, ?_⟩
            rw [ho]
            simp only [Option.map_some, Option.getD_some, Bool.and_eq_true, Bool.not_eq_true']
            constructor
            · have : i < listed.size := by omega
              simpa [Array.getD_eq_getD_getElem?, this] using hL
            · rw [← Array.all_toList, List.all_eq_true]
              intro e he
              cases hb : Region.binds .any e with
              | false => rfl
              | true =>
                have hlt := D.back i _ ho e he hb
                simpa using ih e.on hlt (by omega)
          rw [hr] at hmem
          cases hmem
    obtain ⟨p, hpl, hp1, hp2, β, hT, hV⟩ := J.st
    have hp : p = l.length := by
      rcases Nat.lt_or_ge p l.length with h' | h'
      · exfalso
        have := (hp2 _ (List.getElem?_eq_getElem h')).2
        rw [hall p (by rw [← D.len]; exact h')] at this
        cases this
      · omega
    subst hp
    refine hQ a w β hT (fun t => ?_) J.sz J.df
    rw [frame_lastW htr l.length (Nat.le_refl _) t]
    rw [lastW_congr (L' := fun i => listed.getD i false) fun j hj _ => (hall j (by rw [← D.len]; exact hj)).symm]
    exact hV t
  intro fuel
  induction fuel with
  | zero =>
    intro listed a w hsz hle J
    have hr : Region.ready .any ops listed = [] := by
      cases hr : Region.ready .any ops listed with
      | nil => rfl
      | cons i rs =>
        exfalso
        obtain ⟨o, ho, hLi, _⟩ := ready_iff hsz i (by rw [hr]; simp)
        have hi : i < ops.size := by
          rcases Nat.lt_or_ge i ops.size with h' | h'
          · exact h'
          · simp [Array.getElem?_eq_none h'] at ho
        have := leftOf_zero (L := fun i => listed.getD i false) (n := ops.size) (by omega) i hi
        rw [hLi] at this; cases this
    exact ⟨hr, done listed a w hsz hr J⟩
  | succ fuel ih =>
    intro listed a w hsz hle J
    refine ⟨fun hr => done listed a w hsz hr J, fun i hi => ?_⟩
    obtain ⟨o, ho, hLi, hed⟩ := ready_iff hsz i hi
    have hio : i < ops.size := by
      rcases Nat.lt_or_ge i ops.size with h' | h'
      · exact h'
      · simp [Array.getElem?_eq_none h'] at ho
    have hset : (fun j => (listed.setIfInBounds i true).getD j false) = fun j => if j = i then true else listed.getD j false := by
      funext j
      rw [Array.getD_eq_getD_getElem?, Array.getElem?_setIfInBounds]
      by_cases e : i = j
      · subst e; rw [if_pos rfl, if_pos rfl, if_pos (by omega)]; rfl
      · rw [if_neg e, if_neg (fun h => e h.symm), Array.getD_eq_getD_getElem?]
    refine draw_step hC D htr hdst J ho hLi hed fun a' w' J' => ?_
    refine ih _ a' w' (by simpa using hsz) ?_ (by rw [hset]; exact J')
    rw [hset]
    have := leftOf_set (fun j => listed.getD j false) i hLi ops.size
    rw [if_pos hio] at this
    have h2 : leftOf (fun j => if j = i then true else listed.getD j false) ops.size + 1 = leftOf (fun j => listed.getD j false) ops.size := this
    omega

/-- A region, in the order of the text or drawn. -/
theorem region_sound (hm : P.follows .mixedOrders = true) (hC : CtabOk P C) {n id : Nat} {ops : Array Oper} {draw : Bool} {l : List SOper} (hd : dstsOk n ops.toList = true) (hb : (!draw || backEdges 0 ops.toList) = true) (hr : rOps P ops [] ops.toList = some l)
    (hok2 : (!draw || drawOk C l) = true) {β : Inj} {σ : Heap} {w : World} {F : Frame} {a : Act} (hok : InjOk β σ w) (hF : FOk β σ F a.tmps) (hn : a.tmps.size = n) {F' : Frame} {σ' : Heap} (h : evOps C l F σ = some (F', σ'))
    {Q : Exit → Act → World → Prop} (hQ : ∀ a' w' β', At β σ w β' σ' w' F' a a' → Q .normal a' w') : (Code.region id ops draw).wp P Q a w := by
  have hdst : ∀ (i : Nat) (o : Oper), ops[i]? = some o → ∀ d, o.dst = some d → d < a.tmps.size := by
    intro i o ho d hod
    unfold dstsOk at hd
    rw [List.all_eq_true] at hd
    have := hd o (by rw [Array.mem_toList_iff]; exact Array.mem_of_getElem? ho)
    rw [hod] at this
    rw [hn]
    simpa using this
  cases draw with
  | false =>
    refine wp_region ?_
    obtain ⟨h1, h2⟩ := rOps_rel hr
    have := evOps_sound hC ops l ops.toList 0 β σ w F a (fun i => by simp) (by simpa using h1) (fun i o s ho hs => h2 i o s ho hs) (fun o ho d hod => by
      obtain ⟨i, hi, rfl⟩ := List.getElem_of_mem ho
      exact hdst i _ (by simp at hi; simp [hi]) d hod) hok hF h hQ
    rw [List.range_eq_range']
    simpa using this
  | true =>
    simp only [Bool.not_true, Bool.false_or] at hb hok2
    have D := drawn_of hr hb hok2
    obtain ⟨Fs, σs, us, e1, e2, e3, e4, htr⟩ := trace l F σ F' σ' h
    refine wp_region_any hm ?_
    have hok1 : InjOk β σ { w with drawn := w.drawn + 1 } := hok.drawn _
    obtain ⟨p, hp0, hp1, hp2, hp3⟩ := nextHeavy l 0 (by omega)
    have hσp : σs p = σ := by rw [heap_const htr hp0 hp1 hp2, e2]
    refine wpAny_draw hC D htr (β0 := β) (σ0 := σ) (w0 := w) (a0 := a) hdst ?_ ops.size _ a _ (by simp) ?_ ?_
    · intro a' w' β' hT hF' hsz hdf
      rw [e4] at hT hF'
      rw [e3] at hF'
      exact hQ a' w' β' ⟨hT, hF', hsz, hdf⟩
    · have : ∀ m, leftOf (fun i => (Array.replicate ops.size false).getD i false) m ≤ m := by
        intro m
        induction m with
        | zero => simp [leftOf]
        | succ m ih => simp only [leftOf]; split <;> omega
      exact this _
    · have hL : ∀ i, (Array.replicate ops.size false).getD i false = false := by
        intro i
        rw [Array.getD_eq_getD_getElem?]
        by_cases hi : i < ops.size <;> simp [hi]
      refine ⟨fun j o hj => absurd hj (by rw [hL]; decide), ⟨p, hp1, fun j s hj hs hh => ?_, fun s hs => ⟨hp3 s hs, hL p⟩, β, ?_, fun t => ?_⟩, rfl, rfl⟩
      · rw [hp2 j s (by omega) hj hs] at hh; cases hh
      · rw [hσp]; exact Trans.drawn hok _
      · rw [hσp, lastW_cut (i := 0) (by omega) fun j _ _ _ => hL j, e1]
        exact hF t

def exitOf : Out → Exit
  | .normal => .normal
  | .exit id => .exit id
  | .ret => .ret

/-- Code. -/
theorem evCode_sound (hm : P.follows .mixedOrders = true) (hC : CtabOk P C) {n : Nat} : ∀ (S : SCode) (c : Code), rcode P n c = some S.strip → ∀ (β : Inj) (σ : Heap) (w : World) (F : Frame) (a : Act), InjOk β σ w → FOk β σ F a.tmps → a.tmps.size = n →
    ∀ {out : Out} {F' : Frame} {σ' : Heap}, evCode C S F σ = some (out, F', σ') → ∀ {Q : Exit → Act → World → Prop}, (∀ a' w' β', At β σ w β' σ' w' F' a a' → Q (exitOf out) a' w') → c.wp P Q a w := by
  intro S
  induction S with
  | skip =>
    intro c hc β σ w F a hok hF hn out F' σ' h Q hQ
    simp [evCode] at h
    obtain ⟨rfl, rfl, rfl⟩ := h
    have : c = .skip := by
      cases c <;> simp [rcode, SCode.strip] at hc <;> first | rfl | (split at hc <;> simp at hc) | skip
    subst this
    exact wp_skip (hQ a w β ⟨Trans.refl hok, hF, rfl, rfl⟩)
  | region ops draw =>
    intro c hc β σ w F a hok hF hn out F' σ' h Q hQ
    cases c with
    | region id os d =>
      simp only [rcode, SCode.strip] at hc
      split at hc
      · rename_i hcond
        simp only [Bool.and_eq_true] at hcond
        cases hr : rOps P os [] os.toList with
        | none => rw [hr] at hc; cases hc
        | some l =>
          rw [hr] at hc
          simp only [Option.map_some, Option.some.injEq, SCode.region.injEq] at hc
          obtain ⟨rfl, rfl⟩ := hc
          simp only [evCode] at h
          split at h
          · rename_i hok2
            cases he : evOps C l F σ with
            | none => rw [he] at h; cases h
            | some r =>
              rw [he] at h
              simp only [Option.map_some, Option.some.injEq, Prod.mk.injEq] at h
              obtain ⟨rfl, rfl, rfl⟩ := h
              exact region_sound hm hC hcond.1 hcond.2 hr hok2 hok hF hn he hQ
          · cases h
      · cases hc
    | _ => simp [rcode, SCode.strip] at hc <;> (split at hc <;> simp at hc)
  | seq x y ihx ihy =>
    intro c hc β σ w F a hok hF hn out F' σ' h Q hQ
    cases c with
    | seq cx cy =>
      simp only [rcode, SCode.strip] at hc
      split at hc
      · rename_i x' y' hx hy
        simp only [Option.some.injEq, SCode.seq.injEq] at hc
        obtain ⟨rfl, rfl⟩ := hc
        simp only [evCode] at h
        refine wp_seq ?_
        cases hx1 : evCode C x F σ with
        | none => rw [hx1] at h; cases h
        | some r =>
          obtain ⟨o1, F1, σ1⟩ := r
          rw [hx1] at h
          refine ihx cx hx β σ w F a hok hF hn hx1 fun a1 w1 β1 h1 => ?_
          cases o1 with
          | normal =>
            simp only at h
            refine ihy cy hy β1 σ1 w1 F1 a1 h1.tr.ok h1.fr (by rw [h1.sz, hn]) h fun a2 w2 β2 h2 => ?_
            exact hQ a2 w2 β2 ⟨h1.tr.trans h2.tr, h2.fr, by rw [h2.sz, h1.sz], by rw [h2.df, h1.df]⟩
          | exit id => simp only [Option.some.injEq, Prod.mk.injEq] at h; obtain ⟨rfl, rfl, rfl⟩ := h; exact hQ a1 w1 β1 h1
          | ret => simp only [Option.some.injEq, Prod.mk.injEq] at h; obtain ⟨rfl, rfl, rfl⟩ := h; exact hQ a1 w1 β1 h1
      · cases hc
    | _ => simp [rcode, SCode.strip] at hc <;> (split at hc <;> simp at hc)
  | cond t x y ihx ihy =>
    intro c hc β σ w F a hok hF hn out F' σ' h Q hQ
    cases c with
    | cond ct cx cy =>
      simp only [rcode, SCode.strip] at hc
      split at hc
      · rename_i x' y' hx hy
        simp only [Option.some.injEq, SCode.cond.injEq] at hc
        obtain ⟨rfl, rfl, rfl⟩ := hc
        simp only [evCode, condOn] at h
        have hv := eval_sound hF ct
        split at h
        · rename_i b hb
          rw [hb] at hv
          have hce : a.eval ct = .bool b := by
            generalize a.eval ct = u at hv
            cases hv; rfl
          cases b with
          | true => exact wp_cond hce (ihx cx hx β σ w F a hok hF hn h hQ)
          | false => exact wp_cond hce (ihy cy hy β σ w F a hok hF hn h hQ)
        · cases h
      · cases hc
    | _ => simp [rcode, SCode.strip] at hc <;> (split at hc <;> simp at hc)
  | block id x ih =>
    intro c hc β σ w F a hok hF hn out F' σ' h Q hQ
    cases c with
    | block id' cx =>
      simp only [rcode, SCode.strip] at hc
      cases hx : rcode P n cx with
      | none => rw [hx] at hc; cases hc
      | some x' =>
        rw [hx] at hc
        simp only [Option.map_some, Option.some.injEq, SCode.block.injEq] at hc
        obtain ⟨rfl, rfl⟩ := hc
        simp only [evCode] at h
        refine wp_block ?_
        cases hx1 : evCode C x F σ with
        | none => rw [hx1] at h; cases h
        | some r =>
          obtain ⟨o1, F1, σ1⟩ := r
          rw [hx1] at h
          refine ih cx hx β σ w F a hok hF hn hx1 fun a1 w1 β1 h1 => ?_
          cases o1 with
          | normal => simp only [Option.some.injEq, Prod.mk.injEq] at h; obtain ⟨rfl, rfl, rfl⟩ := h; exact hQ a1 w1 β1 h1
          | exit id =>
            simp only at h
            simp only [exitOf, Exit.inBlock]
            split at h
            · rename_i e
              simp only [Option.some.injEq, Prod.mk.injEq] at h
              obtain ⟨rfl, rfl, rfl⟩ := h
              rw [if_pos e]; exact hQ a1 w1 β1 h1
            · rename_i e
              simp only [Option.some.injEq, Prod.mk.injEq] at h
              obtain ⟨rfl, rfl, rfl⟩ := h
              rw [if_neg e]; exact hQ a1 w1 β1 h1
          | ret => simp only [Option.some.injEq, Prod.mk.injEq] at h; obtain ⟨rfl, rfl, rfl⟩ := h; exact hQ a1 w1 β1 h1
    | _ => simp [rcode, SCode.strip] at hc <;> (split at hc <;> simp at hc)
  | loop x ih =>
    intro c hc β σ w F a hok hF hn out F' σ' h Q hQ
    cases c with
    | loop cx =>
      simp only [rcode, SCode.strip] at hc
      cases hx : rcode P n cx with
      | none => rw [hx] at hc; cases hc
      | some x' =>
        rw [hx] at hc
        simp only [Option.map_some, Option.some.injEq, SCode.loop.injEq] at hc
        subst hc
        simp only [evCode] at h
        obtain ⟨m, hm'⟩ := iter_of_while h
        intro b k cs
        have key : ∀ (m : Nat) (β1 : Inj) (σ1 : Heap) (w1 : World) (F1 : Frame) (a1 : Act), At β σ w β1 σ1 w1 F1 a a1 → iter (evCode C x) m F1 σ1 = some (out, F', σ') →
            ∃ e a' w', Q e a' w' ∧ Arrives P (lone (b.at a1 (.code cx :: .inLoop cx :: k)) cs w1) b k cs e a' w' := by
          intro m
          induction m with
          | zero => intro _ _ _ _ _ _ h; cases h
          | succ m ihm =>
            intro β1 σ1 w1 F1 a1 h1 hi
            simp only [iter] at hi
            cases hb : evCode C x F1 σ1 with
            | none => rw [hb] at hi; cases hi
            | some r =>
              obtain ⟨o1, F2, σ2⟩ := r
              rw [hb] at hi
              obtain ⟨e, a2, w2, ⟨he, β2, h2⟩, harr⟩ := ih cx hx β1 σ1 w1 F1 a1 h1.tr.ok h1.fr (by rw [h1.sz, hn]) hb (Q := fun e a2 w2 => e = exitOf o1 ∧ ∃ β2, At β1 σ1 w1 β2 σ2 w2 F2 a1 a2) (fun a2 w2 β2 h2 => ⟨rfl, β2, h2⟩) b (.inLoop cx :: k) cs
              have h12 : At β σ w β2 σ2 w2 F2 a a2 := ⟨h1.tr.trans h2.tr, h2.fr, by rw [h2.sz, h1.sz], by rw [h2.df, h1.df]⟩
              subst he
              cases o1 with
              | normal =>
                simp only at hi
                obtain ⟨e, a', w', hq, harr2⟩ := ihm β2 σ2 w2 F2 a2 h12 hi
                exact ⟨e, a', w', hq, .of_steps (Steps.trans harr (.one step_inLoop)) harr2⟩
              | exit id =>
                simp only [Option.some.injEq, Prod.mk.injEq] at hi
                obtain ⟨rfl, rfl, rfl⟩ := hi
                exact ⟨_, a2, w2, hQ a2 w2 β2 h12, .pass (x := .inLoop cx) rfl (fun _ _ => .inl (by simp [exitOf])) harr⟩
              | ret =>
                simp only [Option.some.injEq, Prod.mk.injEq] at hi
                obtain ⟨rfl, rfl, rfl⟩ := hi
                exact ⟨_, a2, w2, hQ a2 w2 β2 h12, .pass (x := .inLoop cx) rfl (fun _ _ => .inl (by simp [exitOf])) harr⟩
        obtain ⟨e, a', w', hq, harr⟩ := key m β σ w F a ⟨Trans.refl hok, hF, rfl, rfl⟩ hm'
        exact ⟨e, a', w', hq, .of_steps (.one step_loop) harr⟩
    | _ => simp [rcode, SCode.strip] at hc <;> (split at hc <;> simp at hc)
  | exit id =>
    intro c hc β σ w F a hok hF hn out F' σ' h Q hQ
    simp [evCode] at h
    obtain ⟨rfl, rfl, rfl⟩ := h
    cases c with
    | exit id' =>
      simp [rcode, SCode.strip] at hc
      subst hc
      exact wp_exit (hQ a w β ⟨Trans.refl hok, hF, rfl, rfl⟩)
    | _ => simp [rcode, SCode.strip] at hc <;> (split at hc <;> simp at hc)
  | ret =>
    intro c hc β σ w F a hok hF hn out F' σ' h Q hQ
    simp [evCode] at h
    obtain ⟨rfl, rfl, rfl⟩ := h
    cases c with
    | ret => exact wp_ret (hQ a w β ⟨Trans.refl hok, hF, rfl, rfl⟩)
    | _ => simp [rcode, SCode.strip] at hc <;> (split at hc <;> simp at hc)
  | kp K x ih =>
    intro c hc β σ w F a hok hF hn out F' σ' h Q hQ
    exact ih c hc β σ w (fkeep K F) a hok (hF.keep K) hn h hQ

end
end Go.Abs
