/- The abstract machine: functions and their contracts. Conditions: the contracts that are used hold; the program follows the mixed orders. -/
import Derived.Test.YtnibmlgdnhiglaaWvC1
namespace Go.Abs

section
variable {P : Program} {C : Ctab}

theorem argFrame_get : ∀ (args : List Value) (n t : Nat), fget (argFrame n args) t = if n ≤ t then (args[t - n]?).getD dead else dead
  | [], n, t => by simp [argFrame, fget]
  | v :: vs, n, t => by
    simp only [argFrame, fget]
    by_cases h : n = t
    · subst h; simp [Nat.beq_refl]
    · have : Nat.beq n t = false := by
        cases hb : Nat.beq n t with
        | false => rfl
        | true => exact absurd (Nat.eq_of_beq_eq_true hb) h
      rw [this]
      simp only [cond_false]
      rw [argFrame_get vs (n + 1) t]
      by_cases h2 : n + 1 ≤ t
      · rw [if_pos h2, if_pos (by omega)]
        rw [show t - n = (t - (n + 1)) + 1 by omega]
        rfl
      · rw [if_neg h2, if_neg (by omega)]

theorem args_ok {β : Inj} {σ : Heap} {args : List Value} {cargs : Array Value} (h : LRel β σ args cargs.toList) (m : Nat) : FOk β σ (argFrame 0 args) (cargs ++ Array.replicate (m - cargs.size) undef) := by
  intro t
  rw [argFrame_get, if_pos (Nat.zero_le _), Nat.sub_zero]
  cases hv : args[t]? with
  | none => exact .dead _
  | some v =>
    obtain ⟨c, hc, hr⟩ := lrel_get h hv
    have hlt : t < cargs.size := by
      rcases Nat.lt_or_ge t cargs.size with h' | h'
      · exact h'
      · rw [List.getElem?_eq_none (by simpa using h')] at hc; cases hc
    have hc' : cargs[t]? = some c := by simpa using hc
    rw [Array.getD_eq_getD_getElem?, Array.getElem?_append_left hlt, hc']
    exact hr

/-- A result as the model takes it. -/
def resSem (tmps : Array Value) : ResultVar → Sem Value
  | .tmp t => pure (tmps.getD t undef)
  | .cell a t => do loadVar t (← asAddr (tmps.getD a undef))

theorem results_eq (fn : Func) (tmps : Array Value) : results fn tmps = (do
    let vs ← fn.results.mapM (resSem tmps)
    pure (if h : vs.size = 1 then vs[0] else .tuple vs)) := by
  unfold results
  congr 1

theorem run_resTmp (tmps : Array Value) (t : Nat) (w : World) : (resSem tmps (.tmp t)).run P w = .ok (tmps.getD t undef) w := rfl

theorem run_resCell {tmps : Array Value} {a : Nat} {t : TypeId} {q : Addr} {u : Value} {w : World} (hq : tmps.getD a undef = .pointer (some q)) (h : (Instr.loadAt t (.pointer (some q))).run P w = .ok u w) : (resSem tmps (.cell a t)).run P w = .ok u w := by
  have hu' : (loadVar t q).run P w = .ok u w := by simpa [Instr.loadAt, Instr.sureAddr] using h
  show (do loadVar t (← asAddr (tmps.getD a undef)) : Sem Value).run P w = _
  rw [hq]
  simp only [Sem.run_bind, asAddr, Sem.run_pure, Result.andThen_ok, hu']

theorem resVal_sound {β : Inj} {σ : Heap} {w : World} {F : Frame} {tmps : Array Value} (hok : InjOk β σ w) (hF : FOk β σ F tmps) : ∀ {rs : List ResultVar} {ss : List SRes}, rRes P rs = some ss → ∀ {vs : List Value}, resVals F σ ss = some vs →
    ∃ cs : List Value, (rs.mapM (resSem tmps)).run P w = .ok cs w ∧ LRel β σ vs cs
  | [], ss, h, vs, hv => by
    simp [rRes] at h; subst h
    simp [resVals] at hv; subst hv
    exact ⟨[], by simp, rfl, fun i v c hv => by simp at hv⟩
  | .tmp t :: rs, ss, h, vs, hv => by
    simp only [rRes] at h
    cases hr : rRes P rs with
    | none => rw [hr] at h; cases h
    | some l =>
      rw [hr] at h; cases h
      simp only [resVals, resVal, Option.bind_some] at hv
      cases hvs : resVals F σ l with
      | none => rw [hvs] at hv; cases hv
      | some l' =>
        rw [hvs] at hv; cases hv
        obtain ⟨cs, h1, h2⟩ := resVal_sound hok hF hr hvs
        refine ⟨tmps.getD t undef :: cs, by simp only [List.mapM_cons, Sem.run_bind, run_resTmp, Result.andThen_ok, h1, Sem.run_pure], by simp [h2.1], fun i v c hv hc => ?_⟩
        cases i with
        | zero => simp at hv hc; subst hv; subst hc; have := hF t; simpa using this
        | succ i => exact h2.2 i v c (by simpa using hv) (by simpa using hc)
  | .cell a t :: rs, ss, h, vs, hv => by
    have hload : ∀ {p v c : Value}, VRel β σ p c → (∃ q, p = .pointer (some q)) → ∃ q, c = .pointer (some q) := by
      rintro p v c hr ⟨q, rfl⟩
      cases hr with
      | ptr a obj hσ c hk h => exact ⟨c, rfl⟩
    simp only [rRes] at h
    split at h
    · rename_i n hag hn
      cases hr : rRes P rs with
      | none => rw [hr] at h; cases h
      | some l =>
        rw [hr] at h; cases h
        simp only [resVals, resVal] at hv
        cases hl : aLoadN σ n (fget F a) with
        | none => rw [hl] at hv; cases hv
        | some u =>
          rw [hl] at hv
          simp only [Option.bind_some] at hv
          cases hvs : resVals F σ l with
          | none => rw [hvs] at hv; cases hv
          | some l' =>
            rw [hvs] at hv; cases hv
            obtain ⟨cs, h1, h2⟩ := resVal_sound hok hF hr hvs
            obtain ⟨uc, hu, hrel⟩ := loadN_sound (P := P) hok hag hn hl (hF a)
            have hp : ∃ q, fget F a = .pointer (some q) := by
              unfold aLoadN at hl
              split at hl
              · rename_i q hq; exact ⟨q, hq⟩
              · cases hl
            obtain ⟨q, hq⟩ := hload (v := undef) (hF a) hp
            rw [hq] at hu
            refine ⟨uc :: cs, ?_, by simp [h2.1], fun i v c hv hc => ?_⟩
            · simp only [List.mapM_cons, Sem.run_bind, run_resCell hq hu, Sem.run_pure, Result.andThen_ok, h1]
            · cases i with
              | zero => simp at hv hc; subst hv; subst hc; exact hrel
              | succ i => exact h2.2 i v c (by simpa using hv) (by simpa using hc)
    · rename_i hag
      cases hr : rRes P rs with
      | none => rw [hr] at h; cases h
      | some l =>
        rw [hr] at h; cases h
        simp only [resVals, resVal] at hv
        cases hl : aLoad1 σ (fget F a) with
        | none => rw [hl] at hv; cases hv
        | some u =>
          rw [hl] at hv
          simp only [Option.bind_some] at hv
          cases hvs : resVals F σ l with
          | none => rw [hvs] at hv; cases hv
          | some l' =>
            rw [hvs] at hv; cases hv
            obtain ⟨cs, h1, h2⟩ := resVal_sound hok hF hr hvs
            obtain ⟨uc, hu, hrel⟩ := load1_sound (P := P) hok hag hl (hF a)
            have hp : ∃ q, fget F a = .pointer (some q) := by
              unfold aLoad1 at hl
              split at hl
              · rename_i q hq; exact ⟨q, hq⟩
              · cases hl
            obtain ⟨q, hq⟩ := hload (v := undef) (hF a) hp
            rw [hq] at hu
            refine ⟨uc :: cs, ?_, by simp [h2.1], fun i v c hv hc => ?_⟩
            · simp only [List.mapM_cons, Sem.run_bind, run_resCell hq hu, Sem.run_pure, Result.andThen_ok, h1]
            · cases i with
              | zero => simp at hv hc; subst hv; subst hc; exact hrel
              | succ i => exact h2.2 i v c (by simpa using hv) (by simpa using hc)
    · cases h

theorem resOf_vals {F : Frame} {σ : Heap} {ss : List SRes} {v : Value} (h : resOf F σ ss = some v) : ∃ vs, resVals F σ ss = some vs ∧ ((∃ u, vs = [u] ∧ v = u) ∨ (vs.length ≠ 1 ∧ v = .tuple vs.toArray)) := by
  have hlen : ∀ {l : List SRes} {us : List Value}, resVals F σ l = some us → us.length = l.length := by
    intro l
    induction l with
    | nil => intro us h; simp [resVals] at h; subst h; rfl
    | cons x l ih =>
      intro us h
      simp only [resVals] at h
      cases hx : resVal F σ x with
      | none => rw [hx] at h; cases h
      | some y =>
        rw [hx] at h
        simp only [Option.bind_some] at h
        cases hy : resVals F σ l with
        | none => rw [hy] at h; cases h
        | some z => rw [hy] at h; cases h; simp [ih hy]
  unfold resOf at h
  split at h
  · rename_i r
    exact ⟨[v], by simp [resVals, h], .inl ⟨v, rfl, rfl⟩⟩
  · rename_i hne
    cases hv : resVals F σ ss with
    | none => rw [hv] at h; cases h
    | some vs =>
      rw [hv] at h; cases h
      refine ⟨vs, rfl, .inr ⟨?_, rfl⟩⟩
      rw [hlen hv]
      intro h1
      match ss, h1 with
      | [r], _ => exact hne r rfl

theorem results_sound {β : Inj} {σ : Heap} {w : World} {F : Frame} {tmps : Array Value} (hok : InjOk β σ w) (hF : FOk β σ F tmps) {fn : Func} {ss : List SRes} (hr : rRes P fn.results.toList = some ss) {v : Value} (h : resOf F σ ss = some v) :
    ∃ c, (results fn tmps).run P w = .ok c w ∧ VRel β σ v c := by
  obtain ⟨vs, hvs, hcase⟩ := resOf_vals h
  obtain ⟨cs, h1, h2⟩ := resVal_sound hok hF hr hvs
  rw [results_eq]
  have hm : (fn.results.mapM (resSem tmps)).run P w = .ok cs.toArray w := by
    rw [Array.mapM_eq_mapM_toList]
    simp only [Sem.run_map, h1, Result.andThen_ok]
  rcases hcase with ⟨u, rfl, rfl⟩ | ⟨hne, rfl⟩
  · have hl : cs.length = 1 := by have := h2.1; simpa using this.symm
    match cs, hl with
    | [c], _ =>
      refine ⟨c, ?_, h2.2 0 v c (by simp) (by simp)⟩
      simp only [Sem.run_bind, hm, Result.andThen_ok]
      simp
  · have hl : cs.length ≠ 1 := by rw [← h2.1]; exact hne
    refine ⟨.tuple cs.toArray, ?_, .tuple _ _ (by simpa using h2.1) fun i v v' hv hv' => h2.2 i v v' (by simpa using hv) (by simpa using hv')⟩
    simp only [Sem.run_bind, hm, Result.andThen_ok]
    simp [hl]

/-- A whole call. -/
theorem evFn_sound (hm : P.follows .mixedOrders = true) (hC : CtabOk P C) {f : FuncId} {fn : Func} {S : SFunc} (hf : P.funcs[f]? = some fn) (hS : resolveFn P fn = some S.strip) {args : List Value} {σ : Heap} {v : Value} {σ' : Heap} (hn : args.length ≤ S.ntmps)
    (h : evFn C S args σ = some (v, σ')) {β : Inj} {w : World} {cargs : Array Value} (hok : InjOk β σ w) (ha : LRel β σ args cargs.toList) : Calls P f cargs w (fun e w' => ∃ c, e = .returned c ∧ Good β σ w v σ' c w') := by
  unfold resolveFn at hS
  split at hS
  · rename_i c hb
    split at hS
    · rename_i b rs hc hr
      simp only [Option.some.injEq, SFunc.strip, SFunc.mk.injEq] at hS
      obtain ⟨h1, rfl, rfl⟩ := hS
      have hcs : cargs.size = args.length := by have := ha.1; simpa using this.symm
      have hF := args_ok ha fn.ntmps
      have hsz : (cargs ++ Array.replicate (fn.ntmps - cargs.size) undef).size = fn.ntmps := by simp; omega
      refine calls_of_wp hf hb ?_
      unfold evFn at h
      split at h
      · rename_i F σ2 he
        cases hv : resOf F σ2 S.results with
        | none => rw [hv] at h; cases h
        | some u =>
          rw [hv] at h; cases h
          refine evCode_sound hm hC S.body c (by rw [hc]) β σ w _ _ hok hF hsz he fun a' w' β' hat => ?_
          obtain ⟨cv, hrun, hrel⟩ := results_sound hat.tr.ok hat.fr hr hv
          exact ⟨hat.df, cv, hrun, cv, rfl, β', hat.tr, hrel⟩
      · rename_i F σ2 he
        cases hv : resOf F σ2 S.results with
        | none => rw [hv] at h; cases h
        | some u =>
          rw [hv] at h; cases h
          refine evCode_sound hm hC S.body c (by rw [hc]) β σ w _ _ hok hF hsz he fun a' w' β' hat => ?_
          obtain ⟨cv, hrun, hrel⟩ := results_sound hat.tr.ok hat.fr hr hv
          exact ⟨hat.df, cv, hrun, cv, rfl, β', hat.tr, hrel⟩
      · cases h
    · cases hS
  · cases hS

end
end Go.Abs
