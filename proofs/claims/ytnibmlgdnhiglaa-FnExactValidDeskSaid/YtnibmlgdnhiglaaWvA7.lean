/- The abstract machine: each operation that touches no memory, as the model runs it. No condition. -/
import Derived.Test.YtnibmlgdnhiglaaWvA6
namespace Go.Abs

def Does (P : Program) (r : Result Next) (R : Value → World → Prop) : Prop :=
  (∃ c w', r = .ok (.value c) w' ∧ R c w') ∨ (∃ w', r = .ok .skip w' ∧ R undef w') ∨
  (∃ f args w', r = .ok (.enter f args) w' ∧ Calls P f args w' (fun e w'' => ∃ c, e = .returned c ∧ R c w''))

theorem Does.wp {P : Program} {o : Oper} {a : Act} {w : World} {R : Value → World → Prop} {next : Act → World → Prop} {Q : Exit → Act → World → Prop}
    (h : Does P ((execOp a.eval o).run P w) R) (hn : ∀ c w', R c w' → next (a.put o.dst c) w') : o.wp P a w next Q := by
  unfold Oper.wp
  rcases h with ⟨c, w', h, hr⟩ | ⟨w', h, hr⟩ | ⟨f, args, w', h, hr⟩
  · rw [h]; exact hn _ _ hr
  · rw [h]; exact hn _ _ hr
  · rw [h]
    refine hr.mono fun e w'' he => ?_
    obtain ⟨c, rfl, hr⟩ := he
    exact hn _ _ hr

/-- What an operation of the abstract machine asks of the model's. -/
def Good (β : Inj) (σ : Heap) (w : World) (v : Value) (σ' : Heap) : Value → World → Prop := fun c w' => ∃ β', Trans β σ w β' σ' w' ∧ VRel β' σ' v c

theorem Does.pure_ {P : Program} {β : Inj} {σ : Heap} {w w' : World} {v c : Value} {r : Result Next} (hok : InjOk β σ w) (h : r = .ok (.value c) w') (hv : VRel β σ v c) (hd : Drew w w') : Does P r (Good β σ w v σ) :=
  .inl ⟨c, w', h, β, hd.trans_ hok, hv⟩

section
variable {P : Program} {β : Inj} {σ : Heap} {w : World} {o : Oper} {F : Frame} {a : Act} {v : Value}

theorem does_mov (hok : InjOk β σ w) (hF : FOk β σ F a.tmps) {x : Operand} (ho : o.op = .move x ∨ o.op = .assign x) : Does P ((execOp a.eval o).run P w) (Good β σ w (eval F x) σ) := by
  refine .pure_ (c := a.eval x) (w' := w) hok ?_ (eval_sound hF x) (.inl rfl)
  rcases ho with ho | ho <;> simp [execOp, ho]

theorem does_pick (hok : InjOk β σ w) (hF : FOk β σ F a.tmps) {c x y : Operand} (ho : o.op = .pick c x y) (h : aPick (eval F c) (eval F x) (eval F y) = some v) : Does P ((execOp a.eval o).run P w) (Good β σ w v σ) := by
  have hc := eval_sound hF c
  unfold aPick at h
  split at h
  · rename_i t he
    rw [he] at hc
    cases h
    have hce : a.eval c = .bool t := by
      generalize a.eval c = u at hc
      cases hc; rfl
    refine .pure_ (c := if t then a.eval x else a.eval y) (w' := w) hok ?_ ?_ (.inl rfl)
    · simp [execOp, ho, hce, asBool]
    · cases t
      · exact eval_sound hF y
      · exact eval_sound hF x
  · cases h

theorem does_nilCheck (hok : InjOk β σ w) (hF : FOk β σ F a.tmps) {x : Operand} (ho : o.op = .nilCheck x) (h : aNilCheck (eval F x) = some v) : Does P ((execOp a.eval o).run P w) (Good β σ w v σ) := by
  have hx := eval_sound hF x
  unfold aNilCheck at h
  split at h
  · rename_i p he
    cases h
    rw [he] at hx
    generalize hcx : a.eval x = cx at hx
    cases hx with
    | ptr a' obj hσ c hk hh =>
      exact .pure_ (c := .pointer (some c)) (w' := w) hok (by simp [execOp, ho, hcx]) (.ptr _ obj hσ c hk hh) (.inl rfl)
  · rename_i f p q he
    cases h
    rw [he] at hx
    generalize hcx : a.eval x = cx at hx
    cases hx with
    | func f x y x' y' hx hy h1 h2 =>
      exact .pure_ (c := .func (.func _) x' y') (w' := w) hok (by simp [execOp, ho, hcx]) (.func _ _ _ _ _ hx hy h1 h2) (.inl rfl)
  · cases h

theorem run_eqGuard_none (op : BinOp) (t : TypeId) (X Y : Operand) (cx cy : Value) (h : ((isConst X || isConst Y) = true ∨ ¬ (cx = .nilIface ∧ cy = .nilIface)) ∧ (∀ a b, ¬ (cx = .agg a ∧ cy = .agg b))) :
    (eqGuard op t X Y cx cy).run P w = .ok () w := by
  obtain ⟨h1, h2⟩ := h
  unfold eqGuard
  cases op <;> first | rfl | skip
  all_goals
    simp only [Bool.not_true, Bool.false_eq_true, if_false]
    split
    · rcases h1 with h1 | h1
      · rw [if_pos (by cases X <;> cases Y <;> first | rfl | exact Bool.noConfusion h1)]
        rfl
      · simp at h1
    · simp at h2
    · rfl

theorem aBin_num {op : BinOp} {ek : EqK} {x y : Value} (h : aBin op ek x y = some v) :
    (∃ k a j b, x = .int k a ∧ y = .int j b ∧ ((op = .shl ∧ 0 ≤ b ∧ v = .int k (k.wrap (a * 2 ^ (min b.toNat k.bits)))) ∨ (op = .shr ∧ 0 ≤ b ∧ v = .int k (a.fdiv (2 ^ (min b.toNat k.bits)))) ∨ (j = k ∧ iArith op k a b = some v))) ∨
    (∃ k a b, x = .float k a ∧ y = .float k b ∧ fArith op k a b = some v) ∨ (∃ a b, x = .string a ∧ y = .string b ∧ sArith op a b = some v) ∨
    (op = .eql ∧ ∃ b, aEql ek x y = some b ∧ v = .bool b) ∨ (op = .neq ∧ ∃ b, aEql ek x y = some b ∧ v = .bool (!b)) := by
  unfold aBin at h
  split at h
  · split at h
    · cases h
    · cases h; exact .inl ⟨_, _, _, _, rfl, rfl, .inl ⟨rfl, by omega, rfl⟩⟩
  · split at h
    · cases h
    · cases h; exact .inl ⟨_, _, _, _, rfl, rfl, .inr (.inl ⟨rfl, by omega, rfl⟩)⟩
  · split at h
    · rename_i e; subst e; exact .inl ⟨_, _, _, _, rfl, rfl, .inr (.inr ⟨rfl, h⟩)⟩
    · cases h
  · split at h
    · rename_i e; subst e; exact .inr (.inl ⟨_, _, _, rfl, rfl, h⟩)
    · cases h
  · exact .inr (.inr (.inl ⟨_, _, rfl, rfl, h⟩))
  · cases hb : aEql ek x y with
    | none => rw [hb] at h; cases h
    | some b => rw [hb] at h; cases h; exact .inr (.inr (.inr (.inl ⟨rfl, b, rfl, rfl⟩)))
  · cases hb : aEql ek x y with
    | none => rw [hb] at h; cases h
    | some b => rw [hb] at h; cases h; exact .inr (.inr (.inr (.inr ⟨rfl, b, rfl, rfl⟩)))
  · cases h

theorem bin_sound {op : BinOp} {t : TypeId} {X Y : Operand} {x y cx cy : Value} (h : aBin op (eqk2 P t X Y) x y = some v) (h1 : VRel β σ x cx) (h2 : VRel β σ y cy) :
    ∃ c w', (do eqGuard op t X Y cx cy; binOp op t cx cy : Sem Value).run P w = .ok c w' ∧ VRel β σ v c ∧ Drew w w' := by
  rcases aBin_num h with ⟨k, a, j, b, rfl, rfl, hk⟩ | ⟨k, a, b, rfl, rfl, hk⟩ | ⟨a, b, rfl, rfl, hk⟩ | ⟨rfl, b, hb, rfl⟩ | ⟨rfl, b, hb, rfl⟩
  · cases h1; cases h2
    have hg := run_eqGuard_none (P := P) (w := w) op t X Y (.int k a) (.int j b) ⟨.inr (by simp), by simp⟩
    rcases hk with ⟨rfl, hb, rfl⟩ | ⟨rfl, hb, rfl⟩ | ⟨rfl, hk⟩
    · exact ⟨_, w, by simp [hg, binOp, Op.shift, show ¬ b < 0 by omega], .int _ _, .inl rfl⟩
    · exact ⟨_, w, by simp [hg, binOp, Op.shift, show ¬ b < 0 by omega], .int _ _, .inl rfl⟩
    · refine ⟨v, w, by simp [hg, iArith_sound hk t], ?_, .inl rfl⟩
      cases op <;> simp only [iArith] at hk <;> first | (cases hk; first | exact .int _ _ | exact .bool _) | (split at hk <;> first | (cases hk; done) | (cases hk; exact .int _ _)) | cases hk
  · cases h1 with
    | float f1 =>
      cases h2 with
      | float f2 =>
        obtain ⟨c, w', hr, hv, hd⟩ := fArith_sound (P := P) (β := β) (σ := σ) (w := w) f1 f2 hk t
        rename_i b1 b2
        have hg := run_eqGuard_none (P := P) (w := w) op t X Y (.float k b1) (.float k b2) ⟨.inr (by simp), by simp⟩
        exact ⟨c, w', by simp only [Sem.run_bind, hg, Result.andThen_ok]; exact hr, hv, hd⟩
  · cases h1; cases h2
    have hg := run_eqGuard_none (P := P) (w := w) op t X Y (.string a) (.string b) ⟨.inr (by simp), by simp⟩
    refine ⟨v, w, by simp only [Sem.run_bind, hg, Result.andThen_ok]; exact sArith_sound hk t, ?_, .inl rfl⟩
    cases op <;> simp only [sArith] at hk <;> first | (cases hk; exact .bool _) | (split at hk <;> first | (cases hk; done) | (cases hk; exact .string _)) | cases hk
  · obtain ⟨he, hc, hn⟩ := aEql_sound (w := w) hb h1 h2
    have hg := run_eqGuard_none (P := P) (w := w) .eql t X Y cx cy ⟨hc, hn.1⟩
    refine ⟨.bool b, w, ?_, .bool _, .inl rfl⟩
    simp only [Sem.run_bind, hg, Result.andThen_ok]
    unfold binOp
    split <;> first | (simp [he]; done) | skip
    all_goals (rename_i q; first | exact absurd ⟨rfl, rfl⟩ (hn.2.1 _ _ _ _) | exact absurd ⟨rfl, rfl⟩ (hn.2.2.1 _ _ _ _) | exact absurd ⟨rfl, rfl⟩ (hn.2.2.2.1 _ _ _ _ _ _) | exact absurd ⟨rfl, rfl⟩ (hn.2.2.2.2 _ _) | cases q | simp_all)
  · obtain ⟨he, hc, hn⟩ := aEql_sound (w := w) hb h1 h2
    have hg := run_eqGuard_none (P := P) (w := w) .neq t X Y cx cy ⟨hc, hn.1⟩
    refine ⟨.bool (!b), w, ?_, .bool _, .inl rfl⟩
    simp only [Sem.run_bind, hg, Result.andThen_ok]
    unfold binOp
    split <;> first | (simp [he]; done) | skip
    all_goals (rename_i q; first | exact absurd ⟨rfl, rfl⟩ (hn.2.1 _ _ _ _) | exact absurd ⟨rfl, rfl⟩ (hn.2.2.1 _ _ _ _) | exact absurd ⟨rfl, rfl⟩ (hn.2.2.2.1 _ _ _ _ _ _) | exact absurd ⟨rfl, rfl⟩ (hn.2.2.2.2 _ _) | cases q | simp_all)

theorem does_bin (hok : InjOk β σ w) (hF : FOk β σ F a.tmps) {op : BinOp} {t u : TypeId} {x y : Operand} (ho : o.op = .binOp op t x y u) (h : aBin op (eqk2 P t x y) (eval F x) (eval F y) = some v) :
    Does P ((execOp a.eval o).run P w) (Good β σ w v σ) := by
  obtain ⟨c, w', hr, hv, hd⟩ := bin_sound (w := w) h (eval_sound hF x) (eval_sound hF y)
  refine .pure_ (c := c) (w' := w') hok ?_ hv hd
  simp only [execOp, ho, Sem.run_bind, hr, Result.andThen_ok, Sem.run_pure]

end
end Go.Abs
