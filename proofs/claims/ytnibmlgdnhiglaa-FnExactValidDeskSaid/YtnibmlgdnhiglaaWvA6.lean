/- The abstract machine: operations that touch no memory stand for the model's. No condition. -/
import Derived.Test.YtnibmlgdnhiglaaWvA5
namespace Go.Abs

/-! ### Numbers -/

theorem decode_nan {k : FloatKind} {b : Nat} (h : isNaN k b = true) : ∃ s t, k.decode b = .nan s t := by
  unfold isNaN at h
  cases hd : k.decode b with
  | nan s t => exact ⟨s, t, rfl⟩
  | _ => rw [hd] at h; simp [Ieee.Datum.isNaN] at h

theorem floatBits_nan_left {op : BinOp} {k : FloatKind} {x y : Nat} (h : isNaN k x = true) : floatBits op k x y = none := by
  obtain ⟨s, t, hd⟩ := decode_nan h
  have hd' : k.format.read x = .nan s t := hd
  unfold floatBits
  cases op <;> simp [Ieee.Format.add, Ieee.Format.sub, Ieee.Format.mul, Ieee.Format.div, hd', Ieee.Datum.sum, Ieee.Datum.product, Ieee.Datum.quotient]

theorem floatBits_nan_right {op : BinOp} {k : FloatKind} {x y : Nat} (h : isNaN k y = true) : floatBits op k x y = none := by
  obtain ⟨s, t, hd⟩ := decode_nan h
  have hd' : k.format.read y = .nan s t := hd
  unfold floatBits
  cases op <;> simp only [Ieee.Format.add, Ieee.Format.sub, Ieee.Format.mul, Ieee.Format.div, hd', Ieee.Datum.opposite] <;>
    cases k.format.read x <;> simp [Ieee.Datum.sum, Ieee.Datum.product, Ieee.Datum.quotient]

theorem order_nan {k : FloatKind} {x y : Nat} (h : isNaN k x = true ∨ isNaN k y = true) : k.format.order x y = none := by
  rcases h with h | h
  · obtain ⟨s, t, hd⟩ := decode_nan h
    have hd' : k.format.read x = .nan s t := hd
    simp [Ieee.Format.order, hd', Ieee.Datum.order]
  · obtain ⟨s, t, hd⟩ := decode_nan h
    have hd' : k.format.read y = .nan s t := hd
    simp only [Ieee.Format.order, hd']
    cases k.format.read x <;> simp [Ieee.Datum.order]

theorem order_rel {k : FloatKind} {a b a' b' : Nat} (h1 : FRel k a a') (h2 : FRel k b b') : k.format.order a b = k.format.order a' b' := by
  rcases h1 with rfl | ⟨h1, h1'⟩
  · rcases h2 with rfl | ⟨h2, h2'⟩
    · rfl
    · rw [order_nan (.inr h2), order_nan (.inr h2')]
  · rw [order_nan (.inl h1), order_nan (.inl h1')]

theorem floatBits_rel {op : BinOp} {k : FloatKind} {a b a' b' : Nat} (h1 : FRel k a a') (h2 : FRel k b b') : floatBits op k a b = floatBits op k a' b' := by
  rcases h1 with rfl | ⟨h1, h1'⟩
  · rcases h2 with rfl | ⟨h2, h2'⟩
    · rfl
    · rw [floatBits_nan_right h2, floatBits_nan_right h2']
  · rw [floatBits_nan_left h1, floatBits_nan_left h1']

theorem isNaN_nanOf (k : FloatKind) : isNaN k (nanOf k) = true := by cases k <;> decide +kernel

theorem cut_nan (k : FloatKind) (x y t : Nat) : isNaN k ((Question.nanBits k x y).cut t) = true := by
  have h23 : (t / 2) % (2 ^ 23 - 1) < 2 ^ 23 - 1 := Nat.mod_lt _ (by decide)
  have h52 : (t / 2) % (2 ^ 52 - 1) < 2 ^ 52 - 1 := Nat.mod_lt _ (by decide)
  have h2 : t % 2 < 2 := Nat.mod_lt _ (by decide)
  cases k
  · simp only [Question.cut]
    generalize (t / 2) % (2 ^ 23 - 1) = m at h23
    generalize t % 2 = s at h2
    have e : s * 2 ^ 31 + 0x7f800000 + 1 + m = s * 2147483648 + (2139095041 + m) := by omega
    unfold isNaN FloatKind.decode FloatKind.format Ieee.Format.read
    have hs : (s * 2 ^ 31 + 0x7f800000 + 1 + m) % Ieee.single.signWeight = 2139095041 + m := by
      have : Ieee.single.signWeight = 2147483648 := rfl
      rw [this]; omega
    simp only [hs]
    have b1 : Ieee.single.binade = 8388608 := rfl
    have b2 : Ieee.single.infRung = 2139095040 := rfl
    rw [b1, b2, if_neg (by omega), if_neg (by omega), if_neg (by omega)]
    rfl
  · simp only [Question.cut]
    generalize (t / 2) % (2 ^ 52 - 1) = m at h52
    generalize t % 2 = s at h2
    unfold isNaN FloatKind.decode FloatKind.format Ieee.Format.read
    have hs : (s * 2 ^ 63 + 0x7ff0000000000000 + 1 + m) % Ieee.double.signWeight = 9218868437227405313 + m := by
      have : Ieee.double.signWeight = 9223372036854775808 := rfl
      rw [this]; omega
    simp only [hs]
    have b1 : Ieee.double.binade = 4503599627370496 := rfl
    have b2 : Ieee.double.infRung = 9218868437227405312 := rfl
    rw [b1, b2, if_neg (by omega), if_neg (by omega), if_neg (by omega)]
    rfl

theorem cut_nanConv (k : FloatKind) (x t : Nat) : isNaN k ((Question.nanConv k x).cut t) = true := by
  have := cut_nan k x x t
  cases k <;> exact this

theorem neg_nan {k : FloatKind} {b : Nat} (hb : isNaN k b = true) : isNaN k (Op.negFloat k b) = true := by
  have key : ∀ n b : Nat, (b ^^^ 2 ^ n) % 2 ^ n = b % 2 ^ n := fun n b => by
    rw [Nat.xor_mod_two_pow, Nat.mod_self, Nat.xor_zero]
  unfold isNaN FloatKind.decode FloatKind.format Ieee.Format.read at *
  cases k
  · have e : (Op.negFloat .f32 b) % Ieee.single.signWeight = b % Ieee.single.signWeight := key 31 b
    dsimp only at *
    rw [e]
    split at hb
    · simp [Ieee.Datum.isNaN] at hb
    · rename_i h1
      rw [if_neg h1]
      split at hb
      · simp [Ieee.Datum.isNaN] at hb
      · rename_i h2
        rw [if_neg h2]
        split at hb
        · simp [Ieee.Datum.isNaN] at hb
        · rename_i h3
          rw [if_neg h3]; rfl
  · have e : (Op.negFloat .f64 b) % Ieee.double.signWeight = b % Ieee.double.signWeight := key 63 b
    dsimp only at *
    rw [e]
    split at hb
    · simp [Ieee.Datum.isNaN] at hb
    · rename_i h1
      rw [if_neg h1]
      split at hb
      · simp [Ieee.Datum.isNaN] at hb
      · rename_i h2
        rw [if_neg h2]
        split at hb
        · simp [Ieee.Datum.isNaN] at hb
        · rename_i h3
          rw [if_neg h3]; rfl

/-- A world as it was, or one answer further. -/
def Drew (w w' : World) : Prop := w' = w ∨ w' = w.drew

theorem Drew.trans_ {β : Inj} {σ : Heap} {w w' : World} (h : InjOk β σ w) (hd : Drew w w') : Trans β σ w β σ w' := by
  rcases hd with rfl | rfl
  · exact Trans.refl h
  · exact Trans.drew h

theorem fArith_sound {P : Program} {β : Inj} {σ : Heap} {w : World} {op : BinOp} {k : FloatKind} {a b a' b' : Nat} {v : Value} (h1 : FRel k a a') (h2 : FRel k b b') (h : fArith op k a b = some v) (t : TypeId) :
    ∃ c w', (binOp op t (.float k a') (.float k b')).run P w = .ok c w' ∧ VRel β σ v c ∧ Drew w w' := by
  have arith : ∀ op, (op = .add ∨ op = .sub ∨ op = .mul ∨ op = .quo) → ∃ c w', (binOp op t (.float k a') (.float k b')).run P w = .ok c w' ∧ VRel β σ (.float k (fbin op k a b)) c ∧ Drew w w' := by
    intro op hop
    have hfb := floatBits_rel (op := op) h1 h2
    cases hr : floatBits op k a' b' with
    | some r =>
      refine ⟨.float k r, w, run_float_arith w op t k a' b' r hr, ?_, .inl rfl⟩
      refine .float (.inl ?_)
      unfold fbin
      rw [hfb, hr]; rfl
    | none =>
      refine ⟨.float k ((Question.nanBits k a' b').cut (w.tape w.drawn (.nanBits k a' b'))), w.drew, ?_, ?_, .inr rfl⟩
      · unfold floatBits at hr
        rcases hop with rfl | rfl | rfl | rfl <;> simp only at hr <;> simp [binOp, Op.floatArith, hr, Question.forced]
      · refine .float (.inr ⟨?_, cut_nan _ _ _ _⟩)
        unfold fbin
        rw [hfb, hr]
        exact isNaN_nanOf k
  have ho := order_rel h1 h2
  cases op <;> simp only [fArith, fcmp] at h <;>
    first
      | (cases h; exact arith _ (by simp))
      | (cases h; refine ⟨_, w, ?_, .bool _, .inl rfl⟩; simp [binOp, Op.floatCmp, ho]; done)
      | (cases h; done)

theorem iArith_sound {P : Program} {w : World} {op : BinOp} {k : IntKind} {a b : Int} {v : Value} (h : iArith op k a b = some v) (t : TypeId) :
    (binOp op t (.int k a) (.int k b)).run P w = .ok v w := by
  cases op <;> simp only [iArith] at h <;>
    first
      | (cases h; simp [binOp, Op.intArith, Op.intBits, Op.intCmp]; done)
      | (split at h
         · cases h
         · rename_i hb; cases h; simp [binOp, Op.intDiv, hb])
      | (cases h; done)

theorem sArith_sound {P : Program} {w : World} {op : BinOp} {a b : ByteArray} {v : Value} (h : sArith op a b = some v) (t : TypeId) :
    (binOp op t (.string a) (.string b)).run P w = .ok v w := by
  have hm : IntKind.i64.max = 9223372036854775807 := rfl
  have hadd : ∀ (hle : a.size + b.size ≤ maxI), (binOp .add t (.string a) (.string b)).run P w = .ok (.string (a ++ b)) w := by
    intro hle
    unfold maxI at hle
    simp [binOp, Op.stringOp, hm]
    omega
  cases op <;> simp only [sArith] at h <;>
    first
      | (cases h; simp [binOp, Op.stringOp]; done)
      | (by_cases hle : a.size + b.size ≤ maxI
         · rw [if_pos hle] at h; cases h; exact hadd hle
         · rw [if_neg hle] at h; cases h)
      | (cases h; done)

theorem equal_of {P : Program} {w : World} {t : TypeId} {cx cy : Value} {b : Bool} (h : ∀ d, (Op.equalIn (d + 1) t cx cy).run P w = .ok b w) : (Op.equal t cx cy).run P w = .ok b w := h 9999

def NoGuard (cx cy : Value) : Prop := (∀ a b, ¬ (cx = .agg a ∧ cy = .agg b)) ∧ (∀ k n j m, ¬ (cx = .int k n ∧ cy = .int j m)) ∧ (∀ k n j m, ¬ (cx = .float k n ∧ cy = .float j m)) ∧
  (∀ k a b j c d, ¬ (cx = .complex k a b ∧ cy = .complex j c d)) ∧ (∀ a b, ¬ (cx = .string a ∧ cy = .string b))

theorem eqk2_eq {P : Program} {t : TypeId} {X Y : Operand} {ek : EqK} (he : eqk2 P t X Y = ek) (hne : ek ≠ .other) : eqkOf P t = ek := by
  unfold eqk2 at he
  split at he
  · rename_i hi
    split at he
    · rw [hi, he]
    · exact absurd he.symm hne
  · exact he

theorem eqk_bool {P : Program} {t : TypeId} (h : eqkOf P t = .bool) : P.underlying t = some .bool := by unfold eqkOf at h; split at h <;> first | assumption | cases h
theorem eqk_slice {P : Program} {t : TypeId} (h : eqkOf P t = .slice) : ∃ e, P.underlying t = some (.slice e) := by unfold eqkOf at h; split at h <;> first | exact ⟨_, by assumption⟩ | cases h
theorem eqk_iface {P : Program} {t : TypeId} (h : eqkOf P t = .iface) : ∃ e, P.underlying t = some (.interface e) := by unfold eqkOf at h; split at h <;> first | exact ⟨_, by assumption⟩ | cases h
theorem eqk_pointer {P : Program} {t : TypeId} (h : eqkOf P t = .pointer) : ∃ e, P.underlying t = some (.pointer e) := by unfold eqkOf at h; split at h <;> first | exact ⟨_, by assumption⟩ | cases h

theorem aEql_sound {P : Program} {β : Inj} {σ : Heap} {w : World} {t : TypeId} {x y cx cy : Value} {b : Bool} {X Y : Operand} (h : aEql (eqk2 P t X Y) x y = some b) (h1 : VRel β σ x cx) (h2 : VRel β σ y cy) :
    (Op.equal t cx cy).run P w = .ok b w ∧ ((isConst X || isConst Y) = true ∨ ¬ (cx = .nilIface ∧ cy = .nilIface)) ∧ NoGuard cx cy := by
  unfold aEql at h
  generalize hek : eqk2 P t X Y = ek at h
  split at h
  · cases h
    cases h1; cases h2
    have hd := eqk_bool (eqk2_eq hek (by simp))
    exact ⟨equal_of fun d => by simp [Op.equalIn, run_underlying hd], .inr (by simp), by simp [NoGuard]⟩
  · cases h
    obtain ⟨e, hd⟩ := eqk_slice (eqk2_eq hek (by simp))
    cases h1
    cases h2 <;> exact ⟨equal_of fun d => by simp [Op.equalIn, run_underlying hd], .inr (by simp), by simp [NoGuard]⟩
  · cases h
    obtain ⟨e, hd⟩ := eqk_slice (eqk2_eq hek (by simp))
    rename_i hnn
    cases h2
    cases h1 with
    | slNil n m => exact (hnn rfl).elim
    | sl a obj hσ len cap c cap' hsz hcap h => exact ⟨equal_of fun d => by simp [Op.equalIn, run_underlying hd], .inr (by simp), by simp [NoGuard]⟩
  · cases h
    obtain ⟨e, hd⟩ := eqk_iface (eqk2_eq hek (by simp))
    cases h1; cases h2
    refine ⟨equal_of fun d => by simp [Op.equalIn, run_underlying hd], .inl ?_, by simp [NoGuard]⟩
    unfold eqk2 at hek
    split at hek
    · split at hek
      · assumption
      · cases hek
    · rename_i hne; exact absurd hek hne
  · cases h
    obtain ⟨e, hd⟩ := eqk_iface (eqk2_eq hek (by simp))
    cases h1; cases h2
    exact ⟨equal_of fun d => by simp [Op.equalIn, run_underlying hd], .inr (by simp), by simp [NoGuard]⟩
  · cases h
    obtain ⟨e, hd⟩ := eqk_iface (eqk2_eq hek (by simp))
    cases h1; cases h2
    exact ⟨equal_of fun d => by simp [Op.equalIn, run_underlying hd], .inr (by simp), by simp [NoGuard]⟩
  · cases h
    obtain ⟨e, hd⟩ := eqk_pointer (eqk2_eq hek (by simp))
    cases h1
    cases h2 <;> exact ⟨equal_of fun d => by simp [Op.equalIn, run_underlying hd], .inr (by simp), by simp [NoGuard]⟩
  · cases h
    obtain ⟨e, hd⟩ := eqk_pointer (eqk2_eq hek (by simp))
    cases h1; cases h2
    exact ⟨equal_of fun d => by simp [Op.equalIn, run_underlying hd], .inr (by simp), by simp [NoGuard]⟩
  · cases h

end Go.Abs
