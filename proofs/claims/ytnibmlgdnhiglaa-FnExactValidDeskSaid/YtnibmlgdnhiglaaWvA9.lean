/- The abstract machine: lengths, cuts, conversions, composites. No condition. -/
import Derived.Test.YtnibmlgdnhiglaaWvA8
namespace Go.Abs

section
variable {P : Program} {β : Inj} {σ : Heap} {w : World} {o : Oper} {F : Frame} {a : Act} {v : Value}

theorem does_len (hok : InjOk β σ w) (hF : FOk β σ F a.tmps) {x : Operand} {t : TypeId} {ts : Array TypeId} (ho : o.op = .call { callee := .builtin .len, args := #[x], argTypes := ts }) (hts : ts[0]? = some t) (str : Bool)
    (ht : if str then P.underlying t = some .string else ∃ e, P.underlying t = some (.slice e)) (h : aLen str (eval F x) = some v) :
    Does P ((execOp a.eval o).run P w) (Good β σ w v σ) := by
  have hx := eval_sound hF x
  generalize hcx : a.eval x = cx at hx
  unfold aLen at h
  split at h
  · rename_i s he
    cases h
    rw [he] at hx; cases hx
    simp only [if_true] at ht
    refine .pure_ (c := .int .i64 (s.size : Int)) (w' := w) hok ?_ (.int _ _) (.inl rfl)
    simp [execOp, ho, resolve, invoke, builtin, Builtin.len_, hts, hcx, run_underlying ht, goInt]
  · rename_i p n c he
    cases h
    rw [he] at hx
    simp only [Bool.false_eq_true, if_false] at ht
    obtain ⟨e, hu⟩ := ht
    have : ∃ p' c', cx = .slice p' n c' := by cases hx <;> exact ⟨_, _, rfl⟩
    obtain ⟨p', c', rfl⟩ := this
    refine .pure_ (c := .int .i64 (n : Int)) (w' := w) hok ?_ (.int _ _) (.inl rfl)
    simp [execOp, ho, resolve, invoke, builtin, Builtin.len_, hts, hcx, run_underlying hu, goInt]
  · cases h

theorem run_sliceBound {k : IntKind} {i : Int} {y : Nat} {code : BoundsCode} (h0 : 0 ≤ i) (h1 : i ≤ y) : (Instr.sliceBound (.int k i) y code).run P w = .ok i.toNat w := by
  simp [Instr.sliceBound, asIntOf, h0, h1]

theorem idx_rel {x : Option Operand} {d : Nat} {l : Int} (hF : FOk β σ F a.tmps) (h : idx (x.map (eval F)) d = some l) : (x = none ∧ l = d) ∨ (∃ y k, x = some y ∧ a.eval y = .int k l) := by
  cases x with
  | none => simp [idx] at h; exact .inl ⟨rfl, h.symm⟩
  | some y =>
    right
    have hy := eval_sound hF y
    simp only [idx, Option.map_some] at h
    split at h
    · rename_i he; cases he
    · rename_i k i he
      cases h
      simp only [Option.some.injEq] at he
      rw [he] at hy
      refine ⟨y, k, rfl, ?_⟩
      generalize a.eval y = u at hy
      cases hy; rfl
    · cases h

theorem run_sliceBounds (b : Bool) {lo hi : Option Operand} {len cap : Nat} {l h : Int} (hlo : (lo = none ∧ l = (0 : Nat)) ∨ (∃ y k, lo = some y ∧ a.eval y = .int k l)) (hhi : (hi = none ∧ h = (len : Int)) ∨ (∃ y k, hi = some y ∧ a.eval y = .int k h))
    (h0 : 0 ≤ l) (h1 : l ≤ h) (h2 : h ≤ cap) : (Instr.sliceBounds b len cap (lo.map a.eval) (hi.map a.eval) none).run P w = .ok (l.toNat, h.toNat, cap) w := by
  have hle : l ≤ (h.toNat : Int) := by omega
  rcases hlo with ⟨rfl, rfl⟩ | ⟨y, k, rfl, hy⟩ <;> rcases hhi with ⟨rfl, rfl⟩ | ⟨y', k', rfl, hy'⟩
  · simp [Instr.sliceBounds]
  · simp [Instr.sliceBounds, hy', run_sliceBound (show 0 ≤ h by omega) h2]
  · have : l ≤ (len : Int) := h1
    simp [Instr.sliceBounds, hy, run_sliceBound h0 this]
  · simp [Instr.sliceBounds, hy, hy', run_sliceBound (show 0 ≤ h by omega) h2, run_sliceBound h0 hle]

theorem does_sliceStr (hok : InjOk β σ w) (hF : FOk β σ F a.tmps) {t : TypeId} {x : Operand} {lo hi : Option Operand} (ho : o.op = .slice t x lo hi none) (ht : P.underlying t = some .string)
    (h : aSliceStr (eval F x) (lo.map (eval F)) (hi.map (eval F)) = some v) : Does P ((execOp a.eval o).run P w) (Good β σ w v σ) := by
  have hx := eval_sound hF x
  generalize hcx : a.eval x = cx at hx
  unfold aSliceStr at h
  split at h
  · rename_i s he
    rw [he] at hx; cases hx
    split at h
    · rename_i l h' hl hh
      split at h
      · rename_i hb
        cases h
        have hb2 := run_sliceBounds (P := P) (w := w) false (idx_rel hF hl) (idx_rel hF hh) hb.1 hb.2.1 hb.2.2
        refine .pure_ (c := .string (s.extract l.toNat h'.toNat)) (w' := w) hok ?_ (.string _) (.inl rfl)
        simp [execOp, ho, hcx, Instr.sliceAt, Instr.slice, run_underlying ht, hb2]
      · cases h
    · cases h
  · cases h

theorem does_sliceSl (hok : InjOk β σ w) (hF : FOk β σ F a.tmps) {t e : TypeId} {esz : Nat} {x : Operand} {lo hi : Option Operand} (ho : o.op = .slice t x lo hi none) (ht : P.underlying t = some (.slice e)) (hn : sizeOfT P e = some esz)
    (h : aSliceSl σ esz (eval F x) (lo.map (eval F)) (hi.map (eval F)) = some v) : Does P ((execOp a.eval o).run P w) (Good β σ w v σ) := by
  have hx := eval_sound hF x
  generalize hcx : a.eval x = cx at hx
  unfold aSliceSl at h
  split at h
  · rename_i len cap he
    rw [he] at hx; cases hx
    split at h
    · rename_i l h' hl hh
      split at h
      · rename_i hb
        cases h
        have hb2 := run_sliceBounds (P := P) (w := w) true (idx_rel hF hl) (idx_rel hF hh) hb.1 hb.2.1 hb.2.2
        refine .pure_ (c := .slice none (h' - l).toNat (cap - l.toNat)) (w' := w) hok ?_ (.slNil _ _) (.inl rfl)
        have e1 : h'.toNat - l.toNat = (h' - l).toNat := by omega
        simp [execOp, ho, hcx, Instr.sliceAt, Instr.slice, run_underlying ht, hb2, run_size hn, e1]
      · cases h
    · cases h
  · rename_i p len cap he
    rw [he] at hx
    split at h
    · rename_i obj l h' hrow hl hh
      split at h
      · rename_i hb
        cases h
        obtain ⟨hσ, hesz, hlen, hne⟩ := rowAt_some hrow
        cases hx with
        | sl p obj' hσ' len cap c cap' hsz hcap hs =>
          rw [hσ] at hσ'; cases hσ'
          have hb2 := run_sliceBounds (P := P) (w := w) true (len := len) (cap := cap') (idx_rel hF hl) (idx_rel hF hh) hb.1 hb.2.1 (by omega)
          have e1 : h'.toNat - l.toNat = (h' - l).toNat := by omega
          refine .pure_ (c := .slice (some (if cap' = l.toNat then c else c.add (l.toNat * esz))) (h' - l).toNat (cap' - l.toNat)) (w' := w) hok ?_ ?_ (.inl rfl)
          · simp only [execOp, ho, hcx, Instr.sliceAt, Instr.slice, run_underlying ht, run_size hn, Sem.run_bind, Result.andThen_ok, Sem.run_pure]
            rw [Option.map_none, hb2]
            simp only [Result.andThen_ok, e1]
            split <;> simp
          · have hkey : (cap - l.toNat) * esz + l.toNat * esz = cap * esz := by
              rw [← Nat.add_mul]; congr 1; omega
            refine .sl ⟨p.block, p.off + l.toNat * esz, none⟩ obj hσ _ _ _ _ (fun _ => ?_) (by omega) fun h1 h2 h3 => ?_
            · rw [hesz]; dsimp only; omega
            · dsimp only at h3
              have horig : cap ≠ 0 ∨ p.off = 0 := by
                rcases h3 with h3 | h3
                · left; omega
                · right; omega
              obtain ⟨s, hs1, rfl, hrw⟩ := hs (by rw [hesz]; exact hne) (by rw [hesz]; exact hlen) horig
              refine ⟨s, hs1, ?_, fun hr => ?_⟩
              · split
                · rename_i hcl
                  have h4 : l.toNat * esz = 0 := by
                    rcases h3 with h3 | h3
                    · omega
                    · omega
                  simp [h4]
                · rw [add_at]; simp [Nat.add_assoc]
              · have := hrw hr
                rw [hesz] at this ⊢
                dsimp only
                have h5 : (cap' - l.toNat) * esz + l.toNat * esz = cap' * esz := by
                  rw [← Nat.add_mul]; congr 1; omega
                omega
      · cases h
    · cases h
  · cases h

theorem does_minmax (hok : InjOk β σ w) (hF : FOk β σ F a.tmps) (mx : Bool) {args : Array Operand} {ts : Array TypeId} (ho : o.op = .call { callee := .builtin (if mx then .max else .min), args := args, argTypes := ts })
    (h : aMinMax mx (args.toList.map (eval F)) = some v) : Does P ((execOp a.eval o).run P w) (Good β σ w v σ) := by
  have go : ∀ (xs : List Operand) (k : IntKind) (n : Int) (v : Value), aMinMaxGo mx k n (xs.map (eval F)) = some v → ∃ m, v = .int k m ∧
      ((xs.map a.eval).foldlM (if mx then Builtin.max2 else Builtin.min2) (.int k n)).run P w = .ok (.int k m) w := by
    intro xs
    induction xs with
    | nil => intro k n v h; simp [aMinMaxGo] at h; subst h; exact ⟨n, rfl, by simp⟩
    | cons x xs ih =>
      intro k n v h
      simp only [List.map_cons] at h
      have hx := eval_sound hF x
      unfold aMinMaxGo at h
      split at h
      · rename_i he; cases he
      · rename_i j b rest he
        simp only [List.cons.injEq] at he
        obtain ⟨he1, rfl⟩ := he
        rw [he1] at hx
        have hce : a.eval x = .int j b := by
          generalize a.eval x = u at hx
          cases hx; rfl
        obtain ⟨m, rfl, hm⟩ := ih _ _ _ h
        refine ⟨m, rfl, ?_⟩
        simp only [List.map_cons, List.foldlM_cons, hce, Sem.run_bind]
        cases mx <;> simp_all [Builtin.max2, Builtin.min2]
      · cases h
  unfold aMinMax at h
  split at h
  · rename_i k n rest he
    obtain ⟨x, xs, hargs, hx1, hx2⟩ : ∃ x xs, args.toList = x :: xs ∧ eval F x = .int k n ∧ rest = xs.map (eval F) := by
      cases hl : args.toList with
      | nil => rw [hl] at he; cases he
      | cons x xs => rw [hl] at he; simp at he; exact ⟨x, xs, rfl, he.1, he.2.symm⟩
    subst hx2
    obtain ⟨m, rfl, hm⟩ := go _ _ _ _ h
    have hx := eval_sound hF x
    rw [hx1] at hx
    have hce : a.eval x = .int k n := by
      generalize a.eval x = u at hx
      cases hx; rfl
    refine .pure_ (c := .int k m) (w' := w) hok ?_ (.int _ _) (.inl rfl)
    have hal : (args.map a.eval).toList = .int k n :: xs.map a.eval := by simp [hargs, hce]
    cases mx
    · simp only [Bool.false_eq_true, if_false] at ho hm
      simp only [execOp, ho, resolve, invoke, builtin, Builtin.min_, hal, Sem.run_bind, Sem.run_pure, Result.andThen_ok, hm]
    · simp only [if_true] at ho hm
      simp only [execOp, ho, resolve, invoke, builtin, Builtin.max_, hal, Sem.run_bind, Sem.run_pure, Result.andThen_ok, hm]
  · cases h

theorem does_makeFunc (hok : InjOk β σ w) (hF : FOk β σ F a.tmps) {f : FuncId} {x y : Array Operand} (ho : o.op = .makeFunc (.func f) x y) :
    Does P ((execOp a.eval o).run P w) (Good β σ w (.func (.func f) (x.toList.map (eval F)).toArray (y.toList.map (eval F)).toArray) σ) := by
  refine .pure_ (c := .func (.func f) (x.map a.eval) (y.map a.eval)) (w' := w) hok (by simp [execOp, ho, Instr.makeFunc]) ?_ (.inl rfl)
  have aux : ∀ (z : Array Operand) (i : Nat) (v v' : Value), ((z.toList.map (eval F)).toArray)[i]? = some v → (z.map a.eval)[i]? = some v' → VRel β σ v v' := by
    intro z i v v' h1 h2
    simp only [List.getElem?_toArray, List.getElem?_map, Array.getElem?_toList, Array.getElem?_map] at h1 h2
    cases hz : z[i]? with
    | none => rw [hz] at h1; cases h1
    | some q => rw [hz] at h1 h2; cases h1; cases h2; exact eval_sound hF q
  exact .func _ _ _ _ _ (by simp) (by simp) (aux x) (aux y)

theorem does_conv (hok : InjOk β σ w) (hF : FOk β σ F a.tmps) {s d : TypeId} {x : Operand} {c : ConvK} (ho : o.op = .convert s d x) (hc : convOf P s d = some c) (hcn : c ≠ .toBytes ∧ c ≠ .toStr ∧ c ≠ .mark) {σ' : Heap} (h : aConv σ c (eval F x) = some (v, σ')) :
    Does P ((execOp a.eval o).run P w) (Good β σ w v σ') := by
  have hx := eval_sound hF x
  generalize hcx : a.eval x = cx at hx
  have hex : (execOp a.eval o).run P w = ((convert s d cx).run P w).andThen fun v w => .ok (.value v) w := by
    simp [execOp, ho, hcx]
  rw [hex]
  unfold convOf at hc
  unfold aConv at h
  split at h
  · -- int to int
    rename_i k j n he
    cases h
    rw [he] at hx; cases hx
    refine .pure_ (c := .int k (k.wrap n)) (w' := w) hok ?_ (.int _ _) (.inl rfl)
    split at hc <;> first | (simp only [Option.some.injEq, ConvK.toInt.injEq] at hc; subst hc; rename_i h1 h2; simp [convert, run_underlying h1, run_underlying h2, Conv.intToInt]; done) | (cases hc; done) | (split at hc <;> cases hc; done) | (split at hc <;> first | (split at hc <;> cases hc; done) | cases hc)
  · rename_i k j n he
    cases h
    rw [he] at hx; cases hx
    refine .pure_ (c := .float k (k.nearest n)) (w' := w) hok ?_ (.float (.inl rfl)) (.inl rfl)
    split at hc <;> first | (simp only [Option.some.injEq, ConvK.toFloat.injEq] at hc; subst hc; rename_i h1 h2; simp [convert, run_underlying h1, run_underlying h2, Conv.intToFloat]; done) | (cases hc; done) | (split at hc <;> cases hc; done) | (split at hc <;> first | (split at hc <;> cases hc; done) | cases hc)
  · rename_i k sk b he
    cases hfi : floatToIntVal sk b k with
    | none => rw [hfi] at h; cases h
    | some n =>
      rw [hfi] at h; cases h
      rw [he] at hx
      cases hx with
      | float f =>
        have hr := f2i_sound (P := P) (w := w) f hfi
        refine .pure_ (c := .int k n) (w' := w) hok ?_ (.int _ _) (.inl rfl)
        split at hc <;> first | (simp only [Option.some.injEq, ConvK.toInt.injEq] at hc; subst hc; rename_i h1 h2; simp [convert, run_underlying h1, run_underlying h2, hr]; done) | (cases hc; done) | (split at hc <;> cases hc; done) | (split at hc <;> first | (split at hc <;> cases hc; done) | cases hc)
  · rename_i k sk b he
    cases hff : f2f sk b k with
    | none => rw [hff] at h; cases h
    | some n =>
      rw [hff] at h; cases h
      rw [he] at hx
      cases hx with
      | float f =>
        obtain ⟨c', w', hr, hrel, hd⟩ := f2f_sound (P := P) (w := w) f hff
        refine .pure_ (c := .float k c') (w' := w') hok ?_ (.float hrel) hd
        split at hc <;> first | (simp only [Option.some.injEq, ConvK.toFloat.injEq] at hc; subst hc; rename_i h1 h2; simp [convert, run_underlying h1, run_underlying h2, hr]; done) | (cases hc; done) | (split at hc <;> cases hc; done) | (split at hc <;> first | (split at hc <;> cases hc; done) | cases hc)
  · rename_i s' he
    cases h
    rw [he] at hx; cases hx
    refine .pure_ (c := .string s') (w' := w) hok ?_ (.string _) (.inl rfl)
    split at hc <;> first | (rename_i h1 h2; simp [convert, run_underlying h1, run_underlying h2]; done) | (cases hc; done) | (split at hc <;> cases hc; done) | (split at hc <;> first | (split at hc <;> cases hc; done) | cases hc)
  · exact absurd rfl hcn.1
  · exact absurd rfl hcn.2.2
  · exact absurd rfl hcn.2.1
  · cases h

end
end Go.Abs
