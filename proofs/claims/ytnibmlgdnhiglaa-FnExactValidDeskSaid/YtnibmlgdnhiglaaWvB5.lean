/- The abstract machine: every operation stands for the model's. Condition: the contracts that are used hold. -/
import Derived.Test.YtnibmlgdnhiglaaWvB4
namespace Go.Abs

/-- A contract holds of a function. -/
structure SimOk (P : Program) (f : FuncId) (c : Contract) : Prop where
  sim : ∀ args σ v σ', c.fn args σ = some (v, σ') → ∀ (β : Inj) (w : World) (cargs : Array Value), InjOk β σ w → LRel β σ args cargs.toList → Does P ((callFunc f cargs).run P w) (Good β σ w v σ')
  quiet : c.quiet = true → ∀ args σ v σ', c.fn args σ = some (v, σ') → ∃ τ, σ' = σ ++ τ

def CtabOk (P : Program) (C : Ctab) : Prop := ∀ f c, C f = some c → SimOk P f c

section
variable {P : Program} {C : Ctab} {β : Inj} {σ : Heap} {w : World} {o : Oper} {F : Frame} {a : Act} {v : Value}

theorem does_call (hC : CtabOk P C) (hok : InjOk β σ w) (hF : FOk β σ F a.tmps) {f : Operand} {args : Array Operand} {ts : Array TypeId} (ho : o.op = .call { callee := .value f, args := args, argTypes := ts }) {σ' : Heap}
    (h : aCall C σ (eval F f) (args.toList.map (eval F)) = some (v, σ')) : Does P ((execOp a.eval o).run P w) (Good β σ w v σ') := by
  have hf := eval_sound hF f
  generalize hcf : a.eval f = cf at hf
  unfold aCall at h
  split at h
  · rename_i g first captured he
    rw [he] at hf
    split at h
    · rename_i c hc
      cases hf with
      | func fn x y x' y' hx hy h1 h2 =>
        have hargs : LRel β σ (args.toList.map (eval F)) ((args.map a.eval).toList) := by
          refine ⟨by simp, fun i v c hv hc => ?_⟩
          simp only [List.getElem?_map, Array.toList_map, Array.getElem?_toList] at hv hc
          cases hz : args[i]? with
          | none => rw [hz] at hv; cases hv
          | some q => rw [hz] at hv hc; cases hv; cases hc; exact eval_sound hF q
        have := (hC g c hc).sim _ _ _ _ h β w (x' ++ args.map a.eval ++ y') hok (by
          simp only [Array.toList_append]
          exact lrel_append (lrel_append (agg_lrel hx h1) hargs) (agg_lrel hy h2))
        have hrun : (execOp a.eval o).run P w = (callFunc g (x' ++ args.map a.eval ++ y')).run P w := by
          simp [execOp, ho, Go.resolve, Deferred.ofValue, hcf, invoke]
        rw [hrun]
        exact this
    · cases h
  · cases h

theorem map_pair {x : Option Value} {σ' : Heap} (h : x.map (·, σ) = some (v, σ')) : x = some v ∧ σ' = σ := by
  cases x with
  | none => cases h
  | some y => simp at h; exact ⟨by rw [h.1], h.2.symm⟩

/-- Every operation. -/
theorem evOp_sound (hC : CtabOk P C) (hok : InjOk β σ w) (hF : FOk β σ F a.tmps) {s : SOp} (hs : rOp P o.op = some s) {σ' : Heap} (h : evOp C F σ s = some (v, σ')) : Does P ((execOp a.eval o).run P w) (Good β σ w v σ') := by
  cases ho : o.op with
  | move x => rw [ho] at hs; simp [rOp] at hs; subst hs; simp [evOp] at h; obtain ⟨rfl, rfl⟩ := h; exact does_mov hok hF (.inl ho)
  | assign x => rw [ho] at hs; simp [rOp] at hs; subst hs; simp [evOp] at h; obtain ⟨rfl, rfl⟩ := h; exact does_mov hok hF (.inr ho)
  | pick c x y => rw [ho] at hs; simp [rOp] at hs; subst hs; obtain ⟨hh, rfl⟩ := map_pair h; exact does_pick hok hF ho hh
  | alloc t =>
    rw [ho] at hs
    simp only [rOp] at hs
    cases hz : zeroOf P t with
    | none => rw [hz] at hs; cases hs
    | some z => rw [hz] at hs; simp at hs; subst hs; exact does_alloc hok ho hz h
  | box t x => rw [ho] at hs; simp [rOp] at hs; subst hs; exact does_box hok hF ho h
  | build t ps =>
    rw [ho] at hs
    simp only [rOp] at hs
    split at hs
    · rename_i fs ht
      split at hs
      · rename_i hfs
        split at hs
        · rename_i z l hz hl
          cases hs
          obtain ⟨hh, rfl⟩ := map_pair h
          exact does_build_struct hok hF ho ht hfs hz hl hh
        · cases hs
      · cases hs
    · rename_i n e ht
      split at hs
      · rename_i s' z l hs' hz hl
        cases hs
        obtain ⟨hh, rfl⟩ := map_pair h
        exact does_build_array hok hF ho ht hs' hz hl hh
      · cases hs
    · cases hs
  | buildSlice t len ps =>
    rw [ho] at hs
    simp only [rOp, sliceElem] at hs
    split at hs
    · rename_i e hse
      split at hse
      · rename_i e' ht
        cases hse
        split at hs
        · rename_i s' z hs' hz
          split at hs
          · rename_i hb
            cases hl : partsOf (fun i => some (i * s', s')) ps.toList with
            | none => rw [hl] at hs; cases hs
            | some l =>
              rw [hl] at hs
              cases hs
              exact does_buildSlice hok hF ho ht hs' hz hb hl h
          · cases hs
        · cases hs
      · cases hse
    · cases hs
  | insert => rw [ho] at hs; simp [rOp] at hs
  | load t x =>
    rw [ho] at hs
    simp only [rOp] at hs
    split at hs
    · rename_i n hag hn
      cases hs
      obtain ⟨hh, rfl⟩ := map_pair h
      obtain ⟨u, hu, hv⟩ := loadN_sound (P := P) hok hag hn hh (eval_sound hF x)
      exact .pure_ (w' := w) hok (by simp [execOp, ho, hu]) hv (.inl rfl)
    · rename_i hag
      cases hs
      obtain ⟨hh, rfl⟩ := map_pair h
      obtain ⟨u, hu, hv⟩ := load1_sound (P := P) hok hag hh (eval_sound hF x)
      exact .pure_ (w' := w) hok (by simp [execOp, ho, hu]) hv (.inl rfl)
    · cases hs
  | store t p x =>
    rw [ho] at hs
    simp only [rOp] at hs
    cases hn : sizeOfT P t with
    | none => rw [hn] at hs; cases hs
    | some n =>
      rw [hn] at hs; cases hs
      simp only [evOp] at h
      cases hst : aStore σ n (eval F p) (eval F x) with
      | none => rw [hst] at h; cases h
      | some σ2 => rw [hst] at h; simp at h; obtain ⟨rfl, rfl⟩ := h; exact does_store hok hF ho hn hst
  | ready => rw [ho] at hs; simp [rOp] at hs
  | waits => rw [ho] at hs; simp [rOp] at hs
  | nilCheck x => rw [ho] at hs; simp [rOp] at hs; subst hs; obtain ⟨hh, rfl⟩ := map_pair h; exact does_nilCheck hok hF ho hh
  | binOp op t x y u => rw [ho] at hs; simp [rOp] at hs; subst hs; obtain ⟨hh, rfl⟩ := map_pair h; exact does_bin hok hF ho hh
  | unOp op t x => rw [ho] at hs; simp [rOp] at hs; subst hs; obtain ⟨hh, rfl⟩ := map_pair h; exact does_un hok hF ho hh
  | convert st dt x =>
    rw [ho] at hs
    simp only [rOp] at hs
    cases hc : convOf P st dt with
    | none => rw [hc] at hs; cases hs
    | some c =>
      rw [hc] at hs; cases hs
      simp only [evOp] at h
      by_cases hcn : c ≠ .toBytes ∧ c ≠ .toStr ∧ c ≠ .mark
      · exact does_conv hok hF ho hc hcn h
      · refine does_convMem hok hF ho hc ?_ h
        by_cases h1 : c = .toBytes
        · exact .inl h1
        · by_cases h2 : c = .toStr
          · exact .inr (.inl h2)
          · by_cases h3 : c = .mark
            · exact .inr (.inr h3)
            · exact absurd ⟨h1, h2, h3⟩ hcn
  | sliceToArrayPointer => rw [ho] at hs; simp [rOp] at hs
  | makeInterface => rw [ho] at hs; simp [rOp] at hs
  | makeFunc fn x y =>
    rw [ho] at hs
    cases fn <;> simp [rOp] at hs
    subst hs
    simp [evOp] at h
    obtain ⟨rfl, rfl⟩ := h
    have := does_makeFunc (P := P) (w := w) hok hF ho
    simpa using this
  | makeMap => rw [ho] at hs; simp [rOp] at hs
  | makeChan => rw [ho] at hs; simp [rOp] at hs
  | makeSlice t l c =>
    rw [ho] at hs
    simp only [rOp, sliceElem] at hs
    split at hs
    · rename_i e hse
      split at hse
      · rename_i e' ht
        cases hse
        split at hs
        · rename_i s' b z hs' hb hz
          cases hs
          exact does_makeSlice hok hF ho ht hs' hb hz h
        · cases hs
      · cases hse
    · cases hs
  | slice t x lo hi mx =>
    rw [ho] at hs
    cases mx with
    | some m => simp [rOp] at hs
    | none =>
      simp only [rOp] at hs
      split at hs
      · rename_i ht
        cases hs
        obtain ⟨hh, rfl⟩ := map_pair h
        exact does_sliceStr hok hF ho ht hh
      · rename_i e ht
        cases hn : sizeOfT P e with
        | none => rw [hn] at hs; cases hs
        | some n =>
          rw [hn] at hs; cases hs
          obtain ⟨hh, rfl⟩ := map_pair h
          exact does_sliceSl hok hF ho ht hn hh
      · cases hs
  | fieldAddr t x f =>
    rw [ho] at hs
    simp only [rOp] at hs
    split at hs
    · rename_i fs ht
      split at hs
      · rename_i fd hf
        split at hs
        · rename_i n hn
          cases hs
          obtain ⟨hh, rfl⟩ := map_pair h
          exact does_fieldAddr hok hF ho ht hf hn hh
        · cases hs
      · cases hs
    · cases hs
  | field t x f =>
    rw [ho] at hs
    simp only [rOp] at hs
    split at hs
    · rename_i fs ht
      split at hs
      · rename_i fd hf
        split at hs
        · rename_i n hag hn
          cases hs
          obtain ⟨hh, rfl⟩ := map_pair h
          exact does_fieldN hok hF ho ht hf hag hn hh
        · rename_i hag
          cases hs
          obtain ⟨hh, rfl⟩ := map_pair h
          exact does_field1 hok hF ho ht hf hag hh
        · cases hs
      · cases hs
    · cases hs
  | indexAddr t x i =>
    rw [ho] at hs
    simp only [rOp] at hs
    split at hs
    · rename_i e ht
      cases hn : sizeOfT P e with
      | none => rw [hn] at hs; cases hs
      | some n =>
        rw [hn] at hs; cases hs
        obtain ⟨hh, rfl⟩ := map_pair h
        exact does_indexAddrS hok hF ho ht hn hh
    · rename_i m e ht
      cases hn : sizeOfT P e with
      | none => rw [hn] at hs; cases hs
      | some n =>
        rw [hn] at hs; cases hs
        obtain ⟨hh, rfl⟩ := map_pair h
        exact does_indexAddrA hok hF ho ht hn hh
    · cases hs
  | index t x i =>
    rw [ho] at hs
    simp only [rOp] at hs
    split at hs
    · rename_i ht
      cases hs
      obtain ⟨hh, rfl⟩ := map_pair h
      exact does_indexStr hok hF ho ht hh
    · rename_i m e ht
      split at hs
      · rename_i n hag hn
        cases hs
        obtain ⟨hh, rfl⟩ := map_pair h
        exact does_indexN hok hF ho ht hag hn hh
      · rename_i hag hn
        cases hs
        obtain ⟨hh, rfl⟩ := map_pair h
        exact does_index1 hok hF ho ht hag hn hh
      · cases hs
    · cases hs
  | lookup => rw [ho] at hs; simp [rOp] at hs
  | mapUpdate => rw [ho] at hs; simp [rOp] at hs
  | mapEntry => rw [ho] at hs; simp [rOp] at hs
  | entryStore => rw [ho] at hs; simp [rOp] at hs
  | range => rw [ho] at hs; simp [rOp] at hs
  | next => rw [ho] at hs; simp [rOp] at hs
  | entry => rw [ho] at hs; simp [rOp] at hs
  | typeAssert => rw [ho] at hs; simp [rOp] at hs
  | extract x i => rw [ho] at hs; simp [rOp] at hs; subst hs; obtain ⟨hh, rfl⟩ := map_pair h; exact does_extract hok hF ho hh
  | call c =>
    rw [ho] at hs
    obtain ⟨callee, args, ts⟩ := c
    cases callee with
    | invoke r m => simp [rOp] at hs
    | value f =>
      simp only [rOp, Option.some.injEq] at hs
      subst hs
      exact does_call hC hok hF ho h
    | builtin b =>
      simp only [rOp] at hs
      have toArr : ∀ {α : Type} (xs : Array α) (l : List α), xs.toList = l → xs = l.toArray := fun xs l h => by rw [← h]
      unfold rBuiltin at hs
      split at hs
      · -- len
        rename_i x t rest ha hts
        have ha' := toArr _ _ ha
        have hts' : ts[0]? = some t := by rw [toArr _ _ hts]; simp
        rw [ha'] at ho
        split at hs
        · rename_i hu
          cases hs
          obtain ⟨hh, rfl⟩ := map_pair h
          exact does_len hok hF ho hts' true (by simpa using hu) hh
        · rename_i e hu
          cases hs
          obtain ⟨hh, rfl⟩ := map_pair h
          exact does_len hok hF ho hts' false (by simpa using ⟨e, hu⟩) hh
        · cases hs
      · -- append
        rename_i sx x t u rest ha hts
        have ha' := toArr _ _ ha
        have hts0 : ts[0]? = some t := by rw [toArr _ _ hts]; simp
        have hts1 : ts[1]? = some u := by rw [toArr _ _ hts]; simp
        rw [ha'] at ho
        split at hs
        · rename_i e ud ht hu
          split at hs
          · cases hs
          · rename_i hni
            split at hs
            · rename_i z b zs h1 h2 h3
              split at hs
              · rename_i hc
                cases hs
                exact does_append hok hF ⟨ht, ⟨ud, hu, fun k hk => hni k hk⟩, h1, h2, h3, hc.1, hc.2⟩ hts0 hts1 ho h
              · cases hs
            · cases hs
        · cases hs
      · -- copy
        rename_i d sx t rest ha hts
        have ha' := toArr _ _ ha
        have hts0 : ts[0]? = some t := by rw [toArr _ _ hts]; simp
        rw [ha'] at ho
        split at hs
        · rename_i e ht
          cases hn : sizeOfT P e with
          | none => rw [hn] at hs; cases hs
          | some n => rw [hn] at hs; cases hs; exact does_copy hok hF ht hn hts0 ho h
        · cases hs
      · cases hs
        obtain ⟨hh, rfl⟩ := map_pair h
        exact does_minmax hok hF false (by simpa using ho) hh
      · cases hs
        obtain ⟨hh, rfl⟩ := map_pair h
        exact does_minmax hok hF true (by simpa using ho) hh
      · cases hs
  | go => rw [ho] at hs; simp [rOp] at hs
  | defer => rw [ho] at hs; simp [rOp] at hs
  | panic => rw [ho] at hs; simp [rOp] at hs
  | send => rw [ho] at hs; simp [rOp] at hs
  | recv => rw [ho] at hs; simp [rOp] at hs
  | select => rw [ho] at hs; simp [rOp] at hs

end
end Go.Abs
