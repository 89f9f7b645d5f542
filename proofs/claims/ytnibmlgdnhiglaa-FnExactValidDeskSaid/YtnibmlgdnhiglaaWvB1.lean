/- The abstract machine: operations that make or write memory. No condition. -/
import Derived.Test.YtnibmlgdnhiglaaWvA9
import Derived.Laws.BytesString
namespace Go.Abs

section
variable {P : Program} {β : Inj} {σ : Heap} {w : World} {o : Oper} {F : Frame} {a : Act} {v : Value}

/-- A new block behind a step that leaves the world alone but for answers. -/
theorem good_alloc (hok : InjOk β σ w) {w1 : World} (hd : Drew w w1) (cells : List Value) (esz : Nat) (cs : Array Value) (e : TypeId)
    (hc : ∀ (j : Nat) (v : Value), cells[j]? = some v → ∃ u, cs[j]? = some u ∧ VRel β σ v u) :
    ∃ β', Trans β σ w β' (σ ++ [⟨cells, esz, true⟩]) (w1.alloc (.cells cs e)) ∧ β' σ.length = some ⟨w.heap.size, 0, cs.size⟩ ∧ w1.heap.size = w.heap.size := by
  have h1 : InjOk β σ w1 := (hd.trans_ hok).ok
  have hs : w1.heap.size = w.heap.size := by rcases hd with rfl | rfl <;> simp
  refine ⟨_, (hd.trans_ hok).trans (Trans.alloc h1 cells esz cs e hc), ?_, hs⟩
  simp [hs]

theorem at_last (x : AObj) : (σ ++ [x])[σ.length]? = some x := by simp

theorem zero_run {t : TypeId} {zero : List Value} (hz : zeroOf P t = some zero) (w : World) : ∃ z : Value, (zeroValue t).run P w = .ok z w ∧ z.cells.toList = zero := by
  unfold zeroOf at hz
  cases hi : P.info? t with
  | none => rw [hi] at hz; cases hz
  | some i =>
    cases hzz : i.zero with
    | none => simp [hi, hzz] at hz
    | some z =>
      simp only [hi, hzz, Option.map_some, Option.some.injEq] at hz
      exact ⟨z, by simp [zeroValue, typeInfo, hi, hzz], hz⟩

theorem rel_at {β : Inj} {σ : Heap} {xs cs : List Value} (h : LRel β σ xs cs) : ∀ (j : Nat) (v : Value), xs[j]? = some v → ∃ u, cs.toArray[j]? = some u ∧ VRel β σ v u := by
  intro j v hv
  obtain ⟨c, hc, hr⟩ := lrel_get h hv
  exact ⟨c, by simpa using hc, hr⟩

theorem good_var (hok : InjOk β σ w) {cells : List Value} {cs : Array Value} (e : TypeId) (h : LRel β σ cells cs.toList) {r : Result Next}
    (hr : r = .ok (.value (.pointer (some ⟨w.heap.size, 0, none⟩))) (w.alloc (.cells cs e))) : Does P r (Good β σ w (newVar σ cells).1 (newVar σ cells).2) := by
  obtain ⟨β', ht, hb, _⟩ := good_alloc hok (.inl rfl) cells 0 cs e (by simpa using rel_at h)
  refine .inl ⟨_, _, hr, β', ht, ?_⟩
  exact .ptr ⟨σ.length, 0, none⟩ ⟨cells, 0, true⟩ (at_last _) _ (fun n hn => by cases hn) fun _ => ⟨_, hb, rfl⟩

theorem does_alloc (hok : InjOk β σ w) {t : TypeId} {zero : List Value} (ho : o.op = .alloc t) (hz : zeroOf P t = some zero) {σ' : Heap} (h : aAlloc σ zero = some (v, σ')) : Does P ((execOp a.eval o).run P w) (Good β σ w v σ') := by
  unfold aAlloc at h
  split at h
  · rename_i hc
    cases h
    obtain ⟨z, hzr, hzc⟩ := zero_run hz w
    refine good_var hok (cs := z.cells) t (by rw [hzc]; exact lrel_const hc) ?_
    simp [execOp, ho, Instr.alloc, hzr, Go.newVar, Go.newRow]
  · cases h

theorem does_box (hok : InjOk β σ w) (hF : FOk β σ F a.tmps) {t : TypeId} {x : Operand} (ho : o.op = .box t x) {σ' : Heap} (h : aBox σ (eval F x) = some (v, σ')) : Does P ((execOp a.eval o).run P w) (Good β σ w v σ') := by
  unfold aBox at h
  split at h
  · rename_i hc
    cases h
    obtain ⟨hl, _⟩ := vrel_cells (eval_sound hF x) hc
    refine good_var hok t hl ?_
    simp [execOp, ho, Instr.box, Go.newVar, Go.newRow]
  · cases h

/-! ### Composites -/

theorem foldl_fill (cs : List Value) : ∀ (k off : Nat) (cells : Array Value), off + k + cs.length ≤ cells.size →
    ((cs.zipIdx k).foldl (fun cells p => cells.setIfInBounds (off + p.2) p.1) cells).toList = splice cells.toList (off + k) cs := by
  induction cs with
  | nil => intro k off cells _; simp [splice_nil]
  | cons c cs ih =>
    intro k off cells h
    simp only [List.length_cons] at h
    simp only [List.zipIdx_cons, List.foldl_cons]
    rw [ih (k + 1) off _ (by simp; omega), splice_cons (by simp; omega)]
    simp [Nat.add_assoc]

theorem fill_sound {place : Nat → Option (Nat × Nat)} : ∀ (ps : List (Nat × Operand)) (ps' : List (Nat × Nat × Operand)) (cells : List Value) (cs : Array Value) (r : List Value), FOk β σ F a.tmps → partsOf place ps = some ps' → LRel β σ cells cs.toList →
    fillS cells (ps'.map fun p => (p.1, p.2.1, eval F p.2.2)) = some r → ∃ rs : Array Value, Instr.fill place cs (ps.map fun p => (p.1, a.eval p.2)) = some rs ∧ LRel β σ r rs.toList := by
  intro ps
  induction ps with
  | nil =>
    intro ps' cells cs r hF hp hl h
    simp [partsOf] at hp; subst hp
    simp [fillS] at h; subst h
    exact ⟨cs, by simp [Instr.fill], hl⟩
  | cons p ps ih =>
    intro ps' cells cs r hF hp hl h
    obtain ⟨i, x⟩ := p
    simp only [partsOf] at hp
    split at hp
    · rename_i off s l hpl hrest
      cases hp
      simp only [List.map_cons, fillS] at h
      split at h
      · rename_i hc
        simp only [Bool.and_eq_true, decide_eq_true_eq, Nat.beq_eq] at hc
        obtain ⟨hlx, _⟩ := vrel_cells (eval_sound hF x) hc.2
        have hsz : (a.eval x).cells.size = s := by rw [← hc.1.1, hlx.1]; simp
        have hcl : off + (a.eval x).cells.size ≤ cs.size := by
          have := hl.1
          simp only [Array.length_toList] at this
          omega
        have hfold := foldl_fill (a.eval x).cells.toList 0 off cs (by simpa using hcl)
        obtain ⟨rs, hr, hrl⟩ := ih l (splice cells off (eval F x).cells.toList) ((a.eval x).cells.toList.zipIdx.foldl (fun cells p => cells.setIfInBounds (off + p.2) p.1) cs) r hF hrest (by
          rw [hfold]
          exact lrel_splice hl hlx _) h
        refine ⟨rs, ?_, hrl⟩
        simp only [List.map_cons, Instr.fill, hpl]
        rw [if_neg (by simp [hsz]; omega)]
        rw [← hr]
        congr 1
        rw [← Array.foldl_toList, Array.toList_zipIdx]
      · cases h
    · cases hp

theorem does_build_struct (hok : InjOk β σ w) (hF : FOk β σ F a.tmps) {t : TypeId} {fs : Array Field} {ps : Array (Nat × Operand)} {zero : List Value} {l : List (Nat × Nat × Operand)} (ho : o.op = .build t ps)
    (ht : P.underlying t = some (.struct fs)) (hfs : structSized P fs = true) (hz : zeroOf P t = some zero) (hl : partsOf (placeOf P t) ps.toList = some l) (h : aBuild zero (l.map fun p => (p.1, p.2.1, eval F p.2.2)) = some v) :
    Does P ((execOp a.eval o).run P w) (Good β σ w v σ) := by
  unfold aBuild at h
  split at h
  · rename_i hzc
    cases hr : fillS zero (l.map fun p => (p.1, p.2.1, eval F p.2.2)) with
    | none => rw [hr] at h; cases h
    | some r =>
      rw [hr] at h; cases h
      obtain ⟨z, hzr, hzl⟩ := zero_run hz w
      obtain ⟨rs, hfill, hrl⟩ := fill_sound (a := a) ps.toList l zero z.cells r hF hl (by rw [hzl]; exact lrel_const hzc) hr
      -- the places of the fields
      have hpl : ∃ places : Array (Nat × Nat), (fs.mapM fun f => do pure (f.offset, ← sizeOf f.type) : Sem (Array (Nat × Nat))).run P w = .ok places w ∧ ∀ i, places[i]? = placeOf P t i := by
        have key : ∀ l : List Field, (l.all fun f => (sizeOfT P f.type).isSome) = true → (l.mapM (m := Sem) fun f => do pure (f.offset, ← sizeOf f.type)).run P w = .ok (l.map fun f => (f.offset, (sizeOfT P f.type).getD 0)) w := by
          intro l
          induction l with
          | nil => intro _; simp
          | cons f l ih =>
            intro hall
            simp only [List.all_cons, Bool.and_eq_true] at hall
            obtain ⟨n, hn⟩ := Option.isSome_iff_exists.1 hall.1
            simp only [List.mapM_cons, Sem.run_bind, run_size hn, Result.andThen_ok, Sem.run_pure, ih hall.2]
            simp [hn]
        refine ⟨(fs.toList.map fun f => (f.offset, (sizeOfT P f.type).getD 0)).toArray, ?_, fun i => ?_⟩
        · rw [Array.mapM_eq_mapM_toList]
          simp only [Sem.run_map, key _ hfs, Result.andThen_ok]
        · unfold placeOf
          rw [ht]
          cases hf : fs[i]? with
          | none => simp [hf]
          | some f =>
            have hm := (List.all_eq_true.1 hfs) f (by rw [Array.mem_toList_iff]; exact Array.mem_of_getElem? hf)
            obtain ⟨n, hn⟩ := Option.isSome_iff_exists.1 hm
            simp [hf, hn]
      obtain ⟨places, hm, hp⟩ := hpl
      have hpe : (fun i => places[i]?) = placeOf P t := funext hp
      refine .pure_ (c := .agg rs) (w' := w) hok ?_ (by simpa using lrel_agg hrl) (.inl rfl)
      have hps : (ps.map fun (i, x) => (i, a.eval x)).toList = ps.toList.map fun p => (p.1, a.eval p.2) := by simp
      simp only [execOp, ho, Instr.build, Sem.run_bind, hzr, Result.andThen_ok, run_underlying ht, hm, Sem.run_pure]
      rw [hpe, hps, hfill]
      rfl
  · cases h

theorem does_build_array (hok : InjOk β σ w) (hF : FOk β σ F a.tmps) {t e : TypeId} {n s : Nat} {ps : Array (Nat × Operand)} {zero : List Value} {l : List (Nat × Nat × Operand)} (ho : o.op = .build t ps)
    (ht : P.underlying t = some (.array n e)) (hs : sizeOfT P e = some s) (hz : zeroOf P t = some zero) (hl : partsOf (placeOf P t) ps.toList = some l) (h : aBuild zero (l.map fun p => (p.1, p.2.1, eval F p.2.2)) = some v) :
    Does P ((execOp a.eval o).run P w) (Good β σ w v σ) := by
  unfold aBuild at h
  split at h
  · rename_i hzc
    cases hr : fillS zero (l.map fun p => (p.1, p.2.1, eval F p.2.2)) with
    | none => rw [hr] at h; cases h
    | some r =>
      rw [hr] at h; cases h
      obtain ⟨z, hzr, hzl⟩ := zero_run hz w
      obtain ⟨rs, hfill, hrl⟩ := fill_sound (a := a) ps.toList l zero z.cells r hF hl (by rw [hzl]; exact lrel_const hzc) hr
      have hpe : placeOf P t = fun i => some (i * s, s) := by funext i; simp [placeOf, ht, hs]
      rw [hpe] at hfill
      refine .pure_ (c := .agg rs) (w' := w) hok ?_ (by simpa using lrel_agg hrl) (.inl rfl)
      have hps : (ps.map fun (i, x) => (i, a.eval x)).toList = ps.toList.map fun p => (p.1, a.eval p.2) := by simp
      simp only [execOp, ho, Instr.build, Sem.run_bind, hzr, Result.andThen_ok, run_underlying ht, run_size hs, Sem.run_pure]
      rw [hps, hfill]
      rfl
  · cases h

theorem does_buildSlice (hok : InjOk β σ w) (hF : FOk β σ F a.tmps) {t e : TypeId} {len s : Nat} {ps : Array (Nat × Operand)} {zero : List Value} {l : List (Nat × Nat × Operand)} (ho : o.op = .buildSlice t len ps)
    (ht : P.underlying t = some (.slice e)) (hs : sizeOfT P e = some s) (hz : zeroOf P e = some zero) (hb : len * s ≤ 2 ^ 24) (hl : partsOf (fun i => some (i * s, s)) ps.toList = some l) {σ' : Heap}
    (h : aBuildSlice σ s len (if len * s = 0 then [] else zerosOf zero (len * s)) (l.map fun p => (p.1, p.2.1, eval F p.2.2)) = some (v, σ')) : Does P ((execOp a.eval o).run P w) (Good β σ w v σ') := by
  generalize hzz : (if len * s = 0 then [] else zerosOf zero (len * s)) = zz at h
  unfold aBuildSlice at h
  split at h
  · rename_i hzc
    simp only [Bool.and_eq_true, Nat.beq_eq, Bool.not_eq_true'] at hzc
    have hs0 : s ≠ 0 := fun h0 => by rw [h0] at hzc; exact absurd hzc.2 (by decide)
    cases hr : fillS zz (l.map fun p => (p.1, p.2.1, eval F p.2.2)) with
    | none => rw [hr] at h; cases h
    | some r =>
      rw [hr] at h; cases h
      obtain ⟨z, hzr, hzl⟩ := zero_run hz w
      -- the cells that the model begins with
      obtain ⟨cs, hcs, hcl⟩ : ∃ cs : Array Value, (if len * s = 0 then cs = #[] else cs = z.cells) ∧
          ((Array.range (len * s)).map (cs[· % cs.size]!)).toList = zz := by
        rw [← hzz]
        by_cases h0 : len * s = 0
        · refine ⟨#[], by simp [h0], by simp [h0]⟩
        · rw [if_neg h0] at hzz
          refine ⟨z.cells, by simp [h0], ?_⟩
          rw [if_neg h0]
          have hall := hzc.1.1
          rw [← hzz] at hall
          unfold zerosOf
          apply List.ext_getElem?
          intro i
          have hzs : z.cells.size = zero.length := by rw [← hzl]; simp
          simp only [Array.toList_map, Array.toList_range, List.getElem?_map]
          cases hri : (List.range (len * s))[i]? with
          | none => rfl
          | some j =>
            simp only [Option.map_some, Option.some.injEq]
            rw [hzs, ← hzl]
            simp only [Array.length_toList]
            rw [hzs]
            have hpos : zero.length ≠ 0 := by
              intro hz0
              unfold zerosOf at hall
              rw [List.all_eq_true] at hall
              have := hall (zero.getD (0 % zero.length) dead) (by rw [List.mem_map]; exact ⟨0, by simp; omega, rfl⟩)
              have hnil : zero = [] := List.length_eq_zero_iff.1 hz0
              rw [hnil] at this
              simp [dead, constOk] at this
            have hlt : j % zero.length < z.cells.size := by rw [hzs]; exact Nat.mod_lt _ (by omega)
            simp [List.getD_eq_getElem?_getD, hlt]
      obtain ⟨rs, hfill, hrl⟩ := fill_sound (place := fun i => some (i * s, s)) (a := a) ps.toList l zz ((Array.range (len * s)).map (cs[· % cs.size]!)) r hF hl (by rw [hcl]; exact lrel_const hzc.1.1) hr
      have hfl : ∀ (qs : List (Nat × Nat × Value)) (cells r : List Value), fillS cells qs = some r → r.length = cells.length := by
        intro qs
        induction qs with
        | nil => intro cells r h; simp [fillS] at h; rw [h]
        | cons q qs ih =>
          intro cells r h
          obtain ⟨off, sz, u⟩ := q
          simp only [fillS] at h
          split at h
          · rename_i hc
            simp only [Bool.and_eq_true, decide_eq_true_eq, Nat.beq_eq] at hc
            rw [ih _ _ h, splice_length (by omega)]
          · cases h
      have hrlen : r.length = len * s := by rw [hfl _ _ _ hr]; exact hzc.1.2
      obtain ⟨β', htr, hb', _⟩ := good_alloc hok (.inl rfl) r s rs e (by simpa using rel_at hrl)
      refine .inl ⟨.slice (some ⟨w.heap.size, 0, none⟩) len len, w.alloc (.cells rs e), ?_, β', htr, ?_⟩
      · have hps : (ps.map fun (i, x) => (i, a.eval x)).toList = ps.toList.map fun p => (p.1, a.eval p.2) := by simp
        have hnb : ¬ (len * s > 2 ^ 24) := by omega
        simp only [execOp, ho, Instr.buildSlice, Sem.run_bind, Result.andThen_ok, run_underlying ht, run_size hs, Sem.run_pure, if_neg hnb]
        rw [hps]
        by_cases h0 : len * s = 0
        · rw [if_pos h0] at hcs
          subst hcs
          simp only [if_pos h0, Sem.run_bind, Sem.run_pure, Result.andThen_ok]
          rw [hfill]
          simp [Go.newRow]
        · rw [if_neg h0] at hcs
          subst hcs
          simp only [if_neg h0, Sem.run_bind, Sem.run_pure, Result.andThen_ok, hzr]
          rw [hfill]
          simp [Go.newRow]
      · refine .sl ⟨σ.length, 0, none⟩ ⟨r, s, true⟩ (at_last _) _ _ _ _ (fun _ => by simp [hrlen]) (Nat.le_refl _) fun _ _ _ => ⟨_, hb', rfl, fun _ => ?_⟩
        have : rs.size = r.length := by rw [hrl.1]; simp
        simp [this, hrlen]
  · cases h

end
end Go.Abs
