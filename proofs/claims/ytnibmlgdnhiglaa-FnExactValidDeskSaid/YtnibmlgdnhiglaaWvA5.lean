/- The abstract machine: operations that only read stand for the model's. No condition. -/
import Derived.Test.YtnibmlgdnhiglaaWvA4
namespace Go.Abs

def FOk (β : Inj) (σ : Heap) (F : Frame) (tmps : Array Value) : Prop := ∀ t, VRel β σ (fget F t) (tmps.getD t undef)

theorem FOk.later {β β' : Inj} {σ σ' : Heap} (L : Later β σ β' σ') {F : Frame} {tmps : Array Value} (h : FOk β σ F tmps) : FOk β' σ' F tmps := fun t => (h t).later L

theorem eval_sound {β : Inj} {σ : Heap} {F : Frame} {a : Act} (h : FOk β σ F a.tmps) (x : Operand) : VRel β σ (eval F x) (a.eval x) := by
  cases x with
  | tmp t => exact h t
  | func f => exact .func _ _ _ _ _ rfl rfl (fun i v v' h => by simp at h) (fun i v v' h => by simp at h)
  | global g => exact .dead _
  | const v =>
    unfold eval Act.eval
    cases v with
    | agg cs =>
      dsimp only
      split
      · rename_i hall
        refine .agg cs cs rfl fun i v v' h h' => ?_
        rw [h] at h'; cases h'
        refine vrel_const ?_
        rw [List.all_eq_true] at hall
        refine hall v ?_
        rw [Array.mem_toList_iff]
        exact Array.mem_of_getElem? h
      · exact .dead _
    | _ =>
      dsimp only
      split
      · exact vrel_const (by assumption)
      · exact .dead _

theorem vrel_oneCell {β : Inj} {σ : Heap} {v c : Value} (h : VRel β σ v c) (hv : cellOk v = true) : c.oneCell' = true := by
  cases h <;> first | rfl | (simp [cellOk, dead] at hv; done) | skip

theorem cellOk_cells {v : Value} (h : cellOk v = true) : v.cells.toList = [v] := by
  cases v <;> first | rfl | (simp [cellOk] at h; done)

/-- The cells of what stands for a value stand for its cells. -/
theorem vrel_cells {β : Inj} {σ : Heap} {v c : Value} (h : VRel β σ v c) (hv : v.cells.toList.all cellOk = true) :
    LRel β σ v.cells.toList c.cells.toList ∧ ∀ u ∈ c.cells.toList, u.oneCell' = true := by
  have aux : ∀ v c : Value, VRel β σ v c → cellOk v = true → v.cells.toList = [v] → c.cells.toList = [c] → LRel β σ v.cells.toList c.cells.toList ∧ ∀ u ∈ c.cells.toList, u.oneCell' = true := by
    intro v c h hv e1 e2
    rw [e1, e2]
    refine ⟨⟨rfl, fun i x y hx hy => ?_⟩, fun u hu => ?_⟩
    · cases i with
      | zero => simp at hx hy; subst hx; subst hy; exact h
      | succ i => simp at hx
    · simp at hu; subst hu; exact vrel_oneCell h hv
  cases h with
  | agg x x' hx h1 =>
    refine ⟨⟨by simpa [Value.cells] using hx, fun i v c hi hi' => h1 i v c (by simpa [Value.cells] using hi) (by simpa [Value.cells] using hi')⟩, fun u hu => ?_⟩
    simp only [Value.cells] at hu hv
    obtain ⟨i, hi, rfl⟩ := List.getElem_of_mem hu
    have hi2 : i < x'.size := by simpa using hi
    have hi1 : i < x.size := by omega
    have := h1 i x[i] x'[i] (by simp [hi1]) (by simp [hi2])
    have hok : cellOk x[i] = true := (List.all_eq_true.1 hv) _ (by simp)
    simpa using vrel_oneCell this hok
  | dead c => simp [Value.cells, dead, cellOk] at hv
  | tuple x x' hx h1 => simp [Value.cells, cellOk] at hv
  | bool b => exact aux _ _ (.bool b) (by simpa [Value.cells] using hv) rfl rfl
  | int k n => exact aux _ _ (.int k n) (by simpa [Value.cells] using hv) rfl rfl
  | float h => exact aux _ _ (.float h) (by simpa [Value.cells] using hv) rfl rfl
  | string s => exact aux _ _ (.string s) (by simpa [Value.cells] using hv) rfl rfl
  | ptrNil => exact aux _ _ .ptrNil (by simpa [Value.cells] using hv) rfl rfl
  | ptr a obj hσ c hk h => exact aux _ _ (.ptr a obj hσ c hk h) (by simpa [Value.cells] using hv) rfl rfl
  | slNil n m => exact aux _ _ (.slNil n m) (by simpa [Value.cells] using hv) rfl rfl
  | sl a obj hσ len cap c cap' hsz hcap h => exact aux _ _ (.sl a obj hσ len cap c cap' hsz hcap h) (by simpa [Value.cells] using hv) rfl rfl
  | func f x y x' y' hx hy h1 h2 => exact aux _ _ (.func f x y x' y' hx hy h1 h2) (by simpa [Value.cells] using hv) rfl rfl
  | nilFunc => exact aux _ _ .nilFunc (by simpa [Value.cells] using hv) rfl rfl
  | nilIface => exact aux _ _ .nilIface (by simpa [Value.cells] using hv) rfl rfl
  | iface t v v' h => exact aux _ _ (.iface t v v' h) (by simpa [Value.cells] using hv) rfl rfl

/-! ### Loads -/

theorem run_isAgg {P : Program} {t : TypeId} {b : Bool} (h : aggT P t = some b) (w : World) : (isAgg t).run P w = .ok b w := by
  unfold aggT at h
  unfold isAgg
  split at h <;> cases h <;> rename_i hu
  · simp [run_underlying hu]
  · simp [run_underlying hu]
  · rename_i d hn1 hn2
    simp only [Sem.run_bind, run_underlying hu, Result.andThen_ok]
    cases d <;> first | rfl | (exact absurd rfl (hn1 _)) | (exact absurd rfl (hn2 _ _))

theorem run_size {P : Program} {t : TypeId} {n : Nat} (h : sizeOfT P t = some n) (w : World) : (sizeOf t).run P w = .ok n w := by
  unfold sizeOfT at h
  cases hi : P.info? t with
  | none => rw [hi] at h; cases h
  | some i => rw [hi] at h; cases h; simp [sizeOf, typeInfo, hi]

theorem ptr_valid {β : Inj} {σ : Heap} {a : Addr} {c : Value} {obj : AObj} (h : VRel β σ (.pointer (some a)) c) (ho : σ[a.block]? = some obj) (hp : ptrOk obj a.spot = true) :
    ∃ s, β a.block = some s ∧ c = .pointer (some ⟨s.blk, s.base + a.off, none⟩) := by
  cases h with
  | ptr a obj' hσ c hk h =>
    rw [hσ] at ho; cases ho
    obtain ⟨s, hs, hc⟩ := h hp
    exact ⟨s, hs, by rw [hc]⟩

theorem load1_sound {P : Program} {β : Inj} {σ : Heap} {w : World} (hok : InjOk β σ w) {t : TypeId} (ht : aggT P t = some false) {p v c : Value} (h : aLoad1 σ p = some v) (hr : VRel β σ p c) :
    ∃ u, (Instr.loadAt t c).run P w = .ok u w ∧ VRel β σ v u := by
  unfold aLoad1 at h
  split at h
  · rename_i a
    split at h
    · rename_i obj ho
      split at h
      · rename_i hp
        obtain ⟨s, hs, rfl⟩ := ptr_valid hr ho hp
        obtain ⟨cc, e, fz, hb, hcells, _⟩ := hok.obj _ _ _ ho hs
        obtain ⟨u, hu, hv⟩ := hcells _ _ h
        refine ⟨u, ?_, hv⟩
        have hcell : w.cell? ⟨s.blk, s.base + a.off, none⟩ = some u := by simp [World.cell?, hb, hu]
        simp [Instr.loadAt, Instr.sureAddr, loadVar, run_isAgg ht, run_load, hcell]
      · cases h
    · cases h
  · cases h

theorem loadCells_of {P : Program} {β : Inj} {σ : Heap} {w : World} (hok : InjOk β σ w) {o : Nat} {obj : AObj} {s : Spot} (ho : σ[o]? = some obj) (hs : β o = some s) (off n : Nat) (hle : off + n ≤ obj.cells.length) :
    ∃ l : List Value, (loadCells ⟨s.blk, s.base + off, none⟩ n).run P w = .ok l.toArray w ∧ LRel β σ ((obj.cells.drop off).take n) l := by
  obtain ⟨cc, e, fz, hb, hcells, _⟩ := hok.obj _ _ _ ho hs
  have hlen : ((obj.cells.drop off).take n).length = n := by simp; omega
  refine ⟨(List.range n).map fun j => cc.getD (s.base + off + j) undef, ?_, ?_, ?_⟩
  · have := run_loadCells (P := P) (w := w) ⟨s.blk, s.base + off, none⟩ n (fun j => cc.getD (s.base + off + j) undef) (fun j hj => by
      have hadd : (⟨s.blk, s.base + off, none⟩ : Addr).add j = ⟨s.blk, s.base + off + j, none⟩ := by
        unfold Addr.add; split
        · rename_i h0; subst h0; rfl
        · rfl
      rw [hadd]
      obtain ⟨u, hu, _⟩ := hcells (off + j) obj.cells[off + j] (by simp [show off + j < obj.cells.length by omega])
      have hu' : cc[s.base + off + j]? = some u := by rw [← hu]; congr 1; omega
      simp [World.cell?, hb, hu', Array.getD_eq_getD_getElem?])
    rw [this]
  · simp [hlen]
  · intro i v c hi hc
    have hin : i < n := by
      rcases Nat.lt_or_ge i n with h' | h'
      · exact h'
      · rw [List.getElem?_eq_none (by rw [hlen]; exact h')] at hi; cases hi
    simp [hin] at hc
    subst hc
    rw [List.getElem?_take, if_pos hin, List.getElem?_drop] at hi
    obtain ⟨u, hu, hv⟩ := hcells (off + i) v hi
    have hu' : cc[s.base + off + i]? = some u := by rw [← hu]; congr 1; omega
    simpa [Array.getD_eq_getD_getElem?, hu'] using hv

theorem loadN_sound {P : Program} {β : Inj} {σ : Heap} {w : World} (hok : InjOk β σ w) {t : TypeId} {n : Nat} (ht : aggT P t = some true) (hn : sizeOfT P t = some n) {p v c : Value} (h : aLoadN σ n p = some v) (hr : VRel β σ p c) :
    ∃ u, (Instr.loadAt t c).run P w = .ok u w ∧ VRel β σ v u := by
  unfold aLoadN at h
  split at h
  · rename_i a
    split at h
    · rename_i obj ho
      split at h
      · rename_i hp
        cases h
        simp only [Bool.and_eq_true, decide_eq_true_eq] at hp
        obtain ⟨s, hs, rfl⟩ := ptr_valid hr ho hp.1
        obtain ⟨l, hl, hrel⟩ := loadCells_of (P := P) hok ho hs a.off n hp.2
        refine ⟨.agg l.toArray, ?_, ?_⟩
        · simp [Instr.loadAt, Instr.sureAddr, loadVar, run_isAgg ht, run_size hn, hl]
        · refine .agg _ _ (by simpa using hrel.1) fun i v v' hv hv' => hrel.2 i v v' (by simpa using hv) (by simpa using hv')
      · cases h
    · cases h
  · cases h

end Go.Abs
