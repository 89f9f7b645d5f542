/- The abstract machine: drawn regions with quiet calls, new rows, what a table has. No condition beyond those written. -/
import Derived.Test.YtnibmlgdnhiglaaWvF1
namespace Go.Abs

/-- What a table has at a number. -/
structure Has (C : Ctab) (i : FuncId) (c : Contract) (ok : Contract → Prop) : Prop where
  at_ : C i = some c
  quiet : c.quiet = true
  ok : ok c

/-- The same of a function that writes. -/
structure HasW (C : Ctab) (i : FuncId) (c : Contract) (ok : Contract → Prop) : Prop where
  at_ : C i = some c
  ok : ok c

def cquiet : Ctab := fun _ => some ⟨fun _ _ => none, true⟩

def callsOf : List SOper → List FuncId
  | [] => []
  | o :: rest => match o.op with | .call (.func g) _ => g :: callsOf rest | _ => callsOf rest

def quietAll (C : Ctab) : List FuncId → Prop
  | [] => True
  | g :: l => (∃ c, C g = some c ∧ c.quiet = true) ∧ quietAll C l

theorem writes_quiet {C : Ctab} : ∀ {ops : List SOper}, quietAll C (callsOf ops) → ∀ o ∈ ops, o.op.writes C = o.op.writes cquiet
  | [], _, o, ho => by cases ho
  | x :: rest, h, o, ho => by
    have key : quietAll C (callsOf rest) ∧ x.op.writes C = x.op.writes cquiet := by
      unfold callsOf at h
      split at h
      · rename_i g as he
        obtain ⟨⟨c, h1, h2⟩, h3⟩ := h
        refine ⟨h3, ?_⟩
        rw [he]
        simp [SOp.writes, h1, h2, cquiet]
      · rename_i hne
        refine ⟨h, ?_⟩
        cases hx : x.op with
        | call f as =>
          cases f with
          | func g => exact absurd hx (hne g as)
          | _ => rfl
        | _ => rfl
    rcases List.mem_cons.1 ho with rfl | ho
    · exact key.2
    · exact writes_quiet key.1 o ho

theorem drawOk_congr {C C' : Ctab} {ops : List SOper} (h : ∀ o ∈ ops, o.op.writes C = o.op.writes C') : drawOk C ops = drawOk C' ops := by
  have hag : ∀ (o : SOper) (l : List SOper) (n : Nat), o.op.writes C = o.op.writes C' → (∀ x ∈ l, x.op.writes C = x.op.writes C') → okAgainst C o n l = okAgainst C' o n l := by
    intro o l
    induction l with
    | nil => intro n _ _; rfl
    | cons x l ih =>
      intro n ho hl
      unfold okAgainst clash
      rw [ho, hl x (by simp), ih (n + 1) ho (fun y hy => hl y (by simp [hy]))]
  have hgo : ∀ (l done : List SOper), (∀ x ∈ l, x.op.writes C = x.op.writes C') → (∀ x ∈ done, x.op.writes C = x.op.writes C') → drawOkGo C done l = drawOkGo C' done l := by
    intro l
    induction l with
    | nil => intro done _ _; rfl
    | cons x l ih =>
      intro done hl hd
      unfold drawOkGo
      rw [hag x done 0 (hl x (by simp)) hd, ih (done ++ [x]) (fun y hy => hl y (by simp [hy])) (fun y hy => by
        rcases List.mem_append.1 hy with hy | hy
        · exact hd y hy
        · rw [List.mem_singleton.1 hy]; exact hl x (by simp))]
  exact hgo ops [] h (fun x hx => by cases hx)

theorem Ev.regionQ {C : Ctab} {F : Frame} {σ : Heap} {Q} {ops : List SOper} (hd : drawOk cquiet ops = true) (hq : quietAll C (callsOf ops)) (h : EvR C ops F σ fun F' σ' => Q .normal F' σ') : Ev C (.region ops true) F σ Q :=
  Ev.regionD (by rw [drawOk_congr (writes_quiet hq)]; exact hd) h

theorem make1_app (σ l : Heap) (bytes : Nat) (z : Value) (k k' : IntKind) (n m : Int) : aMakeSlice (σ ++ l) 1 bytes [z] (.int k n) (.int k' m) =
    if 0 ≤ n ∧ n = m ∧ n * bytes ≤ 2 ^ 46 ∧ n ≤ maxI ∧ constOk z = true then some (.slice (some ⟨σ.length + l.length, 0, none⟩) n.toNat n.toNat, σ ++ (l ++ [⟨List.replicate n.toNat z, 1, true⟩])) else none := by
  have : ∀ n : Nat, (List.replicate n [z]).flatten = List.replicate n z := by
    intro n
    induction n with
    | zero => rfl
    | succ n ih => rw [List.replicate_succ, List.flatten_cons, ih]; rfl
  unfold aMakeSlice
  simp only [this, newRow, List.length_append, List.append_assoc]
  simp

theorem make1_ok (σ l : Heap) (bytes : Nat) (z : Value) (k k' : IntKind) (n : Int) (h0 : 0 ≤ n) (h1 : n ≤ 1099511627776) (hb : bytes ≤ 64) : aMakeSlice (σ ++ l) 1 bytes [z] (.int k n) (.int k' n) =
    if constOk z = true then some (.slice (some ⟨σ.length + l.length, 0, none⟩) n.toNat n.toNat, σ ++ (l ++ [⟨List.replicate n.toNat z, 1, true⟩])) else none := by
  rw [make1_app]
  have e1 : n * (bytes : Int) ≤ 2 ^ 46 := Int.le_trans (Int.mul_le_mul_of_nonneg_left (show (bytes : Int) ≤ 64 by omega) h0) (by omega)
  have e2 : n ≤ (maxI : Int) := by unfold maxI; omega
  by_cases hz : constOk z = true
  · rw [if_pos ⟨h0, rfl, e1, e2, hz⟩, if_pos hz]
  · rw [if_neg (fun h => hz h.2.2.2.2), if_neg hz]

theorem f32s_set (xs : List Nat) (i b : Nat) : (f32s xs).set i (.float .f32 b) = f32s (xs.set i b) := by
  unfold f32s; rw [List.map_set]
theorem f32s_replicate (n b : Nat) : List.replicate n (Value.float .f32 b) = f32s (List.replicate n b) := by
  unfold f32s; rw [List.map_replicate]
theorem f32s_length (xs : List Nat) : (f32s xs).length = xs.length := List.length_map _
theorem f32s_const (xs : List Nat) (r : Bool) : allConst ⟨f32s xs, 1, r⟩ = true := by
  simp [allConst, f32s, constOk]
theorem f32s_get (xs : List Nat) (i : Nat) (h : i < xs.length) : (f32s xs)[i]? = some (.float .f32 (xs.getD i 0)) := by
  unfold f32s
  rw [List.getElem?_map, List.getElem?_eq_getElem h, List.getD_eq_getElem?_getD, List.getElem?_eq_getElem h]
  rfl

theorem fill_step (xs : List Nat) (z i : Nat) (h : i < xs.length) : (xs.take i ++ List.replicate (xs.length - i) z).set i (xs.getD i 0) = xs.take (i + 1) ++ List.replicate (xs.length - (i + 1)) z := by
  rw [List.set_append_right _ _ (by simp; omega), List.length_take, Nat.min_eq_left (by omega), Nat.sub_self]
  have : xs.length - i = (xs.length - (i + 1)) + 1 := by omega
  have e : xs.take (i + 1) = xs.take i ++ [xs[i]] := by rw [List.take_add_one, List.getElem?_eq_getElem h]; rfl
  rw [this, List.replicate_succ, List.set_cons_zero, List.getD_eq_getElem?_getD, e, List.getElem?_eq_getElem h, List.append_assoc]
  rfl

theorem fkeep_none (F : Frame) : fkeep [] F = [] := rfl

theorem gc_lt (n k : Nat) : (n + k < n) = False := by simp
theorem gc_lt0 (n : Nat) : (n < n) = False := by simp

end Go.Abs
