/- The abstract machine: a region whose order is drawn. Condition: the contracts that are used hold. -/
import Derived.Test.YtnibmlgdnhiglaaWvB7
namespace Go.Abs

theorem memb_iff (t : Nat) : ∀ l : List Nat, memb l t = true ↔ t ∈ l
  | [] => by simp [memb]
  | u :: l => by
    simp only [memb, List.mem_cons]
    by_cases h : u = t
    · subst h; simp [Nat.beq_refl]
    · have : Nat.beq u t = false := by
        cases hb : Nat.beq u t with
        | false => rfl
        | true => exact absurd (Nat.eq_of_beq_eq_true hb) h
      rw [this]
      simp only [cond_false]
      rw [memb_iff t l]
      constructor
      · exact .inr
      · rintro (h' | h')
        · exact absurd h'.symm h
        · exact h'

theorem ancOf_bit (anc : List Nat) : ∀ (es : List Edge) (s i : Nat), (es.foldl (fun s e => if Region.binds .any e then s ||| 2 ^ e.on ||| anc.getD e.on 0 else s) s).testBit i = true →
    s.testBit i = true ∨ ∃ e ∈ es, Region.binds .any e = true ∧ (e.on = i ∨ (anc.getD e.on 0).testBit i = true)
  | [], s, i, h => .inl h
  | e :: es, s, i, h => by
    simp only [List.foldl_cons] at h
    rcases ancOf_bit anc es _ i h with h | ⟨e', he, h⟩
    · split at h
      · rename_i hb
        simp only [Nat.testBit_or, Bool.or_eq_true, Nat.testBit_two_pow, decide_eq_true_eq] at h
        rcases h with (h | h) | h
        · exact .inl h
        · exact .inr ⟨e, by simp, hb, .inl h⟩
        · exact .inr ⟨e, by simp, hb, .inr h⟩
      · exact .inl h
    · exact .inr ⟨e', by simp [he], h⟩

section
variable {P : Program} {C : Ctab}

theorem rOps_anc {all : Array Oper} : ∀ {ops : List Oper} {anc : List Nat} {l : List SOper}, rOps P all anc ops = some l → ∀ (j : Nat) (s : SOper) (o : Oper), l[j]? = some s → ops[j]? = some o → s.anc = ancOf (anc ++ (l.take j).map (·.anc)) o.after.toList
  | [], anc, l, h, j, s, o, hs, ho => by simp at ho
  | o :: ops, anc, l, h, j, s, o', hs, ho => by
    unfold rOps at h
    simp only at h
    have key : ∃ (s0 : SOper) (l' : List SOper), s0.anc = ancOf anc o.after.toList ∧ l = s0 :: l' ∧ rOps P all (anc ++ [ancOf anc o.after.toList]) ops = some l' := by
      split at h
      · cases h
      · split at h
        · cases hr : rOps P all (anc ++ [ancOf anc o.after.toList]) ops with
          | none => rw [hr] at h; cases h
          | some l' => rw [hr] at h; cases h; exact ⟨_, l', rfl, rfl, rfl⟩
        · split at h
          · cases hr : rOps P all (anc ++ [ancOf anc o.after.toList]) ops with
            | none => rw [hr] at h; cases h
            | some l' => rw [hr] at h; cases h; exact ⟨_, l', rfl, rfl, rfl⟩
          · cases h
    obtain ⟨s0, l', h1, rfl, h2⟩ := key
    cases j with
    | zero => simp at hs ho; subst hs; subst ho; simpa using h1
    | succ j =>
      have := rOps_anc h2 j s o' (by simpa using hs) (by simpa using ho)
      rw [this, ← h1]
      simp

theorem backEdges_spec : ∀ {ops : List Oper} {n : Nat}, backEdges n ops = true → ∀ (j : Nat) (o : Oper), ops[j]? = some o → ∀ e ∈ o.after.toList, Region.binds .any e = true → e.on < n + j
  | [], n, _, j, o, ho => by simp at ho
  | x :: ops, n, h, j, o, ho => by
    simp only [backEdges, Bool.and_eq_true, List.all_eq_true] at h
    intro e he hb
    cases j with
    | zero =>
      simp at ho; subst ho
      have := h.1 e he
      simp [hb] at this
      exact this
    | succ j =>
      have := backEdges_spec h.2 j o (by simpa using ho) e he hb
      omega

theorem okAgainst_spec {o : SOper} : ∀ {done : List SOper} {n : Nat}, okAgainst C o n done = true → ∀ (i : Nat) (x : SOper), done[i]? = some x → clash C x o = true → o.anc.testBit (n + i) = true
  | [], n, _, i, x, hx => by simp at hx
  | y :: done, n, h, i, x, hx => by
    simp only [okAgainst, Bool.and_eq_true] at h
    intro hc
    cases i with
    | zero => simp at hx; subst hx; simpa [hc] using h.1
    | succ i =>
      have := okAgainst_spec h.2 i x (by simpa using hx) hc
      rw [show n + (i + 1) = n + 1 + i by omega]; exact this

theorem drawOkGo_spec : ∀ {rest done : List SOper}, drawOkGo C done rest = true → ∀ (i j : Nat) (x y : SOper), i < done.length + j → rest[j]? = some y → (done ++ rest)[i]? = some x → clash C x y = true → y.anc.testBit i = true
  | [], done, _, i, j, x, y, _, hy, _ => by simp at hy
  | o :: rest, done, h, i, j, x, y, hij, hy, hx => by
    simp only [drawOkGo, Bool.and_eq_true] at h
    intro hc
    cases j with
    | zero =>
      simp at hy; subst hy
      rw [List.getElem?_append_left (by omega)] at hx
      have := okAgainst_spec h.1 i x hx hc
      simpa using this
    | succ j =>
      exact drawOkGo_spec h.2 i j x y (by simp; omega) (by simpa using hy) (by simpa using hx) hc

/-- All that a drawn region is known for. -/
structure Drawn (P : Program) (C : Ctab) (ops : Array Oper) (l : List SOper) : Prop where
  len : l.length = ops.size
  rel : ∀ (i : Nat) (o : Oper) (s : SOper), ops[i]? = some o → l[i]? = some s → OpRel P ops o s
  back : ∀ (j : Nat) (o : Oper), ops[j]? = some o → ∀ e ∈ o.after.toList, Region.binds .any e = true → e.on < j
  anc : ∀ (j : Nat) (s : SOper) (o : Oper), l[j]? = some s → ops[j]? = some o → ∀ i, s.anc.testBit i = true → ∃ e ∈ o.after.toList, Region.binds .any e = true ∧ (e.on = i ∨ ∃ s', l[e.on]? = some s' ∧ s'.anc.testBit i = true)
  ord : ∀ (i j : Nat) (x y : SOper), i < j → l[i]? = some x → l[j]? = some y → clash C x y = true → y.anc.testBit i = true

theorem drawn_of {ops : Array Oper} {l : List SOper} (h : rOps P ops [] ops.toList = some l) (hb : backEdges 0 ops.toList = true) (hd : drawOk C l = true) : Drawn P C ops l := by
  obtain ⟨h1, h2⟩ := rOps_rel h
  have hback : ∀ (j : Nat) (o : Oper), ops[j]? = some o → ∀ e ∈ o.after.toList, Region.binds .any e = true → e.on < j := by
    intro j o ho e he hbn
    have := backEdges_spec hb j o (by simpa using ho) e he hbn
    omega
  refine ⟨by simpa using h1, fun i o s ho hs => h2 i o s (by simpa using ho) hs, hback, ?_, ?_⟩
  · intro j s o hs ho i hi
    have ha := rOps_anc h j s o hs (by simpa using ho)
    rw [ha, List.nil_append] at hi
    rcases ancOf_bit _ _ _ _ hi with h0 | ⟨e, he, hbn, h3⟩
    · simp at h0
    · refine ⟨e, he, hbn, ?_⟩
      rcases h3 with h3 | h3
      · exact .inl h3
      · right
        have hlt := hback j o ho e he hbn
        have hjl : j < l.length := by
          rcases Nat.lt_or_ge j l.length with h' | h'
          · exact h'
          · rw [List.getElem?_eq_none h'] at hs; cases hs
        refine ⟨l[e.on]'(by omega), by simp [show e.on < l.length by omega], ?_⟩
        rw [List.getD_eq_getElem?_getD, List.getElem?_map, List.getElem?_take, if_pos hlt] at h3
        simpa [show e.on < l.length by omega] using h3
  · intro i j x y hij hx hy hc
    exact drawOkGo_spec (done := []) hd i j x y (by simpa using hij) hy (by simpa using hx) hc

/-- What has been done is closed towards what stands ahead. -/
def Closed (ops : Array Oper) (L : Nat → Bool) : Prop := ∀ (j : Nat) (o : Oper), L j = true → ops[j]? = some o → ∀ e ∈ o.after.toList, Region.binds .any e = true → L e.on = true

theorem anc_done {ops : Array Oper} {l : List SOper} (D : Drawn P C ops l) {L : Nat → Bool} (hL : Closed ops L) : ∀ (j : Nat) (s : SOper) (o : Oper), l[j]? = some s → ops[j]? = some o → (∀ e ∈ o.after.toList, Region.binds .any e = true → L e.on = true) →
    ∀ i, s.anc.testBit i = true → L i = true := by
  intro j
  induction j using Nat.strongRecOn with
  | _ j ih =>
    intro s o hs ho hedges i hi
    obtain ⟨e, he, hb, h⟩ := D.anc j s o hs ho i hi
    rcases h with rfl | ⟨s', hs', h⟩
    · exact hedges e he hb
    · have hlt := D.back j o ho e he hb
      have hjl : e.on < l.length := by
        rcases Nat.lt_or_ge e.on l.length with h' | h'
        · exact h'
        · rw [List.getElem?_eq_none h'] at hs'; cases hs'
      have hol : e.on < ops.size := by rw [← D.len]; exact hjl
      have ho' : ops[e.on]? = some ops[e.on] := by simp [hol]
      exact ih e.on hlt s' _ hs' ho' (fun e2 he2 hb2 => hL e.on _ (hedges e he hb) ho' e2 he2 hb2) i h

end
end Go.Abs
