/- Laws of functions: fields of films that are copied and compared. Conditions: the laws of what they call. -/
import Derived.Test.YtaacdckenhnocaaExactRecoverFilmL61
import Derived.Test.YtaacdckenhnocaaExactRecoverFilmL26
namespace Go.Abs

set_option linter.unusedSimpArgs false
set_option linter.unusedVariables false
set_option maxHeartbeats 8000000
set_option maxRecDepth 20000
/- loop.example/g01201/laws.eqFieldS -/
def laws_eqFieldS_r0 : List SOper := [
 ⟨some 4, none, .mov (.const (.bool false)), 0⟩]
def laws_eqFieldS_r1 : List SOper := [
 ⟨some 6, none, .mov (.tmp 0), 0⟩,
 ⟨some 7, none, .len false (.tmp 6), 1⟩,
 ⟨some 8, none, .mov (.tmp 1), 0⟩,
 ⟨some 9, none, .len false (.tmp 8), 4⟩,
 ⟨some 10, none, .bin .neq .other (.tmp 7) (.tmp 9), 15⟩]
def laws_eqFieldS_r2 : List SOper := [
 ⟨some 4, none, .mov (.const (.bool false)), 0⟩]
def laws_eqFieldS_r3 : List SOper := [
 ⟨some 5, none, .mov (.const (.int .i64 0)), 0⟩]
def laws_eqFieldS_r4 : List SOper := [
 ⟨some 11, none, .mov (.tmp 5), 0⟩,
 ⟨some 12, none, .mov (.tmp 0), 0⟩,
 ⟨some 13, none, .len false (.tmp 12), 2⟩,
 ⟨some 14, none, .bin .lss .other (.tmp 11) (.tmp 13), 7⟩]
def laws_eqFieldS_r5 (i_laws_eqField : FuncId) : List SOper := [
 ⟨some 17, none, .mov (.tmp 0), 0⟩,
 ⟨some 18, none, .mov (.tmp 5), 0⟩,
 ⟨some 19, none, .indexAddrS 3 (.tmp 17) (.tmp 18), 3⟩,
 ⟨some 20, none, .loadN 3 (.tmp 19), 7⟩,
 ⟨some 21, none, .mov (.tmp 1), 0⟩,
 ⟨some 22, none, .mov (.tmp 5), 0⟩,
 ⟨some 23, none, .indexAddrS 3 (.tmp 21) (.tmp 22), 48⟩,
 ⟨some 24, none, .loadN 3 (.tmp 23), 112⟩,
 ⟨some 25, none, .call (.func i_laws_eqField) [(.tmp 20), (.tmp 24)], 255⟩,
 ⟨some 26, none, .un .not (.tmp 25), 511⟩]
def laws_eqFieldS_r6 : List SOper := [
 ⟨some 4, none, .mov (.const (.bool false)), 0⟩]
def laws_eqFieldS_r7 : List SOper := [
 ⟨some 15, none, .mov (.tmp 5), 0⟩,
 ⟨some 16, none, .bin .add .other (.tmp 15) (.const (.int .i64 1)), 1⟩,
 ⟨some 5, none, .mov (.tmp 16), 3⟩]
def laws_eqFieldS_l8 (i_laws_eqField : FuncId) : SCode := (.kp [0,1,5] (.seq (.seq (.region laws_eqFieldS_r4 false) (.kp [0,1,5,14] (.cond (.tmp 14) .skip (.exit 0)))) (.kp [0,1,5] (.seq (.block 1 (.seq (.region (laws_eqFieldS_r5 i_laws_eqField) true) (.kp [0,1,5,26] (.cond (.tmp 26) (.seq (.region laws_eqFieldS_r6 false) .ret) .skip)))) (.kp [0,1,5] (.region laws_eqFieldS_r7 false))))))
def laws_eqFieldS_r9 : List SOper := [
 ⟨some 4, none, .mov (.const (.bool true)), 0⟩]
def laws_eqFieldS (i_laws_eqField : FuncId) : SFunc := ⟨27, [.tmp 4], (.kp [0,1] (.seq (.region laws_eqFieldS_r0 false) (.kp [0,1] (.seq (.seq (.region laws_eqFieldS_r1 false) (.kp [0,1,10] (.cond (.tmp 10) (.seq (.region laws_eqFieldS_r2 false) .ret) .skip))) (.kp [0,1] (.seq (.seq (.region laws_eqFieldS_r3 false) (.kp [0,1,5] (.block 0 (.loop (laws_eqFieldS_l8 i_laws_eqField))))) (.kp [] (.seq (.region laws_eqFieldS_r9 false) .ret))))))))⟩
theorem laws_eqFieldS_r5_dr {i_laws_eqField : FuncId} : drawOkW wStat (laws_eqFieldS_r5 i_laws_eqField) = true := by kernel_rfl
attribute [push_cast] laws_eqFieldS_r5_dr
/-! ### Rows that are owned: places and what lies there -/
abbrev Rws := List (Nat × List Nat)
def slOf (p : Nat × List Nat) : Value := slV p.1 p.2.length
/-- Rows at places from lo on, no two at one place. -/
structure RInv (H : Heap) (lo : Nat) (R : Rws) : Prop where
  own : ∀ p ∈ R, H[p.1]? = some (rowO p.2)
  low : ∀ p ∈ R, lo ≤ p.1
  nod : (R.map Prod.fst).Nodup
theorem RInv.nil (H : Heap) (lo : Nat) : RInv H lo [] := ⟨fun p hp => by simp at hp, fun p hp => by simp at hp, by simp⟩
theorem RInv.lt {H : Heap} {lo : Nat} {R : Rws} (h : RInv H lo R) {p : Nat × List Nat} (hp : p ∈ R) : p.1 < H.length := (List.getElem?_eq_some_iff.1 (h.own p hp)).1
theorem RInv.ext {H : Heap} {lo : Nat} {R : Rws} (h : RInv H lo R) (t : Heap) : RInv (H ++ t) lo R :=
  ⟨fun p hp => by rw [List.getElem?_append_left (h.lt hp)]; exact h.own p hp, h.low, h.nod⟩
theorem RInv.less {H : Heap} {lo lo' : Nat} {R : Rws} (h : RInv H lo R) (hl : lo' ≤ lo) : RInv H lo' R := ⟨h.own, fun p hp => Nat.le_trans hl (h.low p hp), h.nod⟩
/-- What else is changed is no matter. -/
theorem RInv.keep {H H' : Heap} {lo : Nat} {R : Rws} (h : RInv H lo R) (hk : ∀ o, lo ≤ o → o < H.length → H'[o]? = H[o]?) : RInv H' lo R :=
  ⟨fun p hp => by rw [hk _ (h.low p hp) (h.lt hp)]; exact h.own p hp, h.low, h.nod⟩
theorem RInv.snoc {H : Heap} {lo : Nat} {R : Rws} (h : RInv H lo R) (hl : lo ≤ H.length) (xs : List Nat) (t : Heap) : RInv (H ++ rowO xs :: t) lo (R ++ [(H.length, xs)]) := by
  have h' := h.ext (rowO xs :: t)
  refine ⟨fun p hp => ?_, fun p hp => ?_, ?_⟩
  · rcases List.mem_append.1 hp with hp | hp
    · exact h'.own p hp
    · simp only [List.mem_singleton] at hp; subst hp; simp
  · rcases List.mem_append.1 hp with hp | hp
    · exact h'.low p hp
    · simp only [List.mem_singleton] at hp; subst hp; exact hl
  · rw [List.map_append, List.map_cons, List.map_nil, List.nodup_append]
    refine ⟨h.nod, by simp, fun a ha b hb => ?_⟩
    simp only [List.mem_singleton] at hb
    obtain ⟨p, hp, rfl⟩ := List.mem_map.1 ha
    have := h.lt hp
    omega
theorem RInv.snoc3 {H : Heap} {lo : Nat} {R : Rws} (h : RInv H lo R) (hl : lo ≤ H.length) (f : Fld) (t : Heap) :
    RInv (H ++ (rowO f.e :: rowO f.x :: rowO f.y :: t)) lo (R ++ [(H.length, f.e), (H.length + 1, f.x), (H.length + 2, f.y)]) := by
  have h1 := h.snoc hl f.e []
  have h2 := h1.snoc (by simp; omega) f.x []
  have h3 := h2.snoc (by simp; omega) f.y t
  simpa [List.append_assoc] using h3
/-- Rows tell the cells of fields. -/
theorem flsC_of {H : Heap} : ∀ {R : Rws} {fs : List Fld}, (∀ p ∈ R, H[p.1]? = some (rowO p.2)) → R.map Prod.snd = rowsOf fs → FlsC H fs (R.map slOf)
  | [], [], _, _ => trivial
  | p :: q :: r :: R, f :: fs, h, hc => by
    rw [rowsOf_cons] at hc
    simp only [List.map_cons, List.cons.injEq] at hc
    obtain ⟨c1, c2, c3, c4⟩ := hc
    have one : ∀ (p : Nat × List Nat) (xs : List Nat), H[p.1]? = some (rowO p.2) → p.2 = xs → Row H 1 (slOf p) xs.length (f32s xs) := by
      rintro ⟨b, ys⟩ xs hb rfl
      exact Row.whole hb (by omega) (by rw [f32s_length]; omega)
    exact ⟨⟨one _ _ (h p (by simp)) c1, one _ _ (h q (by simp)) c2, one _ _ (h r (by simp)) c3⟩, flsC_of (fun s hs => h s (by simp [hs])) c4⟩
  | _ :: _, [], _, hc => by simp [rowsOf] at hc
  | [], f :: fs, _, hc => by simp [rowsOf] at hc
  | [_], f :: fs, _, hc => by simp [rowsOf] at hc
  | [_, _], f :: fs, _, hc => by simp [rowsOf] at hc
/-- Fields whose rows are owned. -/
structure FlsO (H : Heap) (lo b : Nat) (R : Rws) (fs : List Fld) : Prop where
  row : H[b]? = some ⟨R.map slOf, 3, true⟩
  inv : RInv H lo R
  con : R.map Prod.snd = rowsOf fs
  bl : lo ≤ b
  bn : b ∉ R.map Prod.fst
theorem FlsO.len {H : Heap} {lo b : Nat} {R : Rws} {fs : List Fld} (h : FlsO H lo b R fs) : R.length = fs.length * 3 := by
  rw [← rowsOf_length, ← h.con, List.length_map]
theorem FlsO.read {H : Heap} {lo b : Nat} {R : Rws} {fs : List Fld} (h : FlsO H lo b R fs) : FlsR H (slV b fs.length) fs :=
  ⟨_, Row.whole h.row (by omega) (by rw [List.length_map]; exact h.len), flsC_of h.inv.own h.con⟩
theorem FlsO.ext {H : Heap} {lo b : Nat} {R : Rws} {fs : List Fld} (h : FlsO H lo b R fs) (t : Heap) : FlsO (H ++ t) lo b R fs :=
  ⟨by rw [List.getElem?_append_left (List.getElem?_eq_some_iff.1 h.row).1]; exact h.row, h.inv.ext t, h.con, h.bl, h.bn⟩
def fitsF (fs : List Fld) : Prop := fs.length ≤ 1048576 ∧ ∀ f ∈ fs, fitF f
def laws_eqFieldS_ok (c : Contract) : Prop := ∀ (σ : Heap) (v u : Value) (fs : List Fld), FlsR σ v fs → FlsR σ u fs → fitsF fs → Ret c [v, u] σ fun v' σ' => v' = .bool true ∧ σ' = σ
theorem laws_eqFieldS_law {C : Ctab} {i1 : FuncId} {c1 : Contract} (h1 : Has C i1 c1 laws_eqField_ok) : laws_eqFieldS_ok (gcC C (laws_eqFieldS i1) true) := by
  intro σ v u fs hr hr2 ⟨hn, hfit⟩
  obtain ⟨cs, hrow, hcs⟩ := hr.ex
  obtain ⟨ds, hrow2, hds⟩ := hr2.ex
  have k1 := hrow.ok
  have k2 := hrow2.ok
  refine ret_gc rfl rfl ?_
  repeat' (first | refine ff ?_ | ((first | refine sR ?_ ?_ | refine sC ?_ ?_) <;> (intro hb; (try rw [hb]); (try simp only [bb] at hb); (try (exfalso; first | omega | exact hb trivial)))) | (apply endS trivial; rotate_left; (· exact eva); (· rfl); try refine ⟨?_, rfl⟩) | fail)
  refine Ev.whlC (S := Nat) (fun i => fs.length - i) (fun i => [(5, .int .i64 i)]) (fun i => i ≤ fs.length) 0 (by exact tF) (Nat.zero_le _) ?_
  rintro i F hF hi
  (simp only [List.cons_append, List.nil_append, ↓fget_cons, fkeep_cons, fkeep_nil, Nat.reduceEqDiff, reduceIte] at hF; subst hF)
  by_cases hlt : i < fs.length
  · obtain ⟨f, hf⟩ : ∃ f, fs[i]? = some f := ⟨_, List.getElem?_eq_getElem hlt⟩
    obtain ⟨a, b, c, hc, r1, r2, r3⟩ := hcs.get hf
    obtain ⟨a', b', c', hc', s1, s2, s3⟩ := hds.get hf
    obtain ⟨f1, f2, f3⟩ := hfit f (List.mem_of_getElem? hf)
    repeat' (first | refine ff ?_ | ((first | refine sR ?_ ?_ | refine sC ?_ ?_) <;> (intro hb; (try rw [hb]); (try simp only [bb] at hb); (try (exfalso; first | omega | exact hb trivial)))) | (apply endS trivial; rotate_left; (· exact eva); (· rfl); try refine ⟨?_, rfl⟩) | fail)
    refine EvR.ld3 hrow hlt hc rfl ?_
    repeat' (first | refine ff ?_ | ((first | refine sR ?_ ?_ | refine sC ?_ ?_) <;> (intro hb; (try rw [hb]); (try simp only [bb] at hb); (try (exfalso; first | omega | exact hb trivial)))) | (apply endS trivial; rotate_left; (· exact eva); (· rfl); try refine ⟨?_, rfl⟩) | fail)
    refine EvR.ld3 hrow2 hlt hc' rfl ?_
    repeat' (first | refine ff ?_ | ((first | refine sR ?_ ?_ | refine sC ?_ ?_) <;> (intro hb; (try rw [hb]); (try simp only [bb] at hb); (try (exfalso; first | omega | exact hb trivial)))) | (apply endS trivial; rotate_left; (· exact eva); (· rfl); try refine ⟨?_, rfl⟩) | fail)
    (apply EvR.aCall h1.at_; (· exact eva); (· exact  h1.ok _ a b c a' b' c' f.e f.x f.y ⟨r1.ext _, r2.ext _, r3.ext _⟩ ⟨s1.ext _, s2.ext _, s3.ext _⟩ f1 f2 f3); (rintro _ _ ⟨rfl, rfl⟩; refine EvR.nrm ?_))
    repeat' (first | refine ff ?_ | ((first | refine sR ?_ ?_ | refine sC ?_ ?_) <;> (intro hb; (try rw [hb]); (try simp only [bb] at hb); (try (exfalso; first | omega | exact hb trivial)))) | (apply endS trivial; rotate_left; (· exact eva); (· rfl); try refine ⟨?_, rfl⟩) | fail)
    exact ⟨i + 1, by omega, by exact tF, rfl, by omega⟩
  · obtain rfl : i = fs.length := by omega
    repeat' (first | refine ff ?_ | ((first | refine sR ?_ ?_ | refine sC ?_ ?_) <;> (intro hb; (try rw [hb]); (try simp only [bb] at hb); (try (exfalso; first | omega | exact hb trivial)))) | (apply endS trivial; rotate_left; (· exact eva); (· rfl); try refine ⟨?_, rfl⟩) | fail)
    all_goals (try rfl)

end Go.Abs

