/- Laws of functions, some texts put together. Conditions: the laws of what they call. -/
import Derived.Test.YtdlicidmkakooaaExactTravelFieldL30
import Derived.Test.YtdlicidmkakooaaExactTravelFieldL05
import Derived.Test.YtdlicidmkakooaaExactTravelFieldWvH3
import Derived.Test.YtdlicidmkakooaaExactTravelFieldL26
namespace Go.Abs

set_option linter.unusedSimpArgs false
set_option linter.unusedVariables false
set_option maxHeartbeats 8000000
set_option maxRecDepth 20000


/-! ### Rows whose elements have three cells -/
section
variable {C : Ctab} {F : Frame} {τ l : Heap}
end

/-! ### Fields one after another -/
def rowsOf (fs : List Fld) : List (List Nat) := fs.flatMap fun f => [f.e, f.x, f.y]
theorem rowsOf_cons (f : Fld) (fs : List Fld) : rowsOf (f :: fs) = f.e :: f.x :: f.y :: rowsOf fs := rfl
theorem rowsOf_append (a b : List Fld) : rowsOf (a ++ b) = rowsOf a ++ rowsOf b := by simp [rowsOf]
theorem rowsOf_length (fs : List Fld) : (rowsOf fs).length = fs.length * 3 := by
  induction fs with
  | nil => rfl
  | cons f fs ih => rw [rowsOf_cons]; simp only [List.length_cons, ih]; omega
/-- Cells that tell of fields. -/
def FlsC (σ : Heap) : List Fld → List Value → Prop
  | [], [] => True
  | f :: fs, a :: b :: c :: cs => FlR σ a b c f.e f.x f.y ∧ FlsC σ fs cs
  | _, _ => False
theorem FlsC.ext {σ : Heap} (τ : Heap) : ∀ {fs : List Fld} {cs : List Value}, FlsC σ fs cs → FlsC (σ ++ τ) fs cs
  | [], [], h => h
  | _ :: _, _ :: _ :: _ :: _, h => ⟨h.1.ext τ, FlsC.ext τ h.2⟩
  | [], _ :: _, h => False.elim h
  | _ :: _, [], h => False.elim h
  | _ :: _, [_], h => False.elim h
  | _ :: _, [_, _], h => False.elim h
theorem FlsC.get {σ : Heap} : ∀ {fs : List Fld} {cs : List Value} {i : Nat} {f : Fld}, FlsC σ fs cs → fs[i]? = some f → ∃ a b c, (cs.drop (i * 3)).take 3 = [a, b, c] ∧ FlR σ a b c f.e f.x f.y
  | g :: fs, a :: b :: c :: cs, 0, f, h, hf => by simp at hf; subst hf; exact ⟨a, b, c, rfl, h.1⟩
  | g :: fs, a :: b :: c :: cs, i + 1, f, h, hf => by
    obtain ⟨a', b', c', h1, h2⟩ := FlsC.get (i := i) h.2 (by simpa using hf)
    refine ⟨a', b', c', ?_, h2⟩
    rw [← h1, show (i + 1) * 3 = i * 3 + 3 by omega]
    rfl
  | [], [], _, _, _, hf => by simp at hf
  | [], _ :: _, _, _, h, _ => False.elim h
  | _ :: _, [], _, _, h, _ => False.elim h
  | _ :: _, [_], _, _, h, _ => False.elim h
  | _ :: _, [_, _], _, _, h, _ => False.elim h
/-- A row of fields that may be read. -/
structure FlsR (σ : Heap) (v : Value) (fs : List Fld) : Prop where
  ex : ∃ cs, Row σ 3 v fs.length cs ∧ FlsC σ fs cs
theorem FlsR.ext {σ : Heap} {v : Value} {fs : List Fld} (h : FlsR σ v fs) (τ : Heap) : FlsR (σ ++ τ) v fs := by
  obtain ⟨cs, h1, h2⟩ := h.ex
  exact ⟨cs, h1.ext τ, h2.ext τ⟩
theorem FlsR.ok {σ : Heap} {v : Value} {fs : List Fld} (h : FlsR σ v fs) : cellOk v = true := by
  obtain ⟨cs, h1, h2⟩ := h.ex
  exact h1.ok
end Go.Abs


namespace Go.Abs

set_option linter.unusedSimpArgs false
set_option linter.unusedVariables false
set_option maxHeartbeats 8000000
set_option maxRecDepth 20000
/-! ### Rows that are owned: places and what lies there -/
abbrev Rws := List (Nat × List Nat)
def slOf (p : Nat × List Nat) : Value := slV p.1 p.2.length
/-- Rows at places from lo on, no two at one place. -/
structure RInv (H : Heap) (lo : Nat) (R : Rws) : Prop where
  own : ∀ p ∈ R, H[p.1]? = some (rowO p.2)
  low : ∀ p ∈ R, lo ≤ p.1
  nod : (R.map Prod.fst).Nodup
theorem RInv.nil (H : Heap) (lo : Nat) : RInv H lo [] := ⟨fun p hp => by simp at hp, fun p hp => by simp at hp, by simp⟩
theorem RInv.lt {H : Heap} {lo : Nat} {R : Rws} (h : RInv H lo R) {p : Nat × List Nat} (hp : p ∈ R) : p.1 < H.length := (List.getElem?_eq_some_iff.1 (h.own p hp)).1
theorem RInv.ext {H : Heap} {lo : Nat} {R : Rws} (h : RInv H lo R) (t : Heap) : RInv (H ++ t) lo R :=
  ⟨fun p hp => by rw [List.getElem?_append_left (h.lt hp)]; exact h.own p hp, h.low, h.nod⟩
/-- What else is changed is no matter. -/
theorem RInv.keep {H H' : Heap} {lo : Nat} {R : Rws} (h : RInv H lo R) (hk : ∀ o, lo ≤ o → o < H.length → H'[o]? = H[o]?) : RInv H' lo R :=
  ⟨fun p hp => by rw [hk _ (h.low p hp) (h.lt hp)]; exact h.own p hp, h.low, h.nod⟩
theorem RInv.snoc {H : Heap} {lo : Nat} {R : Rws} (h : RInv H lo R) (hl : lo ≤ H.length) (xs : List Nat) (t : Heap) : RInv (H ++ rowO xs :: t) lo (R ++ [(H.length, xs)]) := by
  have h' := h.ext (rowO xs :: t)
  refine ⟨fun p hp => ?_, fun p hp => ?_, ?_⟩
  · rcases List.mem_append.1 hp with hp | hp
    · exact h'.own p hp
    · simp only [List.mem_singleton] at hp; subst hp; simp
  · rcases List.mem_append.1 hp with hp | hp
    · exact h'.low p hp
    · simp only [List.mem_singleton] at hp; subst hp; exact hl
  · rw [List.map_append, List.map_cons, List.map_nil, List.nodup_append]
    refine ⟨h.nod, by simp, fun a ha b hb => ?_⟩
    simp only [List.mem_singleton] at hb
    obtain ⟨p, hp, rfl⟩ := List.mem_map.1 ha
    have := h.lt hp
    omega
theorem RInv.snoc3 {H : Heap} {lo : Nat} {R : Rws} (h : RInv H lo R) (hl : lo ≤ H.length) (f : Fld) (t : Heap) :
    RInv (H ++ (rowO f.e :: rowO f.x :: rowO f.y :: t)) lo (R ++ [(H.length, f.e), (H.length + 1, f.x), (H.length + 2, f.y)]) := by
  have h1 := h.snoc hl f.e []
  have h2 := h1.snoc (by simp; omega) f.x []
  have h3 := h2.snoc (by simp; omega) f.y t
  simpa [List.append_assoc] using h3
/-- Rows tell the cells of fields. -/
theorem flsC_of {H : Heap} : ∀ {R : Rws} {fs : List Fld}, (∀ p ∈ R, H[p.1]? = some (rowO p.2)) → R.map Prod.snd = rowsOf fs → FlsC H fs (R.map slOf)
  | [], [], _, _ => trivial
  | p :: q :: r :: R, f :: fs, h, hc => by
    rw [rowsOf_cons] at hc
    simp only [List.map_cons, List.cons.injEq] at hc
    obtain ⟨c1, c2, c3, c4⟩ := hc
    have one : ∀ (p : Nat × List Nat) (xs : List Nat), H[p.1]? = some (rowO p.2) → p.2 = xs → Row H 1 (slOf p) xs.length (f32s xs) := by
      rintro ⟨b, ys⟩ xs hb rfl
      exact Row.whole hb (by omega) (by rw [f32s_length]; omega)
    exact ⟨⟨one _ _ (h p (by simp)) c1, one _ _ (h q (by simp)) c2, one _ _ (h r (by simp)) c3⟩, flsC_of (fun s hs => h s (by simp [hs])) c4⟩
  | _ :: _, [], _, hc => by simp [rowsOf] at hc
  | [], f :: fs, _, hc => by simp [rowsOf] at hc
  | [_], f :: fs, _, hc => by simp [rowsOf] at hc
  | [_, _], f :: fs, _, hc => by simp [rowsOf] at hc
/-- Fields whose rows are owned. -/
structure FlsO (H : Heap) (lo b : Nat) (R : Rws) (fs : List Fld) : Prop where
  row : H[b]? = some ⟨R.map slOf, 3, true⟩
  inv : RInv H lo R
  con : R.map Prod.snd = rowsOf fs
  bl : lo ≤ b
  bn : b ∉ R.map Prod.fst
theorem FlsO.len {H : Heap} {lo b : Nat} {R : Rws} {fs : List Fld} (h : FlsO H lo b R fs) : R.length = fs.length * 3 := by
  rw [← rowsOf_length, ← h.con, List.length_map]
theorem FlsO.read {H : Heap} {lo b : Nat} {R : Rws} {fs : List Fld} (h : FlsO H lo b R fs) : FlsR H (slV b fs.length) fs :=
  ⟨_, Row.whole h.row (by omega) (by rw [List.length_map]; exact h.len), flsC_of h.inv.own h.con⟩
theorem FlsO.ext {H : Heap} {lo b : Nat} {R : Rws} {fs : List Fld} (h : FlsO H lo b R fs) (t : Heap) : FlsO (H ++ t) lo b R fs :=
  ⟨by rw [List.getElem?_append_left (List.getElem?_eq_some_iff.1 h.row).1]; exact h.row, h.inv.ext t, h.con, h.bl, h.bn⟩
end Go.Abs

