/- Films as arguments of rows, their sizes, and what stays of a heap. Conditions: as at each theorem. -/
import Derived.Test.YtaacdckenhnocaaExactRecoverFilmL68
namespace Go.Abs
set_option linter.unusedSimpArgs false
set_option linter.unusedVariables false

/-! ### Sizes -/
def sumF : List Fld → Nat
  | [] => 0
  | f :: fs => f.e.length + f.x.length + f.y.length + sumF fs
theorem tot_sum : ∀ {R : Rws} {fs : List Fld}, R.map Prod.snd = rowsOf fs → tot R = sumF fs
  | [], [], _ => rfl
  | p :: q :: r :: R, f :: fs, h => by
    rw [rowsOf_cons] at h
    simp only [List.map_cons, List.cons.injEq] at h
    obtain ⟨h1, h2, h3, h4⟩ := h
    simp only [tot, sumF, h1, h2, h3, tot_sum h4]
    omega
  | [], f :: fs, h => by rw [rowsOf_cons] at h; cases h
  | p :: R, [], h => by rw [rowsOf_nil] at h; cases h
  | [p], f :: fs, h => by rw [rowsOf_cons] at h; simp at h
  | [p, q], f :: fs, h => by rw [rowsOf_cons] at h; simp at h
theorem small_of {R : Rws} {fs : List Fld} (h : R.map Prod.snd = rowsOf fs) (hf : fitsF fs) : smallR R := by
  intro p hp
  have : p.2 ∈ rowsOf fs := by rw [← h]; exact List.mem_map_of_mem hp
  unfold rowsOf at this
  rw [List.mem_flatMap] at this
  obtain ⟨f, h1, h2⟩ := this
  have := hf.2 f h1
  unfold fitF at this
  simp only [List.mem_cons, List.not_mem_nil, or_false] at h2
  rcases h2 with h | h | h <;> rw [h]
  · exact this.1
  · exact this.2.1
  · exact this.2.2
theorem noShR (σ : Heap) : ShR σ (.slice none 0 0) (.slice none 0 0) [] [] := ⟨⟨rfl, rfl, rfl⟩, ⟨rfl, rfl, rfl⟩⟩
theorem noFlsR (σ : Heap) : FlsR σ (.slice none 0 0) [] := ⟨_, ⟨rfl, rfl, rfl⟩, trivial⟩
theorem noFits : fitsF [] := ⟨by simp, fun f hf => by simp at hf⟩
/-! ### A heap that another begins with -/
def Pre (A S : Heap) : Prop := ∃ X, S = A ++ X
theorem Pre.refl (A : Heap) : Pre A A := ⟨[], by simp⟩
theorem Pre.app {A S : Heap} (h : Pre A S) (t : Heap) : Pre A (S ++ t) := by obtain ⟨X, rfl⟩ := h; exact ⟨X ++ t, by rw [List.append_assoc]⟩
theorem Pre.trans {A B S : Heap} (h : Pre A B) (h' : Pre B S) : Pre A S := by obtain ⟨X, rfl⟩ := h; obtain ⟨Y, rfl⟩ := h'; exact ⟨X ++ Y, by rw [List.append_assoc]⟩
theorem Pre.len {A S : Heap} (h : Pre A S) : A.length ≤ S.length := by obtain ⟨X, rfl⟩ := h; simp
theorem Pre.get {A S : Heap} (h : Pre A S) {i : Nat} {x : AObj} (hx : A[i]? = some x) : S[i]? = some x := by
  obtain ⟨X, rfl⟩ := h
  rw [List.getElem?_append_left (List.getElem?_eq_some_iff.1 hx).1]; exact hx
theorem PtAt.pre {A S : Heap} (hp : Pre A S) {b o : Nat} {cs : List Value} (h : PtAt A b o cs) : PtAt S b o cs := by obtain ⟨X, rfl⟩ := hp; exact h.ext X
theorem ShR.pre {A S : Heap} (hp : Pre A S) {sv lv : Value} {sp lo : List Nat} (h : ShR A sv lv sp lo) : ShR S sv lv sp lo := by obtain ⟨X, rfl⟩ := hp; exact ⟨h.s.ext X, h.l.ext X⟩
theorem FlsR.pre {A S : Heap} (hp : Pre A S) {v : Value} {fs : List Fld} (h : FlsR A v fs) : FlsR S v fs := by obtain ⟨X, rfl⟩ := hp; exact h.ext X
theorem FilmO.pre {A S : Heap} (hp : Pre A S) {lo s l b : Nat} {R : Rws} {sp ls : List Nat} {fs : List Fld} (h : FilmO A lo s l b R sp ls fs) : FilmO S lo s l b R sp ls fs := by obtain ⟨X, rfl⟩ := hp; exact h.ext X
theorem FilmO.fls {H : Heap} {lo s l b : Nat} {R : Rws} {sp ls : List Nat} {fs : List Fld} (h : FilmO H lo s l b R sp ls fs) : FlsR H (slV b fs.length) fs := h.flds.read
theorem PtAt.same {H H' : Heap} {b o : Nat} {cs : List Value} (h : PtAt H b o cs) (he : H'[b]? = H[b]?) : PtAt H' b o cs := by
  obtain ⟨cells, r, h1, h2⟩ := h
  exact ⟨cells, r, by rw [he]; exact h1, h2⟩
/-- Marks in rows that came later leave what stood before. -/
theorem Pre.mark {A S : Heap} {R : Rws} (h : Pre A S) (k : Int) (hR : ∀ p ∈ R, A.length ≤ p.1) : Pre A (markH S k R) := by
  have hl := markH_len R S k
  refine ⟨(markH S k R).drop A.length, ?_⟩
  apply List.ext_getElem?
  intro i
  rcases Nat.lt_or_ge i A.length with hi | hi
  · rw [List.getElem?_append_left hi, markH_out]
    · obtain ⟨X, rfl⟩ := h
      rw [List.getElem?_append_left hi]
    · intro hc
      obtain ⟨p, hp, rfl⟩ := List.mem_map.1 hc
      have := hR p hp
      omega
  · rw [List.getElem?_append_right hi, List.getElem?_drop]
    congr 1
    omega
theorem FilmO.lows {H : Heap} {lo s l b : Nat} {R : Rws} {sp ls : List Nat} {fs : List Fld} (h : FilmO H lo s l b R sp ls fs) : ∀ p ∈ (s, sp) :: (l, ls) :: R, lo ≤ p.1 := h.inv.low
theorem FilmO.tops {H : Heap} {lo s l b : Nat} {R : Rws} {sp ls : List Nat} {fs : List Fld} (h : FilmO H lo s l b R sp ls fs) : ∀ p ∈ (s, sp) :: (l, ls) :: R, p.1 < H.length := fun p hp => h.inv.lt hp
/-- What came later than rows is left by marks in them. -/
theorem mark_later {S : Heap} {R : Rws} {n : Nat} (k : Int) (hR : ∀ p ∈ R, p.1 < n) {o : Nat} (ho : n ≤ o) : (markH S k R)[o]? = S[o]? := markH_out fun hc => by
  obtain ⟨p, hp, rfl⟩ := List.mem_map.1 hc
  have := hR p hp
  omega
/-- The rows of a film that is marked. -/
theorem FilmO.marked {H : Heap} {lo s l b : Nat} {R : Rws} {sp ls : List Nat} {fs : List Fld} (h : FilmO H lo s l b R sp ls fs) (k : Int) :
    (markH H k ((s, sp) :: (l, ls) :: R))[b]? = some ⟨R.map slOf, 3, true⟩ ∧ ∀ p ∈ markR k ((s, sp) :: (l, ls) :: R), (markH H k ((s, sp) :: (l, ls) :: R))[p.1]? = some (rowO p.2) :=
  ⟨by rw [markH_out (by simpa using h.bn)]; exact h.row, (h.inv.mark k).own⟩
section
variable {C : Ctab} {F : Frame}
/-- A new base. -/
theorem EvR.base {Q} {ops : List SOper} {H : Heap} (h : ∀ S, S = H → EvR C ops F (S ++ []) Q) : EvR C ops F H Q := by
  have := h H rfl
  rwa [List.append_nil] at this
end
/-- The heaps of ahead and of behind a call that tells no more get names. -/
theorem EvR.base2 {C : Ctab} {F : Frame} {Q} {ops : List SOper} {A T : Heap} (h : ∀ B S, B = A → S = A ++ T → Pre B S → EvR C ops F (S ++ []) Q) : EvR C ops F (A ++ T) Q := by
  have := h A _ rfl rfl ⟨T, rfl⟩
  rwa [List.append_nil] at this
/-- Behind marks in rows. -/
theorem EvR.baseM {C : Ctab} {F : Frame} {Q} {ops : List SOper} {A T : Heap} {k : Int} {R : Rws} (h : ∀ B S, B = A → S = markH A k R ++ T → Pre (markH B k R) S → EvR C ops F (S ++ []) Q) : EvR C ops F (markH A k R ++ T) Q := by
  have := h A _ rfl rfl ⟨T, rfl⟩
  rwa [List.append_nil] at this
theorem mark_at {B S H : Heap} {k : Int} {R : Rws} {n o : Nat} (h : Pre (markH B k R) S) (hR : ∀ p ∈ R, p.1 < n) (ho : n ≤ o) (hp : Pre H B) (hl : o < H.length) : S[o]? = H[o]? := by
  obtain ⟨X, rfl⟩ := h
  obtain ⟨Y, rfl⟩ := hp
  rw [List.getElem?_append_left (by rw [markH_len, List.length_append]; omega), mark_later k hR ho, List.getElem?_append_left hl]
/-- The end of a function whose heap begins with the first one. -/
theorem endK {F : Frame} {σ S l : Heap} {rs : List SRes} {Q : Value → Heap → Prop} {v : Value} {q : Bool} {o : Out} (hp : Pre σ S) (ho : match o with | .exit _ => False | _ => True) (h : Q v σ) (h1 : resOf F (S ++ l) rs = some v) (h2 : gcTop σ.length v = some (v, [])) :
    atEnd rs (fun v0 σ0 => ∃ v ids σ', gcTop σ.length v0 = some (v, ids) ∧ Cleared σ σ0 ids σ' ∧ QuietTo q σ σ' ∧ Q v σ') o F (S ++ l) := by
  obtain ⟨X, rfl⟩ := hp
  rw [List.append_assoc] at h1 ⊢
  exact endS ho h h1 h2
end Go.Abs

