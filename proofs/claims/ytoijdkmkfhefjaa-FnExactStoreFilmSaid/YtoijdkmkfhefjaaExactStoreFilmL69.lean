/- Films as arguments of rows, their sizes, and what stays of a heap. Conditions: as at each theorem. -/
import Derived.Test.YtoijdkmkfhefjaaExactStoreFilmL68
namespace Go.Abs
set_option linter.unusedSimpArgs false
set_option linter.unusedVariables false

def fl3 (f : Fl3) : Fld := ⟨f.1, f.2.1, f.2.2⟩
theorem flsC_abs {σ : Heap} : ∀ {fs : List Fl3} {cs : List Value}, flsAbs σ fs cs → FlsC σ (fs.map fl3) cs
  | [], [], _ => trivial
  | _ :: _, _ :: _ :: _ :: _, h => ⟨⟨h.1.1, h.2.1.1, h.2.2.1.1⟩, flsC_abs h.2.2.2⟩
  | [], _ :: _, h => h.elim
  | _ :: _, [], h => h.elim
  | _ :: _, [_], h => h.elim
  | _ :: _, [_, _], h => h.elim
theorem flsC_big {σ : Heap} : ∀ {fs : List Fl3} {cs : List Value}, flsAbs σ fs cs → ∀ f ∈ fs.map fl3, f.e.length ≤ 9223372036854775807 ∧ f.x.length ≤ 9223372036854775807 ∧ f.y.length ≤ 9223372036854775807
  | [], [], _, f, hf => by simp at hf
  | g :: _, _ :: _ :: _ :: _, h, f, hf => by
    rw [List.map_cons, List.mem_cons] at hf
    rcases hf with rfl | hf
    · have h1 := h.1.2.1
      have h2 := h.2.1.2.1
      have h3 := h.2.2.1.2.1
      rw [maxLen_eq] at h1 h2 h3
      exact ⟨h1, h2, h3⟩
    · exact flsC_big h.2.2.2 f hf
  | [], _ :: _, h, _, _ => h.elim
  | _ :: _, [], h, _, _ => h.elim
  | _ :: _, [_], h, _, _ => h.elim
  | _ :: _, [_, _], h, _, _ => h.elim
abbrev filmK : Bool × List CK := (true, [.int .i64, .int .i64, .bool, .rowF .f32, .rowF .f32, .rowFl])
/-! ### Sizes -/
def sumF : List Fld → Nat
  | [] => 0
  | f :: fs => f.e.length + f.x.length + f.y.length + sumF fs
theorem sz1_eq (n : Nat) (l : Int) (h : ¬ sz1 n l < 0) : sz1 n l = l - n := by
  unfold sz1 at h ⊢
  split at h
  · omega
  · rw [if_neg (by assumption)]
theorem szAll_cons (n : Nat) (ns : List Nat) (l : Int) (h : ¬ szAll (n :: ns) l < 0) : szAll (n :: ns) l = szAll ns (l - n) := by
  have e : szAll (n :: ns) l = if sz1 n l < 0 then -1 else szAll ns (sz1 n l) := rfl
  by_cases h1 : sz1 n l < 0
  · rw [e, if_pos h1] at h; omega
  · rw [e, if_neg h1, sz1_eq n l h1]
theorem szAll3 (e x y : List Nat) (l : Int) (h0 : 0 ≤ l) (h : ¬ szAll [e.length, x.length, y.length] l < 0) : szAll [e.length, x.length, y.length] l = l - e.length - x.length - y.length := by
  have e1 := szAll_cons _ _ _ h
  rw [e1] at h
  have e2 := szAll_cons _ _ _ h
  rw [e2] at h
  have e3 := szAll_cons _ _ _ h
  rw [e1, e2, e3]
  rfl
theorem szGo_fact : ∀ (fs : List Fld) (l : Int), 0 ≤ l → -1 ≤ szGo fs l ∧ szGo fs l ≤ l ∧ (0 ≤ szGo fs l → (sumF fs : Int) ≤ l ∧ ∀ f ∈ fs, fitF f ∨ 1048576 < l)
  | [], l, h => ⟨by unfold szGo; omega, Int.le_refl _, fun _ => ⟨h, fun f hf => by simp at hf⟩⟩
  | f :: fs, l, h => by
    unfold szGo
    by_cases h1 : szAll [f.e.length, f.x.length, f.y.length] l < 0
    · rw [if_pos h1]
      exact ⟨by omega, by omega, fun h => by omega⟩
    · rw [if_neg h1]
      have e := szAll3 f.e f.x f.y l h h1
      obtain ⟨a, b, c⟩ := szGo_fact fs _ (by omega : 0 ≤ szAll [f.e.length, f.x.length, f.y.length] l)
      refine ⟨a, by omega, fun h2 => ?_⟩
      obtain ⟨c1, c2⟩ := c h2
      refine ⟨by simp only [sumF]; omega, fun g hg => ?_⟩
      by_cases hl : 1048576 < l
      · exact .inr hl
      · rcases List.mem_cons.1 hg with rfl | hg
        · exact .inl ⟨by omega, by omega, by omega⟩
        · rcases c2 g hg with h | h
          · exact .inl h
          · exact absurd h (by omega)
theorem szFilm_fact (sp lo : List Nat) (fs : List Fld) (left : Int) (h : 0 ≤ left) (hl : left ≤ 1048576) : -1 ≤ szFilm sp lo fs left ∧ szFilm sp lo fs left ≤ left ∧ (0 ≤ szFilm sp lo fs left → sp.length ≤ 1048576 ∧ lo.length ≤ 1048576 ∧ fitsF fs ∧ sumF fs ≤ 1048576) := by
  have z := szSheet_fact sp lo left h
  unfold szFilm
  by_cases h1 : szSheet sp lo left < 0
  · rw [if_pos h1]; exact ⟨by omega, by omega, fun h => by omega⟩
  rw [if_neg h1]
  by_cases h2 : szFls fs (szSheet sp lo left) < 0
  · rw [if_pos h2]; exact ⟨by omega, by omega, fun h => by omega⟩
  rw [if_neg h2]
  unfold szFls at h2 ⊢
  by_cases h3 : szSheet sp lo left - fs.length < 0
  · rw [if_pos h3] at h2; omega
  rw [if_neg h3] at h2 ⊢
  obtain ⟨a, b, c⟩ := szGo_fact fs (szSheet sp lo left - fs.length) (by omega)
  refine ⟨by omega, by omega, fun h4 => ?_⟩
  obtain ⟨c1, c2⟩ := c h4
  refine ⟨by omega, by omega, ⟨by omega, fun f hf => ?_⟩, by omega⟩
  rcases c2 f hf with h | h
  · exact h
  · exact absurd h (by omega)
theorem noFlsR (σ : Heap) : FlsR σ (.slice none 0 0) [] := ⟨_, ⟨rfl, rfl, rfl⟩, trivial⟩
/-! ### A heap that another begins with -/
def Pre (A S : Heap) : Prop := ∃ X, S = A ++ X
theorem Pre.refl (A : Heap) : Pre A A := ⟨[], by simp⟩
theorem Pre.app {A S : Heap} (h : Pre A S) (t : Heap) : Pre A (S ++ t) := by obtain ⟨X, rfl⟩ := h; exact ⟨X ++ t, by rw [List.append_assoc]⟩
theorem Pre.trans {A B S : Heap} (h : Pre A B) (h' : Pre B S) : Pre A S := by obtain ⟨X, rfl⟩ := h; obtain ⟨Y, rfl⟩ := h'; exact ⟨X ++ Y, by rw [List.append_assoc]⟩
theorem Pre.len {A S : Heap} (h : Pre A S) : A.length ≤ S.length := by obtain ⟨X, rfl⟩ := h; simp
theorem Pre.get {A S : Heap} (h : Pre A S) {i : Nat} {x : AObj} (hx : A[i]? = some x) : S[i]? = some x := by
  obtain ⟨X, rfl⟩ := h
  rw [List.getElem?_append_left (List.getElem?_eq_some_iff.1 hx).1]; exact hx
theorem PtAt.pre {A S : Heap} (hp : Pre A S) {b o : Nat} {cs : List Value} (h : PtAt A b o cs) : PtAt S b o cs := by obtain ⟨X, rfl⟩ := hp; exact h.ext X
theorem ShR.pre {A S : Heap} (hp : Pre A S) {sv lv : Value} {sp lo : List Nat} (h : ShR A sv lv sp lo) : ShR S sv lv sp lo := by obtain ⟨X, rfl⟩ := hp; exact ⟨h.s.ext X, h.l.ext X⟩
theorem FlsR.pre {A S : Heap} (hp : Pre A S) {v : Value} {fs : List Fld} (h : FlsR A v fs) : FlsR S v fs := by obtain ⟨X, rfl⟩ := hp; exact h.ext X
theorem FilmO.pre {A S : Heap} (hp : Pre A S) {lo s l b : Nat} {R : Rws} {sp ls : List Nat} {fs : List Fld} (h : FilmO A lo s l b R sp ls fs) : FilmO S lo s l b R sp ls fs := by obtain ⟨X, rfl⟩ := hp; exact h.ext X
theorem FilmO.fls {H : Heap} {lo s l b : Nat} {R : Rws} {sp ls : List Nat} {fs : List Fld} (h : FilmO H lo s l b R sp ls fs) : FlsR H (slV b fs.length) fs := h.flds.read
/-- Marks in rows that came later leave what stood before. -/
theorem Pre.mark {A S : Heap} {R : Rws} (h : Pre A S) (k : Int) (hR : ∀ p ∈ R, A.length ≤ p.1) : Pre A (markH S k R) := by
  have hl := markH_len R S k
  refine ⟨(markH S k R).drop A.length, ?_⟩
  apply List.ext_getElem?
  intro i
  rcases Nat.lt_or_ge i A.length with hi | hi
  · rw [List.getElem?_append_left hi, markH_out]
    · obtain ⟨X, rfl⟩ := h
      rw [List.getElem?_append_left hi]
    · intro hc
      obtain ⟨p, hp, rfl⟩ := List.mem_map.1 hc
      have := hR p hp
      omega
  · rw [List.getElem?_append_right hi, List.getElem?_drop]
    congr 1
    omega
theorem FilmO.lows {H : Heap} {lo s l b : Nat} {R : Rws} {sp ls : List Nat} {fs : List Fld} (h : FilmO H lo s l b R sp ls fs) : ∀ p ∈ (s, sp) :: (l, ls) :: R, lo ≤ p.1 := h.inv.low
section
variable {C : Ctab} {F : Frame}
/-- A new base. -/
theorem EvR.base {Q} {ops : List SOper} {H : Heap} (h : ∀ S, S = H → EvR C ops F (S ++ []) Q) : EvR C ops F H Q := by
  have := h H rfl
  rwa [List.append_nil] at this
end
/-- The heaps of ahead and of behind a call that tells no more get names. -/
theorem EvR.base2 {C : Ctab} {F : Frame} {Q} {ops : List SOper} {A T : Heap} (h : ∀ B S, B = A → S = A ++ T → Pre B S → EvR C ops F (S ++ []) Q) : EvR C ops F (A ++ T) Q := by
  have := h A _ rfl rfl ⟨T, rfl⟩
  rwa [List.append_nil] at this
/-- The end of a function whose heap begins with the first one. -/
theorem endK {F : Frame} {σ S l : Heap} {rs : List SRes} {Q : Value → Heap → Prop} {v : Value} {q : Bool} {o : Out} (hp : Pre σ S) (ho : match o with | .exit _ => False | _ => True) (h : Q v σ) (h1 : resOf F (S ++ l) rs = some v) (h2 : gcTop σ.length v = some (v, [])) :
    atEnd rs (fun v0 σ0 => ∃ v ids σ', gcTop σ.length v0 = some (v, ids) ∧ Cleared σ σ0 ids σ' ∧ QuietTo q σ σ' ∧ Q v σ') o F (S ++ l) := by
  obtain ⟨X, rfl⟩ := hp
  rw [List.append_assoc] at h1 ⊢
  exact endS ho h h1 h2
end Go.Abs

