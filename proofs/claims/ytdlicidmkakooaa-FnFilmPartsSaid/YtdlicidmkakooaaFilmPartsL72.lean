/- Laws of functions, some texts put together. Conditions: the laws of what they call. -/
import Derived.Test.YtdlicidmkakooaaFilmPartsL69
import Derived.Test.YtdlicidmkakooaaFilmPartsL71
import Derived.Test.YtdlicidmkakooaaFilmPartsL27
namespace Go.Abs
theorem FlR.pre {A S : Heap} (hp : Pre A S) {ev xv yv : Value} {e x y : List Nat} (h : FlR A ev xv yv e x y) : FlR S ev xv yv e x y := by obtain ⟨X, rfl⟩ := hp; exact h.ext X
theorem RInv.pre {A S : Heap} (hp : Pre A S) {lo : Nat} {R : Rws} (h : RInv A lo R) : RInv S lo R := by obtain ⟨X, rfl⟩ := hp; exact h.ext X
end Go.Abs


namespace Go.Abs
set_option linter.unusedSimpArgs false
set_option linter.unusedVariables false

theorem runF_add (W H : Nat) (wr : Bool) (sp lo : List Nat) (f : Fld) (b : Nat) : ∀ a, runF W H wr sp lo a (runF W H wr sp lo b f) = runF W H wr sp lo (b + a) f
  | 0 => rfl
  | a + 1 => by
    show stepF _ _ _ _ _ (runF W H wr sp lo a (runF W H wr sp lo b f)) = stepF _ _ _ _ _ (runF W H wr sp lo (b + a) f)
    rw [runF_add W H wr sp lo f b a]
/-- The fields of a film. -/
def framesF (g : Nat → Fld) (k : Nat) : List Fld := (List.range k).map g
theorem framesF_len (g : Nat → Fld) (k : Nat) : (framesF g k).length = k := by simp [framesF]
theorem framesF_succ (g : Nat → Fld) (k : Nat) : framesF g (k + 1) = framesF g k ++ [g k] := by simp [framesF, List.range_succ]
theorem rowsOf_frames (g : Nat → Fld) (k : Nat) : rowsOf (framesF g (k + 1)) = rowsOf (framesF g k) ++ [(g k).e, (g k).x, (g k).y] := by rw [framesF_succ, rowsOf_append]; rfl
theorem framesF_nil {g : Nat → Fld} {k : Nat} : framesF g k = [] ↔ k = 0 := by
  rw [← List.length_eq_zero_iff, framesF_len]

/-- A film of a new sheet that has no row of fields. -/
structure FilmN (H : Heap) (lo s l : Nat) (sp ls : List Nat) : Prop where
  inv : RInv H lo [(s, sp), (l, ls)]
section
variable {H : Heap} {lo s l : Nat} {sp ls : List Nat}
theorem FilmN.sheet (h : FilmN H lo s l sp ls) : ShR H (slV s sp.length) (slV l ls.length) sp ls :=
  ⟨Row.whole (h.inv.own (s, sp) (by simp)) (by omega) (by rw [f32s_length]; omega), Row.whole (h.inv.own (l, ls) (by simp)) (by omega) (by rw [f32s_length]; omega)⟩
theorem FilmN.fls (h : FilmN H lo s l sp ls) : FlsR H (.slice none 0 0) [] := noFlsR _
theorem FilmN.ext (h : FilmN H lo s l sp ls) (t : Heap) : FilmN (H ++ t) lo s l sp ls := ⟨h.inv.ext t⟩
theorem FilmN.pre {S : Heap} (hp : Pre H S) (h : FilmN H lo s l sp ls) : FilmN S lo s l sp ls := by obtain ⟨X, rfl⟩ := hp; exact h.ext X
theorem FilmN.keep {H' : Heap} (h : FilmN H lo s l sp ls) (hk : ∀ o, lo ≤ o → o < H.length → H'[o]? = H[o]?) : FilmN H' lo s l sp ls := ⟨h.inv.keep hk⟩
theorem FilmN.less {lo' : Nat} (h : FilmN H lo s l sp ls) (hl : lo' ≤ lo) : FilmN H lo' s l sp ls := ⟨h.inv.less hl⟩
theorem filmN_of (hs : H[s]? = some (rowO sp)) (hl : H[l]? = some (rowO ls)) (h1 : lo ≤ s) (h2 : s < l) : FilmN H lo s l sp ls := by
  refine ⟨fun p hp => ?_, fun p hp => ?_, ?_⟩
  · simp only [List.mem_cons, List.not_mem_nil, or_false] at hp
    rcases hp with rfl | rfl
    · exact hs
    · exact hl
  · simp only [List.mem_cons, List.not_mem_nil, or_false] at hp
    rcases hp with rfl | rfl
    · exact h1
    · dsimp only; omega
  · simp only [List.map_cons, List.map_nil, List.nodup_cons, List.mem_cons, List.not_mem_nil, or_false, not_false_eq_true, List.nodup_nil, and_true]
    omega
end
/-- A film and whether there is one, as results; it may have no row of fields. -/
structure FmResN (ok : Bool) (σ σ' : Heap) (v : Value) (w h : Int) (wr : Bool) (sp lo : List Nat) (gs : List Fld) : Prop where
  t : ok = true → gs ≠ [] → ∃ τ s l b R, σ' = σ ++ τ ∧ v = .tuple #[fmV w h wr (slV s sp.length) (slV l lo.length) (slV b gs.length), .bool true] ∧ FilmO σ' σ.length s l b R sp lo gs
  n : ok = true → gs = [] → ∃ τ s l, σ' = σ ++ τ ∧ v = .tuple #[fmV w h wr (slV s sp.length) (slV l lo.length) (.slice none 0 0), .bool true] ∧ FilmN σ' σ.length s l sp lo
  f : ok = false → (∃ τ, σ' = σ ++ τ) ∧ v = .tuple #[noFilm, .bool false]
theorem FmResN.no {σ τ : Heap} {v : Value} {w h : Int} {wr : Bool} {sp lo : List Nat} {gs : List Fld} (hv : v = .tuple #[noFilm, .bool false]) : FmResN false σ (σ ++ τ) v w h wr sp lo gs := ⟨fun h => (by cases h), fun h => (by cases h), fun _ => ⟨⟨_, rfl⟩, hv⟩⟩
end Go.Abs

