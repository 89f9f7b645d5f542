/- Laws of functions: some fields of a film, by the program and by the reference. Conditions: the laws of what they call. -/
import Derived.Test.YtaacdckenhnocaaExactRecoverFilmL66
namespace Go.Abs

set_option linter.unusedSimpArgs false
set_option linter.unusedVariables false
set_option maxHeartbeats 8000000
set_option maxRecDepth 20000
/-- A film and whether there is one, as results. -/
structure FmRes (ok : Bool) (σ σ' : Heap) (v : Value) (w h : Int) (wr : Bool) (sp lo : List Nat) (gs : List Fld) : Prop where
  t : ok = true → ∃ τ s l b R, σ' = σ ++ τ ∧ v = .tuple #[fmV w h wr (slV s sp.length) (slV l lo.length) (slV b gs.length), .bool true] ∧ FilmO σ' σ.length s l b R sp lo gs
  f : ok = false → (∃ τ, σ' = σ ++ τ) ∧ v = .tuple #[noFilm, .bool false]
theorem FmRes.no {σ τ : Heap} {v : Value} {w h : Int} {wr : Bool} {sp lo : List Nat} {gs : List Fld} (hv : v = .tuple #[noFilm, .bool false]) : FmRes false σ (σ ++ τ) v w h wr sp lo gs := ⟨fun h => (by cases h), fun _ => ⟨⟨_, rfl⟩, hv⟩⟩

theorem FlsC.drop {σ : Heap} : ∀ {fs : List Fld} {cs : List Value} (a : Nat), FlsC σ fs cs → FlsC σ (fs.drop a) (cs.drop (a * 3))
  | fs, cs, 0, h => by simpa using h
  | [], [], a + 1, h => by simp; trivial
  | f :: fs, u :: v :: w :: cs, a + 1, h => by
    rw [show (a + 1) * 3 = a * 3 + 3 by omega]
    exact FlsC.drop a h.2
  | [], _ :: _, _, h => False.elim h
  | _ :: _, [], _ + 1, h => False.elim h
  | _ :: _, [_], _ + 1, h => False.elim h
  | _ :: _, [_, _], _ + 1, h => False.elim h
theorem FlsC.take {σ : Heap} : ∀ {fs : List Fld} {cs : List Value} (k : Nat), FlsC σ fs cs → FlsC σ (fs.take k) (cs.take (k * 3))
  | fs, cs, 0, h => by simp; trivial
  | [], [], k + 1, h => by simp; trivial
  | f :: fs, u :: v :: w :: cs, k + 1, h => by
    rw [show (k + 1) * 3 = k * 3 + 3 by omega]
    exact ⟨h.1, FlsC.take k h.2⟩
  | [], _ :: _, _, h => False.elim h
  | _ :: _, [], _ + 1, h => False.elim h
  | _ :: _, [_], _ + 1, h => False.elim h
  | _ :: _, [_, _], _ + 1, h => False.elim h
section
variable {C : Ctab} {F : Frame} {τ l : Heap}
end
end Go.Abs

