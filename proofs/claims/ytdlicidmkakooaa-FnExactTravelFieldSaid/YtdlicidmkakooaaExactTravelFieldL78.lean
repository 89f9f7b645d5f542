/- Laws of functions, some texts put together. Conditions: the laws of what they call. -/
import Derived.Test.YtdlicidmkakooaaExactTravelFieldL69
import Derived.Test.YtdlicidmkakooaaExactTravelFieldL30
import Derived.Test.YtdlicidmkakooaaExactTravelFieldL27
import Derived.Test.YtdlicidmkakooaaExactTravelFieldL36
import Derived.Test.YtdlicidmkakooaaExactTravelFieldL02
import Derived.Test.YtdlicidmkakooaaExactTravelFieldWvMD
import Derived.Test.YtdlicidmkakooaaExactTravelFieldL88
namespace Go.Abs
set_option linter.unusedSimpArgs false
set_option linter.unusedVariables false

/-- A film of a new sheet that has no row of fields. -/
structure FilmN (H : Heap) (lo s l : Nat) (sp ls : List Nat) : Prop where
  inv : RInv H lo [(s, sp), (l, ls)]
section
variable {H : Heap} {lo s l : Nat} {sp ls : List Nat}
theorem FilmN.sheet (h : FilmN H lo s l sp ls) : ShR H (slV s sp.length) (slV l ls.length) sp ls :=
  ⟨Row.whole (h.inv.own (s, sp) (by simp)) (by omega) (by rw [f32s_length]; omega), Row.whole (h.inv.own (l, ls) (by simp)) (by omega) (by rw [f32s_length]; omega)⟩
theorem FilmN.ext (h : FilmN H lo s l sp ls) (t : Heap) : FilmN (H ++ t) lo s l sp ls := ⟨h.inv.ext t⟩
theorem FilmN.pre {S : Heap} (hp : Pre H S) (h : FilmN H lo s l sp ls) : FilmN S lo s l sp ls := by obtain ⟨X, rfl⟩ := hp; exact h.ext X
theorem FilmN.keep {H' : Heap} (h : FilmN H lo s l sp ls) (hk : ∀ o, lo ≤ o → o < H.length → H'[o]? = H[o]?) : FilmN H' lo s l sp ls := ⟨h.inv.keep hk⟩
end
end Go.Abs


namespace Go.Abs

set_option linter.unusedSimpArgs false
set_option linter.unusedVariables false
set_option maxHeartbeats 8000000
set_option maxRecDepth 20000
theorem RInv.setOut {H H' : Heap} {lo b : Nat} {R : Rws} (h : RInv H lo R) (hb : b ∉ R.map Prod.fst) (hk : ∀ o, o ≠ b → o < H.length → H'[o]? = H[o]?) : RInv H' lo R :=
  ⟨fun p hp => by rw [hk p.1 (fun hc => hb (by rw [← hc]; exact List.mem_map_of_mem hp)) (h.lt hp)]; exact h.own p hp, h.low, h.nod⟩
end Go.Abs


namespace Go.Abs

set_option linter.unusedSimpArgs false
set_option linter.unusedVariables false
set_option maxHeartbeats 8000000
set_option maxRecDepth 20000
/- loop.example/g01201/spec.l02Zero -/
def spec_l02Zero_r0 : List SOper := [
 ⟨some 2, none, .alloc [(.slice none 0 0), (.slice none 0 0), (.slice none 0 0)], 0⟩]
def spec_l02Zero_r1 : List SOper := [
 ⟨some 3, none, .mov (.tmp 0), 0⟩,
 ⟨some 4, none, .makeSlice 1 4 [(.float .f32 0)] (.tmp 3) (.tmp 3), 1⟩,
 ⟨some 5, none, .mov (.tmp 0), 0⟩,
 ⟨some 6, none, .makeSlice 1 4 [(.float .f32 0)] (.tmp 5) (.tmp 5), 4⟩,
 ⟨some 7, none, .mov (.tmp 0), 0⟩,
 ⟨some 8, none, .makeSlice 1 4 [(.float .f32 0)] (.tmp 7) (.tmp 7), 16⟩,
 ⟨some 9, none, .build [(.slice none 0 0), (.slice none 0 0), (.slice none 0 0)] [(0, 1, (.tmp 4)), (1, 1, (.tmp 6)), (2, 1, (.tmp 8))], 63⟩,
 ⟨none, none, .store 3 (.tmp 2) (.tmp 9), 127⟩]
def spec_l02Zero : SFunc := ⟨10, [.cellN 2 3], (.kp [0] (.seq (.region spec_l02Zero_r0 false) (.kp [0,2] (.seq (.region spec_l02Zero_r1 true) .ret))))⟩
theorem spec_l02Zero_r1_dr : (drawOkS spec_l02Zero_r1 && storesOnly spec_l02Zero_r1) = true := by kernel_rfl
attribute [push_cast] spec_l02Zero_r1_dr
def okSp (xs : List Nat) : Prop := ∀ x ∈ xs, share x 0x3f000000 = true ∧ x < 4294967296
def okLo (xs : List Nat) : Prop := ∀ x ∈ xs, share x 0x3f800000 = true ∧ x < 4294967296
theorem okSp.snoc {xs : List Nat} {x : Nat} (h : okSp xs) (h1 : share x 0x3f000000 = true) (h2 : x < 4294967296) : okSp (xs ++ [x]) := fun y hy => by
  rcases List.mem_append.1 hy with hy | hy
  · exact h y hy
  · rw [List.mem_singleton] at hy; subst hy; exact ⟨h1, h2⟩
theorem okLo.snoc {xs : List Nat} {x : Nat} (h : okLo xs) (h1 : share x 0x3f800000 = true) (h2 : x < 4294967296) : okLo (xs ++ [x]) := fun y hy => by
  rcases List.mem_append.1 hy with hy | hy
  · exact h y hy
  · rw [List.mem_singleton] at hy; subst hy; exact ⟨h1, h2⟩
def spec_l02Zero_ok (c : Contract) : Prop := ∀ (σ : Heap) (N : Nat), N ≤ 1000 →
    Ret c [.int .i64 N] σ fun v σ' => v = fV (slV σ.length N) (slV (σ.length + 1) N) (slV (σ.length + 2) N) ∧ σ' = σ ++ [rowO (List.replicate N 0), rowO (List.replicate N 0), rowO (List.replicate N 0)]
theorem spec_l02Zero_law {C : Ctab} : spec_l02Zero_ok (gcC C spec_l02Zero true) := by
  intro σ N hN
  refine ret_gc rfl rfl ?_
  repeat' (first | refine ff ?_ | ((first | refine sR ?_ ?_ | refine sC ?_ ?_) <;> (intro hb; (try rw [hb]); (try simp only [bb] at hb); (try (exfalso; first | omega | exact hb trivial)))) | (apply endS trivial; rotate_left; (· exact eva); (· rfl); try refine ⟨?_, rfl⟩) | fail)
  rw [show List.replicate N (Value.float .f32 0) = f32s (List.replicate N 0) from by simp [f32s]]
  (apply endR [1, 2, 3] trivial ⟨rfl, rfl⟩; (· exact eva); (· simp [gcTop, gcVal, gcLeaf, gcLeaves, gcVals, constOk, gc_lt, gc_lt0]); (· rfl); (· decide); (· simp [allConst, f32s, i64s, b8s, bools, constOk]))
end Go.Abs


namespace Go.Abs

set_option linter.unusedSimpArgs false
set_option linter.unusedVariables false
set_option maxHeartbeats 8000000
set_option maxRecDepth 20000
theorem in32N.set {xs : List Nat} {i y : Nat} (h : in32N xs) (hy : y < 4294967296) : in32N (xs.set i y) := fun j => by
  rw [List.getD_eq_getElem?_getD, List.getElem?_set]
  by_cases e : i = j
  · rw [if_pos e]
    split
    · exact hy
    · simp
  · rw [if_neg e, ← List.getD_eq_getElem?_getD]; exact h j
theorem in32N.zero (n : Nat) : in32N (List.replicate n 0) := fun i => by
  rw [List.getD_eq_getElem?_getD, List.getElem?_replicate]
  split <;> simp
end Go.Abs

