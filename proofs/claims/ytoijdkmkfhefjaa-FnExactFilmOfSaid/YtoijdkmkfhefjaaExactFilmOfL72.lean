/- What rows of films need beside: fields as arguments, a few rows side by side. Conditions: as at each theorem. -/
import Derived.Test.YtoijdkmkfhefjaaExactFilmOfL69
import Derived.Test.YtoijdkmkfhefjaaExactFilmOfL71
import Derived.Test.YtoijdkmkfhefjaaExactFilmOfL29
namespace Go.Abs
theorem field_absF {σ : Heap} {v : Value} (h : argAbs σ true [.rowF .f32, .rowF .f32, .rowF .f32] v) :
    ∃ ev xv yv, ∃ f : Fld, v = fV ev xv yv ∧ FlR σ ev xv yv f.e f.x f.y ∧ f.e.length ≤ 9223372036854775807 ∧ f.x.length ≤ 9223372036854775807 ∧ f.y.length ≤ 9223372036854775807 := by
  obtain ⟨ev, xv, yv, e, x, y, h1, h2, h3⟩ := field_abs h
  exact ⟨ev, xv, yv, ⟨e, x, y⟩, h1, h2, h3⟩
theorem FlR.pre {A S : Heap} (hp : Pre A S) {ev xv yv : Value} {e x y : List Nat} (h : FlR A ev xv yv e x y) : FlR S ev xv yv e x y := by obtain ⟨X, rfl⟩ := hp; exact h.ext X
theorem RInv.pre {A S : Heap} (hp : Pre A S) {lo : Nat} {R : Rws} (h : RInv A lo R) : RInv S lo R := by obtain ⟨X, rfl⟩ := hp; exact h.ext X
theorem rinv2 {H : Heap} {lo p q : Nat} {a b : List Nat} (h1 : H[p]? = some (rowO a)) (h2 : H[q]? = some (rowO b)) (hp : lo ≤ p) (hq : p < q) : RInv H lo [(p, a), (q, b)] := by
  refine ⟨fun r hr => ?_, fun r hr => ?_, ?_⟩
  · simp only [List.mem_cons, List.not_mem_nil, or_false] at hr
    rcases hr with rfl | rfl
    · exact h1
    · exact h2
  · simp only [List.mem_cons, List.not_mem_nil, or_false] at hr
    rcases hr with rfl | rfl
    · exact hp
    · dsimp only; omega
  · simp only [List.map_cons, List.map_nil, List.nodup_cons, List.mem_cons, List.not_mem_nil, or_false, not_false_eq_true, List.nodup_nil, and_true]
    omega
theorem rinv3 {H : Heap} {lo p q r : Nat} {a b c : List Nat} (h1 : H[p]? = some (rowO a)) (h2 : H[q]? = some (rowO b)) (h3 : H[r]? = some (rowO c)) (hp : lo ≤ p) (hq : p < q) (hr : q < r) : RInv H lo [(p, a), (q, b), (r, c)] := by
  refine ⟨fun r hr => ?_, fun r hr => ?_, ?_⟩
  · simp only [List.mem_cons, List.not_mem_nil, or_false] at hr
    rcases hr with rfl | rfl | rfl
    · exact h1
    · exact h2
    · exact h3
  · simp only [List.mem_cons, List.not_mem_nil, or_false] at hr
    rcases hr with rfl | rfl | rfl
    · exact hp
    · dsimp only; omega
    · dsimp only; omega
  · simp only [List.map_cons, List.map_nil, List.nodup_cons, List.mem_cons, List.not_mem_nil, or_false, not_false_eq_true, List.nodup_nil, and_true, not_or]
    omega
/-- Behind marks in rows, when nothing else was changed. -/
theorem EvR.baseM0 {C : Ctab} {F : Frame} {Q} {ops : List SOper} {A H : Heap} {k : Int} {R : Rws} (hH : H = markH A k R) (h : ∀ B S, B = A → Pre (markH B k R) S → EvR C ops F (S ++ []) Q) : EvR C ops F H Q := by
  subst hH
  have := h A _ rfl (Pre.refl _)
  rwa [List.append_nil] at this
end Go.Abs

