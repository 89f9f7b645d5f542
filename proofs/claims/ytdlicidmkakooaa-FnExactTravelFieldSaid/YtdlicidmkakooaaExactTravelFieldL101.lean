/- Laws of functions: films are drawn. Conditions: the laws of what they call. -/
import Derived.Test.YtdlicidmkakooaaExactTravelFieldL78
import Derived.Test.YtdlicidmkakooaaExactTravelFieldL36
import Derived.Test.YtdlicidmkakooaaExactTravelFieldL30
import Derived.Test.YtdlicidmkakooaaExactTravelFieldL27
import Derived.Test.YtdlicidmkakooaaExactTravelFieldL69
import Derived.Test.YtdlicidmkakooaaExactTravelFieldL88
namespace Go.Abs

set_option linter.unusedSimpArgs false
set_option linter.unusedVariables false
set_option maxHeartbeats 8000000
set_option maxRecDepth 20000
section
variable {C : Ctab} {F : Frame} {τ l : Heap}
end
/-- The state while a film is drawn. -/
structure DrI (σ : Heap) (b : Nat) (cv : Value) (W H : Nat) (wr : Bool) (sp lo : List Nat) (t2 t3 t4 s l fb : Nat) (τ : Heap) (p d : Int) (f : Fld) (e x y : Nat) (fs : List Fld) (R : Rws) : Prop where
  top : τ.take σ.length = σ.set b (srcO cv p d)
  len : σ.length ≤ τ.length
  v2 : τ[t2]? = some ⟨[.int .i64 0, .int .i64 0, .bool false, .slice none 0 0, .slice none 0 0, .slice none 0 0], 0, true⟩
  v3 : τ[t3]? = some ⟨[.int .i64 W, .int .i64 H, .bool wr, slV s sp.length, slV l lo.length, slV fb fs.length], 0, true⟩
  v4 : τ[t4]? = some ⟨[slV e f.e.length, slV x f.x.length, slV y f.y.length], 0, true⟩
  fe : τ[e]? = some (rowO f.e)
  fx : τ[x]? = some (rowO f.x)
  fy : τ[y]? = some (rowO f.y)
  flm : FilmO τ σ.length s l fb R sp lo fs
  o2 : σ.length ≤ t2
  o3 : σ.length ≤ t3
  o4 : σ.length ≤ t4
  oe : σ.length ≤ e
  ox : σ.length ≤ x
  oy : σ.length ≤ y
  n23 : t2 ≠ t3
theorem ne_of_esz {τ : Heap} {a b : Nat} {x y : AObj} (h1 : τ[a]? = some x) (h2 : τ[b]? = some y) (h : x.esz ≠ y.esz) : a ≠ b := by
  rintro rfl; rw [h1] at h2; cases h2; exact h rfl
theorem ne_of_len {τ : Heap} {a b : Nat} {x y : AObj} (h1 : τ[a]? = some x) (h2 : τ[b]? = some y) (h : x.cells.length ≠ y.cells.length) : a ≠ b := by
  rintro rfl; rw [h1] at h2; cases h2; exact h rfl
theorem FilmO.notIn {H : Heap} {lo s l b t : Nat} {R : Rws} {sp ls : List Nat} {fs : List Fld} {x : AObj} (h : FilmO H lo s l b R sp ls fs) (ht : H[t]? = some x) (hx : x.esz = 0) : t ≠ b ∧ t ∉ ((s, sp) :: (l, ls) :: R).map Prod.fst := by
  refine ⟨ne_of_esz ht h.row (by rw [hx]; simp), fun hc => ?_⟩
  obtain ⟨p, hp, rfl⟩ := List.mem_map.1 hc
  exact ne_of_esz ht (h.inv.own p hp) (by rw [hx]; simp) rfl
section
variable {σ : Heap} {b : Nat} {cv : Value} {W H : Nat} {wr : Bool} {sp lo : List Nat} {t2 t3 t4 s l fb : Nat} {τ : Heap} {p d : Int} {f : Fld} {e x y : Nat} {fs : List Fld} {R : Rws}
theorem DrI.sh (h : DrI σ b cv W H wr sp lo t2 t3 t4 s l fb τ p d f e x y fs R) : ShR τ (slV s sp.length) (slV l lo.length) sp lo := h.flm.sheet
theorem DrI.fl (h : DrI σ b cv W H wr sp lo t2 t3 t4 s l fb τ p d f e x y fs R) : FlR τ (slV e f.e.length) (slV x f.x.length) (slV y f.y.length) f.e f.x f.y :=
  ⟨Row.whole h.fe (by omega) (by rw [f32s_length]; omega), Row.whole h.fx (by omega) (by rw [f32s_length]; omega), Row.whole h.fy (by omega) (by rw [f32s_length]; omega)⟩
theorem DrI.ext (h : DrI σ b cv W H wr sp lo t2 t3 t4 s l fb τ p d f e x y fs R) (t : Heap) : DrI σ b cv W H wr sp lo t2 t3 t4 s l fb (τ ++ t) p d f e x y fs R := by
  have g : ∀ {o : Nat} {z : AObj}, τ[o]? = some z → (τ ++ t)[o]? = some z := fun hz => by rw [List.getElem?_append_left (List.getElem?_eq_some_iff.1 hz).1]; exact hz
  exact ⟨by rw [List.take_append_of_le_length h.len]; exact h.top, by have := h.len; simp only [List.length_append]; omega, g h.v2, g h.v3, g h.v4, g h.fe, g h.fx, g h.fy, h.flm.ext t, h.o2, h.o3, h.o4, h.oe, h.ox, h.oy, h.n23⟩
/-- The source goes on. -/
theorem DrI.draw (h : DrI σ b cv W H wr sp lo t2 t3 t4 s l fb τ p d f e x y fs R) (hb : b < σ.length) (p' d' : Int) : DrI σ b cv W H wr sp lo t2 t3 t4 s l fb (τ.set b (srcO cv p' d')) p' d' f e x y fs R := by
  have g : ∀ {o : Nat} {z : AObj}, σ.length ≤ o → τ[o]? = some z → (τ.set b (srcO cv p' d'))[o]? = some z := fun ho hz => by rw [List.getElem?_set_ne (by omega)]; exact hz
  exact ⟨by rw [List.take_set, h.top, List.set_set], by rw [List.length_set]; exact h.len, g h.o2 h.v2, g h.o3 h.v3, g h.o4 h.v4, g h.oe h.fe, g h.ox h.fx, g h.oy h.fy, h.flm.keep fun o ho _ => List.getElem?_set_ne (by omega), h.o2, h.o3, h.o4, h.oe, h.ox, h.oy, h.n23⟩
/-- Another field is the present one. -/
theorem DrI.put (h : DrI σ b cv W H wr sp lo t2 t3 t4 s l fb τ p d f e x y fs R) {f' : Fld} {e' x' y' : Nat} (g1 : τ[e']? = some (rowO f'.e)) (g2 : τ[x']? = some (rowO f'.x)) (g3 : τ[y']? = some (rowO f'.y)) (k1 : σ.length ≤ e') (k2 : σ.length ≤ x') (k3 : σ.length ≤ y') :
    DrI σ b cv W H wr sp lo t2 t3 t4 s l fb (τ.set t4 ⟨[slV e' f'.e.length, slV x' f'.x.length, slV y' f'.y.length], 0, true⟩) p d f' e' x' y' fs R := by
  have g : ∀ {o : Nat} {z : AObj}, o ≠ t4 → τ[o]? = some z → (τ.set t4 ⟨[slV e' f'.e.length, slV x' f'.x.length, slV y' f'.y.length], 0, true⟩)[o]? = some z := fun ho hz => by rw [List.getElem?_set_ne (Ne.symm ho)]; exact hz
  have n24 := ne_of_len h.v2 h.v4 (by simp)
  have n34 := ne_of_len h.v3 h.v4 (by simp)
  obtain ⟨q1, q2⟩ := h.flm.notIn h.v4 rfl
  refine ⟨by rw [List.take_set_of_le h.o4]; exact h.top, by rw [List.length_set]; exact h.len, g n24 h.v2, g n34 h.v3, List.getElem?_set_self (List.getElem?_eq_some_iff.1 h.v4).1, g (ne_of_esz g1 h.v4 (by simp)) g1, g (ne_of_esz g2 h.v4 (by simp)) g2, g (ne_of_esz g3 h.v4 (by simp)) g3, ?_, h.o2, h.o3, h.o4, k1, k2, k3, h.n23⟩
  exact ⟨g (Ne.symm q1) h.flm.row, h.flm.inv.setOut q2 fun o ho _ => List.getElem?_set_ne (Ne.symm ho), h.flm.con, h.flm.bl, h.flm.bn⟩
/-- The present field is added to the film. -/
theorem DrI.push (h : DrI σ b cv W H wr sp lo t2 t3 t4 s l fb τ p d f e x y fs R) (T : Heap) :
    DrI σ b cv W H wr sp lo t2 t3 t4 s l fb ((τ.set fb ⟨R.map slOf ++ [slV τ.length f.e.length, slV (τ.length + 1) f.x.length, slV (τ.length + 2) f.y.length], 3, true⟩).set t3 ⟨[.int .i64 W, .int .i64 H, .bool wr, slV s sp.length, slV l lo.length, slV fb (fs.length + 1)], 0, true⟩ ++ (rowO f.e :: rowO f.x :: rowO f.y :: T)) p d f e x y (fs ++ [f]) (R ++ [(τ.length, f.e), (τ.length + 1, f.x), (τ.length + 2, f.y)]) := by
  obtain ⟨X, hX⟩ : ∃ X, X = (⟨R.map slOf ++ [slV τ.length f.e.length, slV (τ.length + 1) f.x.length, slV (τ.length + 2) f.y.length], 3, true⟩ : AObj) := ⟨_, rfl⟩
  obtain ⟨Y, hY⟩ : ∃ Y, Y = (⟨[.int .i64 W, .int .i64 H, .bool wr, slV s sp.length, slV l lo.length, slV fb (fs.length + 1)], 0, true⟩ : AObj) := ⟨_, rfl⟩
  rw [← hX, ← hY]
  obtain ⟨q1, q2⟩ := h.flm.notIn h.v3 rfl
  obtain ⟨q3, _⟩ := h.flm.notIn h.v2 rfl
  obtain ⟨q4, _⟩ := h.flm.notIn h.v4 rfl
  have n34 := ne_of_len h.v3 h.v4 (by simp)
  have l3 := (List.getElem?_eq_some_iff.1 h.v3).1
  have lb := (List.getElem?_eq_some_iff.1 h.flm.row).1
  have L : ((τ.set fb X).set t3 Y).length = τ.length := by rw [List.length_set, List.length_set]
  have g : ∀ {o : Nat} {z : AObj} (T' : Heap), o ≠ fb → o ≠ t3 → τ[o]? = some z → ((τ.set fb X).set t3 Y ++ T')[o]? = some z := fun T' h1 h2 hz => by
    rw [List.getElem?_append_left (by rw [L]; exact (List.getElem?_eq_some_iff.1 hz).1), List.getElem?_set_ne (Ne.symm h2), List.getElem?_set_ne (Ne.symm h1)]; exact hz
  have kf : ∀ {o : Nat} {z : List Nat}, τ[o]? = some (rowO z) → o ≠ fb ∧ o ≠ t3 := fun hz => ⟨ne_of_esz hz h.flm.row (by simp), ne_of_esz hz h.v3 (by simp)⟩
  refine ⟨?_, by have := h.len; simp only [List.length_append, L]; omega, g _ q3 h.n23 h.v2, ?_, g _ q4 (Ne.symm n34) h.v4, g _ (kf h.fe).1 (kf h.fe).2 h.fe, g _ (kf h.fx).1 (kf h.fx).2 h.fx, g _ (kf h.fy).1 (kf h.fy).2 h.fy, ?_, h.o2, h.o3, h.o4, h.oe, h.ox, h.oy, h.n23⟩
  · rw [List.take_append_of_le_length (by rw [L]; exact h.len), List.take_set_of_le h.o3, List.take_set_of_le h.flm.bl]; exact h.top
  · rw [List.getElem?_append_left (by rw [L]; exact l3), List.getElem?_set_self (by rw [List.length_set]; exact l3), hY, List.length_append]; rfl
  · have i0 : RInv ((τ.set fb X).set t3 Y) σ.length ((s, sp) :: (l, lo) :: R) := by
      refine RInv.setOut (H := τ.set fb X) (RInv.setOut h.flm.inv ?_ fun o ho _ => List.getElem?_set_ne (Ne.symm ho)) q2 fun o ho _ => List.getElem?_set_ne (Ne.symm ho)
      have := h.flm.bn
      simpa using this
    have i1 := i0.snoc3 (by rw [L]; exact h.len) f T
    rw [L] at i1
    refine ⟨?_, i1, by rw [List.map_append, h.flm.con, rowsOf_append]; rfl, h.flm.bl, ?_⟩
    · rw [List.getElem?_append_left (by rw [L]; exact lb), List.getElem?_set_ne q1, List.getElem?_set_self lb, hX, List.map_append]; rfl
    · have hb := h.flm.bn
      simp only [List.mem_cons, not_or, List.map_append, List.mem_append, List.map_cons, List.map_nil] at hb ⊢
      refine ⟨hb.1, hb.2.1, hb.2.2, by omega, by omega, by omega, by simp⟩
end

end Go.Abs

