/- Plain law: steps of fields. No condition beyond those written. -/
import Derived.Test.YtdlicidmkakooaaOutlinedL32
import Derived.Test.YtdlicidmkakooaaOutlinedL26
import Derived.Test.YtdlicidmkakooaaOutlinedL16
namespace Go.Abs
set_option linter.unusedSimpArgs false
set_option linter.unusedVariables false

/-- A row of which the first j numbers are new. -/
def preM (g : Nat → Nat) (xs : List Nat) (j : Nat) : List Nat := (List.range j).map g ++ xs.drop j
def newM (g : Nat → Nat) (xs : List Nat) : List Nat := (List.range xs.length).map g
section
variable {g : Nat → Nat} {xs : List Nat} {j : Nat}
theorem newM_length : (newM g xs).length = xs.length := by simp [newM]
theorem newM_get (h : j < xs.length) : (newM g xs).getD j 0 = g j := by
  unfold newM
  rw [List.getD_eq_getElem?_getD, List.getElem?_map, List.getElem?_range h]; rfl
theorem preM_length (h : j ≤ xs.length) : (preM g xs j).length = xs.length := by simp [preM]; omega
theorem preM_zero : preM g xs 0 = xs := by simp [preM]
theorem preM_end : preM g xs xs.length = newM g xs := by simp [preM, newM]
theorem preM_get (h : j < xs.length) : (preM g xs j).getD j 0 = xs.getD j 0 := by
  unfold preM
  rw [List.getD_eq_getElem?_getD, List.getElem?_append_right (by simp), List.length_map, List.length_range, Nat.sub_self, List.getElem?_drop, Nat.add_zero, ← List.getD_eq_getElem?_getD]
theorem preM_set (h : j < xs.length) : (preM g xs j).set j (g j) = preM g xs (j + 1) := gen_step g xs j h
theorem preM_skip (h : j < xs.length) (hp : g j = xs.getD j 0) : preM g xs j = preM g xs (j + 1) := by
  have h1 := preM_set (g := g) h
  rw [hp, ← preM_get (g := g) h, set_self (by rw [preM_length (Nat.le_of_lt h)]; exact h)] at h1
  exact h1
end

/-- The index of a cell, around the edges. -/
def atN (W H : Nat) (u v : Int) : Nat := (atC W H u v).toNat
section
variable {W H : Nat} {u v : Int}
theorem atC_atN (hW : 3 ≤ W) (hH : 3 ≤ H) (u1 : -1 ≤ u) (u2 : u ≤ W) (v1 : -1 ≤ v) (v2 : v ≤ H) : atC W H u v = (atN W H u v : Nat) := by
  have := (atC_bd hW hH u1 u2 v1 v2).1
  unfold atN; omega
theorem atN_lt (hW : 3 ≤ W) (hH : 3 ≤ H) (u1 : -1 ≤ u) (u2 : u ≤ W) (v1 : -1 ≤ v) (v2 : v ≤ H) : atN W H u v < W * H := by
  have := (atC_bd hW hH u1 u2 v1 v2).2
  have := (atC_bd hW hH u1 u2 v1 v2).1
  unfold atN; omega
theorem atC_cell {x y : Nat} (hx : x < W) (hy : y < H) : atC W H x y = ((W * y + x : Nat) : Int) := by
  rw [atC_in (by omega) (by omega) (by omega) (by omega)]
  have := cell_ix hx hy
  omega
end

/-- X and Y of a cell behind the half step. -/
def hxC (W H : Nat) (wr : Bool) (e x : List Nat) (cx cy i : Nat) : Nat :=
  if (wr || decide ((cy : Int) < (H : Int) - 1)) = true then fbin .sub .f32 (x.getD i 0) (fbin .mul .f32 0x3f000000 (fbin .sub .f32 (e.getD (atN W H cx ((cy : Int) + 1)) 0) (e.getD i 0))) else x.getD i 0
def hyC (W H : Nat) (wr : Bool) (e y : List Nat) (cx cy i : Nat) : Nat :=
  if (wr || decide ((cx : Int) < (W : Int) - 1)) = true then fbin .add .f32 (y.getD i 0) (fbin .mul .f32 0x3f000000 (fbin .sub .f32 (e.getD (atN W H ((cx : Int) + 1) cy) 0) (e.getD i 0))) else y.getD i 0
/-- E of a cell behind a step. -/
def newE (W H : Nat) (sp lo e x y : List Nat) (cx cy : Int) (i : Nat) : Nat :=
  fbin .add .f32 (fbin .mul .f32 (e.getD i 0) (fbin .sub .f32 0x3f800000 (lo.getD i 0))) (fbin .mul .f32 (sp.getD i 0) (fbin .sub .f32 (fbin .sub .f32 (y.getD i 0) (y.getD (atN W H (cx - 1) cy) 0)) (fbin .sub .f32 (x.getD i 0) (x.getD (atN W H cx (cy - 1)) 0))))
def seC (W H : Nat) (wr : Bool) (sp lo e x y : List Nat) (cx cy i : Nat) : Nat := if border W H wr cx cy = true then e.getD i 0 else newE W H sp lo e x y cx cy i
def hxF (W H : Nat) (wr : Bool) (e x : List Nat) (i : Nat) : Nat := hxC W H wr e x (i % W) (i / W) i
def hyF (W H : Nat) (wr : Bool) (e y : List Nat) (i : Nat) : Nat := hyC W H wr e y (i % W) (i / W) i
def seF (W H : Nat) (wr : Bool) (sp lo e x y : List Nat) (i : Nat) : Nat := seC W H wr sp lo e x y (i % W) (i / W) i
section
variable {W H cx cy : Nat} {wr : Bool} {sp lo e x y : List Nat}
theorem hxF_at (h : cx < W) : hxF W H wr e x (W * cy + cx) = hxC W H wr e x cx cy (W * cy + cx) := by unfold hxF; rw [mod_at h, div_at h]
theorem hyF_at (h : cx < W) : hyF W H wr e y (W * cy + cx) = hyC W H wr e y cx cy (W * cy + cx) := by unfold hyF; rw [mod_at h, div_at h]
theorem seF_at (h : cx < W) : seF W H wr sp lo e x y (W * cy + cx) = seC W H wr sp lo e x y cx cy (W * cy + cx) := by unfold seF; rw [mod_at h, div_at h]
end
abbrev halfX (W H : Nat) (wr : Bool) (e x : List Nat) : List Nat := newM (hxF W H wr e x) x
abbrev halfY (W H : Nat) (wr : Bool) (e y : List Nat) : List Nat := newM (hyF W H wr e y) y
abbrev stepE (W H : Nat) (wr : Bool) (sp lo e x y : List Nat) : List Nat := newM (seF W H wr sp lo e x y) e
/-- A field. -/
structure Fld where
  e : List Nat
  x : List Nat
  y : List Nat
def stepF (W H : Nat) (wr : Bool) (sp lo : List Nat) (f : Fld) : Fld :=
  ⟨stepE W H wr sp lo f.e (halfX W H wr f.e f.x) (halfY W H wr f.e f.y), halfX W H wr f.e f.x, halfY W H wr f.e f.y⟩
def runF (W H : Nat) (wr : Bool) (sp lo : List Nat) : Nat → Fld → Fld
  | 0, f => f
  | k + 1, f => stepF W H wr sp lo (runF W H wr sp lo k f)
abbrev lenF (n : Nat) (f : Fld) : Prop := f.e.length = n ∧ f.x.length = n ∧ f.y.length = n
theorem stepF_len {W H n : Nat} {wr : Bool} {sp lo : List Nat} {f : Fld} (h : lenF n f) : lenF n (stepF W H wr sp lo f) := by
  unfold stepF
  exact ⟨by dsimp only; rw [newM_length]; exact h.1, by dsimp only; rw [newM_length]; exact h.2.1, by dsimp only; rw [newM_length]; exact h.2.2⟩
theorem runF_len {W H n : Nat} {wr : Bool} {sp lo : List Nat} {f : Fld} (h : lenF n f) : ∀ k, lenF n (runF W H wr sp lo k f)
  | 0 => h
  | k + 1 => stepF_len (runF_len h k)
theorem fits_lens {W H : Nat} {wr : Bool} {e x y : List Nat} (h : fits W H wr e x y = true) : e.length = W * H ∧ x.length = W * H ∧ y.length = W * H := by
  by_cases hl : e.length = W * H ∧ x.length = W * H ∧ y.length = W * H
  · exact hl
  · rw [fits_len hl] at h; cases h
theorem fits_cell {W H : Nat} {e x y : List Nat} (h : fits W H false e x y = true) {i : Nat} (hi : i < W * H) : badC W H false e x y ((i : Int) % W) ((i : Int) / W) i = false := by
  cases hb : badC W H false e x y ((i : Int) % W) ((i : Int) / W) i with
  | false => rfl
  | true => rw [fits_bad hi hb] at h; cases h
theorem stepF_e {W H i : Nat} {sp lo : List Nat} {f : Fld} (hi : i < f.e.length) (g : border W H false ((i % W : Nat) : Int) ((i / W : Nat) : Int) = true) : (stepF W H false sp lo f).e.getD i 0 = f.e.getD i 0 := by
  unfold stepF
  dsimp only
  unfold stepE
  rw [newM_get hi]
  unfold seF seC
  rw [if_pos g]
theorem stepF_x {W H i : Nat} {sp lo : List Nat} {f : Fld} (hi : i < f.x.length) (g : ((i / W : Nat) : Int) = H - 1) : (stepF W H false sp lo f).x.getD i 0 = f.x.getD i 0 := by
  unfold stepF
  dsimp only
  unfold halfX
  rw [newM_get hi]
  unfold hxF hxC
  rw [if_neg (by rw [Bool.false_or, decide_eq_true_eq]; omega)]
theorem stepF_y {W H i : Nat} {sp lo : List Nat} {f : Fld} (hi : i < f.y.length) (g : ((i % W : Nat) : Int) = W - 1) : (stepF W H false sp lo f).y.getD i 0 = f.y.getD i 0 := by
  unfold stepF
  dsimp only
  unfold halfY
  rw [newM_get hi]
  unfold hyF hyC
  rw [if_neg (by rw [Bool.false_or, decide_eq_true_eq]; omega)]
/-- A step leads from a field of a sheet to another. -/
theorem fits_step {W H : Nat} {wr : Bool} {sp lo : List Nat} {f : Fld} (h : fits W H wr f.e f.x f.y = true) : fits W H wr (stepF W H wr sp lo f).e (stepF W H wr sp lo f).x (stepF W H wr sp lo f).y = true := by
  obtain ⟨l1, l2, l3⟩ := fits_lens h
  obtain ⟨m1, m2, m3⟩ := stepF_len (W := W) (H := H) (wr := wr) (sp := sp) (lo := lo) (f := f) ⟨l1, l2, l3⟩
  cases wr with
  | true => simp [fits, m1, m2, m3]
  | false =>
    refine fits_ok m1 m2 m3 fun i hi => ?_
    have hb := fits_cell h hi
    have e1 : ((i % W : Nat) : Int) = (i : Int) % W := Int.natCast_emod i W
    have e2 : ((i / W : Nat) : Int) = (i : Int) / W := Int.natCast_ediv i W
    rw [← e1, ← e2] at hb ⊢
    have ge := stepF_e (W := W) (H := H) (sp := sp) (lo := lo) (f := f) (i := i) (by omega)
    have gx := stepF_x (W := W) (H := H) (sp := sp) (lo := lo) (f := f) (i := i) (by omega)
    have gy := stepF_y (W := W) (H := H) (sp := sp) (lo := lo) (f := f) (i := i) (by omega)
    generalize stepF W H false sp lo f = g at *
    unfold badC at hb ⊢
    simp only [Bool.or_eq_false_iff, Bool.and_eq_false_imp] at hb ⊢
    obtain ⟨⟨b1, b2⟩, b3⟩ := hb
    refine ⟨⟨fun k => ?_, fun k => ?_⟩, fun k => ?_⟩
    · rw [ge k]; exact b1 k
    · rw [gx (of_decide_eq_true k)]; exact b2 k
    · rw [gy (of_decide_eq_true k)]; exact b3 k
theorem fits_run {W H : Nat} {wr : Bool} {sp lo : List Nat} {f : Fld} (h : fits W H wr f.e f.x f.y = true) : ∀ k, fits W H wr (runF W H wr sp lo k f).e (runF W H wr sp lo k f).x (runF W H wr sp lo k f).y = true
  | 0 => h
  | k + 1 => fits_step (fits_run h k)
end Go.Abs

