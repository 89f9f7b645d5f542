/- The plain law of outlines: a cell has a neighbour that differs among the four beside it, if and only if it has one among all cells at one step. No program. -/
import Derived.Test.YtdlicidmkakooaaOutlinedL13
namespace Go.Abs
set_option maxHeartbeats 4000000

theorem wrapC {w u : Int} (hw : 3 ≤ w) (h1 : -1 ≤ u) (h2 : u ≤ w) : (u + w).tmod w = if u = -1 then w - 1 else if u = w then 0 else u := by
  rw [Int.tmod_eq_emod_of_nonneg (by omega), Int.add_emod_right]
  split
  · subst u
    rw [show (-1 : Int) = (w - 1) + w * (-1) from by omega, Int.add_mul_emod_self_left, Int.emod_eq_of_lt (by omega) (by omega)]
  · split
    · subst u; exact Int.emod_self
    · exact Int.emod_eq_of_lt (by omega) (by omega)

/-- The part of a way along an axis. -/
def wayA (wr : Bool) (len a b : Int) : Int := if wr = true then min (max (a - b) (b - a)) (len - max (a - b) (b - a)) else max (a - b) (b - a)
theorem wayA_zero {wr : Bool} {len a b : Int} (h : 3 ≤ len) (a0 : 0 ≤ a) (a1 : a < len) (b0 : 0 ≤ b) (b1 : b < len) : wayA wr len a b = 0 ↔ a = b := by
  unfold wayA; split <;> omega
theorem wayA_pos {wr : Bool} {len a b : Int} (h : 3 ≤ len) (a0 : 0 ≤ a) (a1 : a < len) (b0 : 0 ≤ b) (b1 : b < len) : 0 ≤ wayA wr len a b := by
  unfold wayA; split <;> omega
theorem wayA_one {wr : Bool} {len a b : Int} (h : 3 ≤ len) (a0 : 0 ≤ a) (a1 : a < len) (b0 : 0 ≤ b) (b1 : b < len) :
    wayA wr len a b = 1 ↔ b = a + 1 ∨ b = a - 1 ∨ (wr = true ∧ (a = 0 ∧ b = len - 1 ∨ a = len - 1 ∧ b = 0)) := by
  unfold wayA; cases wr <;> simp <;> omega

def four : List (Int × Int) := [(1, 0), (-1, 0), (0, 1), (0, -1)]
/-- Whether one of the four cells beside a cell differs from it. -/
def edgeI (D : Nat → Nat → Bool) (wr : Bool) (w h : Int) (x y : Int) : Bool := four.any fun p => (wr || (inR (x + p.1) 0 (w - 1) && inR (y + p.2) 0 (h - 1))) && D (atC w h (x + p.1) (y + p.2)).toNat (atC w h x y).toNat
def edgeS (D : Nat → Nat → Bool) (wr : Bool) (W H i : Nat) : Bool := (List.range (W * H)).any fun k => D i k && decide (wayA wr W ((i % W : Nat) : Int) ((k % W : Nat) : Int) + wayA wr H ((i / W : Nat) : Int) ((k / W : Nat) : Int) = 1)

theorem atC_nat {W H x y : Nat} (hW : 3 ≤ W) (hH : 3 ≤ H) (hx : x < W) (hy : y < H) : (atC W H x y).toNat = W * y + x := by
  unfold atC
  rw [wrapC (by omega) (by omega) (by omega), wrapC (by omega) (by omega) (by omega), if_neg (by omega), if_neg (by omega), if_neg (by omega), if_neg (by omega)]
  have : (W : Int) * (y : Int) = ((W * y : Nat) : Int) := (Int.natCast_mul _ _).symm
  omega
theorem edge_eq (D : Nat → Nat → Bool) (hD : ∀ a b, D a b = D b a) (wr : Bool) {W H x y : Nat} (hW : 3 ≤ W) (hH : 3 ≤ H) (hx : x < W) (hy : y < H) : edgeI D wr W H x y = edgeS D wr W H (W * y + x) := by
  have hat := atC_nat hW hH hx hy
  rw [Bool.eq_iff_iff]
  unfold edgeI edgeS
  rw [hat, List.any_eq_true, List.any_eq_true]
  have key : ∀ kx ky : Nat, kx < W → ky < H → wayA wr W x kx + wayA wr H y ky = 1 → D (W * y + x) (W * ky + kx) = true → ∃ p ∈ four, ((wr || (inR (x + p.1) 0 (W - 1) && inR (y + p.2) 0 (H - 1))) && D (atC W H (x + p.1) (y + p.2)).toNat (W * y + x)) = true := by
    intro kx ky hkx hky hw hd
    have p1 := wayA_pos (wr := wr) (len := W) (a := x) (b := kx) (by omega) (by omega) (by omega) (by omega) (by omega)
    have p2 := wayA_pos (wr := wr) (len := H) (a := y) (b := ky) (by omega) (by omega) (by omega) (by omega) (by omega)
    have go : ∀ dx dy : Int, (dx, dy) ∈ four → (wr = true ∨ (0 ≤ x + dx ∧ x + dx ≤ W - 1 ∧ 0 ≤ y + dy ∧ y + dy ≤ H - 1)) → (x + dx + W).tmod W = kx → (y + dy + H).tmod H = ky → ∃ p ∈ four, ((wr || (inR (x + p.1) 0 (W - 1) && inR (y + p.2) 0 (H - 1))) && D (atC W H (x + p.1) (y + p.2)).toNat (W * y + x)) = true := by
      intro dx dy hm hin e1 e2
      refine ⟨(dx, dy), hm, ?_⟩
      rw [Bool.and_eq_true]
      constructor
      · rcases hin with h | ⟨h1, h2, h3, h4⟩
        · rw [h]; rfl
        · simp only [inR, Bool.or_eq_true, Bool.and_eq_true, decide_eq_true_eq]; right; omega
      · unfold atC
        dsimp only
        rw [e1, e2, hD]
        have : ((kx : Int) + (W : Int) * (ky : Int)).toNat = W * ky + kx := by
          have : (W : Int) * (ky : Int) = ((W * ky : Nat) : Int) := (Int.natCast_mul _ _).symm
          omega
        rw [this]; exact hd
    rcases (show (wayA wr W x kx = 1 ∧ wayA wr H y ky = 0) ∨ (wayA wr W x kx = 0 ∧ wayA wr H y ky = 1) from by omega) with ⟨h1, h0⟩ | ⟨h0, h1⟩
    · have e0 := (wayA_zero (by omega) (by omega) (by omega) (by omega) (by omega)).1 h0
      have hyy : (y + 0 + H : Int).tmod H = ky := by rw [Int.add_zero, wrapC (by omega) (by omega) (by omega), if_neg (by omega), if_neg (by omega)]; exact e0
      rcases (wayA_one (by omega) (by omega) (by omega) (by omega) (by omega)).1 h1 with e | e | ⟨hr, ⟨e, e'⟩ | ⟨e, e'⟩⟩
      · exact go 1 0 (by simp [four]) (.inr (by omega)) (by rw [wrapC (by omega) (by omega) (by omega), if_neg (by omega), if_neg (by omega)]; omega) hyy
      · exact go (-1) 0 (by simp [four]) (.inr (by omega)) (by rw [wrapC (by omega) (by omega) (by omega), if_neg (by omega), if_neg (by omega)]; omega) hyy
      · exact go (-1) 0 (by simp [four]) (.inl hr) (by rw [wrapC (by omega) (by omega) (by omega), if_pos (by omega)]; omega) hyy
      · exact go 1 0 (by simp [four]) (.inl hr) (by rw [wrapC (by omega) (by omega) (by omega), if_neg (by omega), if_pos (by omega)]; omega) hyy
    · have e0 := (wayA_zero (by omega) (by omega) (by omega) (by omega) (by omega)).1 h0
      have hxx : (x + 0 + W : Int).tmod W = kx := by rw [Int.add_zero, wrapC (by omega) (by omega) (by omega), if_neg (by omega), if_neg (by omega)]; exact e0
      rcases (wayA_one (by omega) (by omega) (by omega) (by omega) (by omega)).1 h1 with e | e | ⟨hr, ⟨e, e'⟩ | ⟨e, e'⟩⟩
      · exact go 0 1 (by simp [four]) (.inr (by omega)) hxx (by rw [wrapC (by omega) (by omega) (by omega), if_neg (by omega), if_neg (by omega)]; omega)
      · exact go 0 (-1) (by simp [four]) (.inr (by omega)) hxx (by rw [wrapC (by omega) (by omega) (by omega), if_neg (by omega), if_neg (by omega)]; omega)
      · exact go 0 (-1) (by simp [four]) (.inl hr) hxx (by rw [wrapC (by omega) (by omega) (by omega), if_pos (by omega)]; omega)
      · exact go 0 1 (by simp [four]) (.inl hr) hxx (by rw [wrapC (by omega) (by omega) (by omega), if_neg (by omega), if_pos (by omega)]; omega)
  constructor
  · rintro ⟨⟨dx, dy⟩, hm, h⟩
    dsimp only at h
    rw [Bool.and_eq_true] at h
    obtain ⟨hin, hd⟩ := h
    have hin' : wr = true ∨ (0 ≤ x + dx ∧ x + dx ≤ (W : Int) - 1 ∧ 0 ≤ y + dy ∧ y + dy ≤ (H : Int) - 1) := by
      simp only [inR, Bool.or_eq_true, Bool.and_eq_true, decide_eq_true_eq] at hin
      rcases hin with h | h
      · exact .inl h
      · right; omega
    have fin : ∀ kx ky : Nat, kx < W → ky < H → (x + dx + W : Int).tmod W = kx → (y + dy + H : Int).tmod H = ky → wayA wr W x kx + wayA wr H y ky = 1 → ∃ k ∈ List.range (W * H), (D (W * y + x) k && decide (wayA wr W (((W * y + x) % W : Nat) : Int) ((k % W : Nat) : Int) + wayA wr H (((W * y + x) / W : Nat) : Int) ((k / W : Nat) : Int) = 1)) = true := by
      intro kx ky hkx hky e1 e2 hw
      refine ⟨W * ky + kx, List.mem_range.2 (cell_lt hkx hky), ?_⟩
      rw [mod_at hx, div_at hx, mod_at hkx, div_at hkx, hw, decide_eq_true rfl, Bool.and_true, hD]
      unfold atC at hd
      rw [e1, e2] at hd
      have : ((kx : Int) + (W : Int) * (ky : Int)).toNat = W * ky + kx := by
        have : (W : Int) * (ky : Int) = ((W * ky : Nat) : Int) := (Int.natCast_mul _ _).symm
        omega
      rw [this] at hd
      exact hd
    have wz : ∀ (len a : Nat), 3 ≤ len → a < len → wayA wr len a a = 0 := fun len a h1 h2 => (wayA_zero (by omega) (by omega) (by omega) (by omega) (by omega)).2 rfl
    have hxx : (x + 0 + W : Int).tmod W = x := by rw [Int.add_zero, wrapC (by omega) (by omega) (by omega), if_neg (by omega), if_neg (by omega)]
    have hyy : (y + 0 + H : Int).tmod H = y := by rw [Int.add_zero, wrapC (by omega) (by omega) (by omega), if_neg (by omega), if_neg (by omega)]
    have one : ∀ (len a b : Nat), 3 ≤ len → a < len → b < len → (((b : Int) = a + 1 ∨ (b : Int) = a - 1 ∨ (wr = true ∧ ((a : Int) = 0 ∧ (b : Int) = len - 1 ∨ (a : Int) = len - 1 ∧ (b : Int) = 0)))) → wayA wr len a b = 1 := fun len a b h1 h2 h3 h4 => (wayA_one (by omega) (by omega) (by omega) (by omega) (by omega)).2 h4
    simp only [four, List.mem_cons, List.not_mem_nil, or_false, Prod.mk.injEq] at hm
    rcases hm with ⟨rfl, rfl⟩ | ⟨rfl, rfl⟩ | ⟨rfl, rfl⟩ | ⟨rfl, rfl⟩
    · by_cases hc : x + 1 = W
      · refine fin 0 y (by omega) hy (by rw [wrapC (by omega) (by omega) (by omega), if_neg (by omega), if_pos (by omega)]; rfl) hyy ?_
        rw [wz H y hH hy, one W x 0 hW hx (by omega) (.inr (.inr ⟨hin'.resolve_right (by omega), .inr (by omega)⟩))]; rfl
      · refine fin (x + 1) y (by omega) hy (by rw [wrapC (by omega) (by omega) (by omega), if_neg (by omega), if_neg (by omega)]; omega) hyy ?_
        rw [wz H y hH hy, one W x (x + 1) hW hx (by omega) (.inl (by omega))]; rfl
    · by_cases hc : x = 0
      · refine fin (W - 1) y (by omega) hy (by rw [wrapC (by omega) (by omega) (by omega), if_pos (by omega)]; omega) hyy ?_
        rw [wz H y hH hy, one W x (W - 1) hW hx (by omega) (.inr (.inr ⟨hin'.resolve_right (by omega), .inl (by omega)⟩))]; rfl
      · refine fin (x - 1) y (by omega) hy (by rw [wrapC (by omega) (by omega) (by omega), if_neg (by omega), if_neg (by omega)]; omega) hyy ?_
        rw [wz H y hH hy, one W x (x - 1) hW hx (by omega) (.inr (.inl (by omega)))]; rfl
    · by_cases hc : y + 1 = H
      · refine fin x 0 hx (by omega) hxx (by rw [wrapC (by omega) (by omega) (by omega), if_neg (by omega), if_pos (by omega)]; rfl) ?_
        rw [wz W x hW hx, one H y 0 hH hy (by omega) (.inr (.inr ⟨hin'.resolve_right (by omega), .inr (by omega)⟩))]; rfl
      · refine fin x (y + 1) hx (by omega) hxx (by rw [wrapC (by omega) (by omega) (by omega), if_neg (by omega), if_neg (by omega)]; omega) ?_
        rw [wz W x hW hx, one H y (y + 1) hH hy (by omega) (.inl (by omega))]; rfl
    · by_cases hc : y = 0
      · refine fin x (H - 1) hx (by omega) hxx (by rw [wrapC (by omega) (by omega) (by omega), if_pos (by omega)]; omega) ?_
        rw [wz W x hW hx, one H y (H - 1) hH hy (by omega) (.inr (.inr ⟨hin'.resolve_right (by omega), .inl (by omega)⟩))]; rfl
      · refine fin x (y - 1) hx (by omega) hxx (by rw [wrapC (by omega) (by omega) (by omega), if_neg (by omega), if_neg (by omega)]; omega) ?_
        rw [wz W x hW hx, one H y (y - 1) hH hy (by omega) (.inr (.inl (by omega)))]; rfl
  · rintro ⟨k, hk, h⟩
    rw [List.mem_range] at hk
    rw [Bool.and_eq_true, decide_eq_true_eq, mod_at hx, div_at hx] at h
    have hWp : 0 < W := by omega
    have hk1 : k % W < W := Nat.mod_lt _ hWp
    have hk2 : k / W < H := by rw [Nat.div_lt_iff_lt_mul hWp, Nat.mul_comm]; exact hk
    refine key (k % W) (k / W) hk1 hk2 h.2 ?_
    rw [Nat.div_add_mod]
    exact h.1
end Go.Abs

