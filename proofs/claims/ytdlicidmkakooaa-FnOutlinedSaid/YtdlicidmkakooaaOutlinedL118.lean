/- Plain law: outlines are empty where all speeds are the same, and only there. No condition beyond those written. -/
import Derived.Test.YtdlicidmkakooaaOutlinedL116
namespace Go.Abs
set_option linter.unusedSimpArgs false
set_option linter.unusedVariables false
set_option maxHeartbeats 8000000
set_option maxRecDepth 4000

theorem read_0 : Ieee.single.read 0 = .number false 0 (-149) := by decide +kernel
theorem read_m0 : Ieee.single.read 2147483648 = .number true 0 (-149) := by decide +kernel
/-- A number not below 0 with a sign is -0. -/
theorem neg_zero {a : Nat} (ha : a < 4294967296) (h : fge .f32 a 0 = true) (hs : sgn32 a = true) : a = 2147483648 := by
  have h0 : ((Ieee.single.read a).order (Ieee.single.read 0) == some .gt || (Ieee.single.read a).order (Ieee.single.read 0) == some .eq) = true := h
  rw [read_0] at h0
  cases hr : Ieee.single.read a with
  | nan s t => rw [hr] at h0; exact absurd h0 (by simp [Ieee.Datum.order])
  | infinity s =>
    obtain ⟨e1, _⟩ := single_infinity ha hr
    rw [hr, e1, hs] at h0; exact absurd h0 (by simp [Ieee.Datum.order])
  | number s m e =>
    obtain ⟨e1, hc⟩ := single_number ha hr
    rw [hr, e1, hs] at h0
    have hm : m = 0 := by
      rcases Nat.eq_zero_or_pos m with h | h
      · exact h
      · exfalso
        have hn : compare (Ieee.signed true m (e - min e (-149)).toNat) (Ieee.signed false 0 (-149 - min e (-149)).toNat) = .lt := by
          rw [Int.compare_eq_lt]
          unfold Ieee.signed
          simp only [if_true, Bool.false_eq_true, if_false, Nat.zero_shiftLeft]
          have : 0 < m <<< (e - min e (-149)).toNat := by rw [Nat.shiftLeft_eq]; exact Nat.mul_pos h (Nat.pow_pos (by decide))
          omega
        simp only [Ieee.Datum.order, hn] at h0
        exact absurd h0 (by simp [Ieee.Datum.order])
    subst hm
    unfold sgn32 at hs
    have := of_decide_eq_true hs
    rcases hc with ⟨_, h2, _⟩ | ⟨_, _, h2, _⟩ <;> omega
theorem feq_m0 (b : Nat) : feq .f32 2147483648 b = feq .f32 0 b := by
  show ((Ieee.single.read 2147483648).order (Ieee.single.read b) == some .eq) = ((Ieee.single.read 0).order (Ieee.single.read b) == some .eq)
  rw [read_0, read_m0]
  cases Ieee.single.read b with
  | nan s t => rfl
  | infinity s => rfl
  | number s m e =>
    simp only [Ieee.Datum.order]
    rw [show Ieee.signed true 0 (-149 - min (-149) e).toNat = Ieee.signed false 0 (-149 - min (-149) e).toNat from by unfold Ieee.signed; simp]
def cz (a : Nat) : Nat := if a = 2147483648 then 0 else a
theorem feq_cz (a b : Nat) : feq .f32 a b = feq .f32 (cz a) (cz b) := by
  have h1 : ∀ a b, feq .f32 a b = feq .f32 (cz a) b := fun a b => by
    unfold cz; split
    · subst a; exact feq_m0 b
    · rfl
  rw [h1 a b, feq_comm, h1 b, feq_comm]
theorem feqS {a b : Nat} (ha : a < 4294967296) (hb : b < 4294967296) (sa : share a 0x3f000000 = true) (sb : share b 0x3f000000 = true) (na : isNaN .f32 a = false) (nb : isNaN .f32 b = false) : feq .f32 a b = decide (cz a = cz b) := by
  have key : ∀ x, x < 4294967296 → share x 0x3f000000 = true → isNaN .f32 x = false → cz x < 4294967296 ∧ isNaN .f32 (cz x) = false ∧ sgn32 (cz x) = false := fun x hx sx nx => by
    unfold cz
    split
    · exact ⟨by omega, by decide +kernel, by decide⟩
    · rename_i hne
      refine ⟨hx, nx, ?_⟩
      cases hs : sgn32 x with
      | false => rfl
      | true =>
        unfold share at sx
        rw [Bool.and_eq_true] at sx
        exact absurd (neg_zero hx sx.1 hs) hne
  obtain ⟨a1, a2, a3⟩ := key a ha sa na
  obtain ⟨b1, b2, b3⟩ := key b hb sb nb
  have h := same_bits a1 b1 a2 b2
  rw [a3, b3, show (false == false) = true from rfl, Bool.and_true] at h
  rw [feq_cz, h]

section
variable {W H : Nat} {wr : Bool} {sp lo : List Nat}
theorem sp_eq (hI : isSheet W H sp lo = true) (hp : in32 sp) (hl : in32 lo) {i k : Nat} (hi : i < sp.length) (hk : k < sp.length) : feq .f32 (sp.getD i 0) (sp.getD k 0) = decide (cz (sp.getD i 0) = cz (sp.getD k 0)) := by
  obtain ⟨q1, _⟩ := isSheet_nums hI hp hl
  have hsh : ∀ i, i < sp.length → share (sp.getD i 0) 0x3f000000 = true := fun i hi => by
    unfold isSheet at hI
    simp only [Bool.and_eq_true] at hI
    exact List.all_eq_true.1 hI.1.2 _ (by rw [List.getD_eq_getElem?_getD, List.getElem?_eq_getElem hi]; exact List.getElem_mem hi)
  exact feqS (q1 i hi).1 (q1 k hk).1 (hsh i hi) (hsh k hk) (q1 i hi).2 (q1 k hk).2
theorem cellsN_nil {Q : Nat → Bool} {n : Nat} : (cellsN Q n).length = 0 ↔ ∀ i, i < n → Q i = false := by
  unfold cellsN
  rw [List.length_map, List.length_eq_zero_iff, List.filter_eq_nil_iff]
  simp only [List.mem_range, Bool.not_eq_true]
/-- A list without outlines has one speed. -/
theorem one_speed (hI : isSheet W H sp lo = true) (hp : in32 sp) (hl : in32 lo) : (cellsN (edgeS (diffS sp) wr W H) sp.length).length = 0 ↔ ∀ i, i < sp.length → feq .f32 (sp.getD i 0) (sp.getD 0 0) = true := by
  obtain ⟨a1, a2, a3, a4, z1, z2⟩ := isSheet_sides hI
  have hWH : (W : Int) * (H : Int) = ((W * H : Nat) : Int) := (Int.natCast_mul _ _).symm
  have hN : sp.length = W * H := by omega
  have hE := fun {i k : Nat} (hi : i < sp.length) (hk : k < sp.length) => sp_eq hI hp hl hi hk
  rw [cellsN_nil]
  constructor
  · intro h
    have hadj : ∀ i k, i < sp.length → k < sp.length → wayA wr W ((i % W : Nat) : Int) ((k % W : Nat) : Int) + wayA wr H ((i / W : Nat) : Int) ((k / W : Nat) : Int) = 1 → cz (sp.getD i 0) = cz (sp.getD k 0) := fun i k hi hk hw => by
      have h1 := h i hi
      unfold edgeS at h1
      rw [List.any_eq_false] at h1
      have h2 := h1 k (List.mem_range.2 (by omega))
      rw [decide_eq_true hw, Bool.and_true] at h2
      unfold diffS at h2
      rw [hE hi hk] at h2
      simpa using h2
    have hrow : ∀ y, y < H → ∀ x, x < W → cz (sp.getD (W * y + x) 0) = cz (sp.getD (W * y) 0) := fun y hy x => by
      have hb : ∀ x, x < W → W * y + x < sp.length := fun x hx => by
        have : W * y + W ≤ W * H := by rw [← Nat.mul_succ]; exact Nat.mul_le_mul_left _ (by omega)
        omega
      induction x with
      | zero => intro _; rfl
      | succ x ih =>
        intro hx
        rw [← ih (by omega)]
        refine hadj _ _ (hb _ hx) (hb _ (by omega)) ?_
        have m1 : (W * y + (x + 1)) % W = x + 1 := by rw [Nat.mul_add_mod, Nat.mod_eq_of_lt hx]
        have m2 : (W * y + x) % W = x := by rw [Nat.mul_add_mod, Nat.mod_eq_of_lt (by omega)]
        have d1 : (W * y + (x + 1)) / W = y := by rw [Nat.mul_add_div (by omega), Nat.div_eq_of_lt hx, Nat.add_zero]
        have d2 : (W * y + x) / W = y := by rw [Nat.mul_add_div (by omega), Nat.div_eq_of_lt (by omega), Nat.add_zero]
        rw [m1, m2, d1, d2, (wayA_zero (wr := wr) (len := H) (a := y) (b := y) (by omega) (by omega) (by omega) (by omega) (by omega)).2 rfl, (wayA_one (wr := wr) (len := W) (a := ((x + 1 : Nat) : Int)) (b := x) (by omega) (by omega) (by omega) (by omega) (by omega)).2 (.inr (.inl (by omega)))]
        rfl
    have hcol : ∀ y, y < H → cz (sp.getD (W * y) 0) = cz (sp.getD 0 0) := fun y => by
      have hb : ∀ y, y < H → W * y < sp.length := fun y hy => by
        have : W * y + W ≤ W * H := by rw [← Nat.mul_succ]; exact Nat.mul_le_mul_left _ (by omega)
        omega
      induction y with
      | zero => intro _; rw [Nat.mul_zero]
      | succ y ih =>
        intro hy
        rw [← ih (by omega)]
        refine hadj _ _ (hb _ hy) (hb _ (by omega)) ?_
        rw [Nat.mul_mod_right, Nat.mul_mod_right, Nat.mul_div_cancel_left _ (by omega), Nat.mul_div_cancel_left _ (by omega), (wayA_zero (wr := wr) (len := W) (a := ((0 : Nat) : Int)) (b := ((0 : Nat) : Int)) (by omega) (by omega) (by omega) (by omega) (by omega)).2 rfl, (wayA_one (wr := wr) (len := H) (a := ((y + 1 : Nat) : Int)) (b := y) (by omega) (by omega) (by omega) (by omega) (by omega)).2 (.inr (.inl (by omega)))]
        rfl
    intro i hi
    rw [hE hi (by omega), decide_eq_true_eq]
    have e : i = W * (i / W) + i % W := (Nat.div_add_mod i W).symm
    have hm : i % W < W := Nat.mod_lt _ (by omega)
    have hd : i / W < H := Nat.div_lt_of_lt_mul (by omega)
    conv => lhs; rw [e]
    rw [hrow _ hd _ hm, hcol _ hd]
  · intro h i hi
    unfold edgeS
    rw [List.any_eq_false]
    intro k hk
    have hk' : k < sp.length := by have := List.mem_range.1 hk; omega
    have h1 := h i hi
    have h2 := h k hk'
    rw [hE hi (by omega), decide_eq_true_eq] at h1
    rw [hE hk' (by omega), decide_eq_true_eq] at h2
    unfold diffS
    rw [hE hi hk', decide_eq_true (show cz (sp.getD i 0) = cz (sp.getD k 0) by rw [h1, h2])]
    simp
end
/-- Cells of an outline come in order. -/
theorem cellsN_mem {Q : Nat → Bool} {n i : Nat} (hi : i < (cellsN Q n).length) : 0 ≤ (cellsN Q n).getD i 0 ∧ (cellsN Q n).getD i 0 < n := by
  have hm : (cellsN Q n).getD i 0 ∈ cellsN Q n := by rw [List.getD_eq_getElem?_getD, List.getElem?_eq_getElem hi]; exact List.getElem_mem hi
  unfold cellsN at hm ⊢
  obtain ⟨k, hk, he⟩ := List.mem_map.1 hm
  rw [← he]
  have := List.mem_range.1 (List.mem_filter.1 hk).1
  exact ⟨Int.natCast_nonneg _, by show (k : Int) < n; omega⟩
theorem cellsN_lt {Q : Nat → Bool} {n i : Nat} (h0 : 0 < i) (hi : i < (cellsN Q n).length) : (cellsN Q n).getD (i - 1) 0 < (cellsN Q n).getD i 0 := by
  have hp : (cellsN Q n).Pairwise (· < ·) := by
    unfold cellsN
    rw [List.pairwise_map]
    exact (List.pairwise_lt_range.filter Q).imp fun h => by show (_ : Int) < _; exact Int.ofNat_lt.2 h
  rw [List.getD_eq_getElem?_getD, List.getD_eq_getElem?_getD, List.getElem?_eq_getElem hi, List.getElem?_eq_getElem (show i - 1 < _ by omega)]
  exact List.pairwise_iff_getElem.1 hp (i - 1) i (by omega) hi (by omega)
end Go.Abs

