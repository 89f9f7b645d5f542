/- Plain law: ramps are speeds, and begin and end as told. No condition beyond those written. -/
import Derived.Test.YtdlicidmkakooaaOutlinedL08
import Derived.Test.YtdlicidmkakooaaOutlinedL96
namespace Go.Abs
set_option linter.unusedSimpArgs false
set_option linter.unusedVariables false
set_option maxHeartbeats 8000000
set_option maxRecDepth 4000

/-- The value of a number in least units. -/
def valN : Ieee.Datum → Int
  | .number s m e => Ieee.signed s m (e + 149).toNat
  | _ => 0
theorem signed_scale (s : Bool) (m a b : Nat) : Ieee.signed s m a * 2 ^ b = Ieee.signed s m (a + b) := by
  unfold Ieee.signed
  rw [Nat.shiftLeft_eq, Nat.shiftLeft_eq, Nat.pow_add, ← Nat.mul_assoc]
  cases s <;> simp [Int.neg_mul]
theorem val_scale {s : Bool} {m : Nat} {e b : Int} (h1 : b ≤ e) (h2 : -149 ≤ b) : Ieee.signed s m (e - b).toNat * 2 ^ (b + 149).toNat = valN (.number s m e) := by
  rw [signed_scale]
  unfold valN
  congr 1
  omega
theorem pow_pos2 (b : Nat) : (0 : Int) < 2 ^ b := Int.pow_pos (by decide)
theorem read_place {x : Nat} {s : Bool} {m : Nat} {e : Int} (hx : x < 4294967296) (h : Ieee.single.read x = .number s m e) : -149 ≤ e := by
  obtain ⟨_, h⟩ := single_number hx h
  rcases h with ⟨_, _, rfl⟩ | ⟨_, _, _, rfl⟩ <;> omega
theorem sum_num (s t : Bool) (m n : Nat) (i j : Int) : (Ieee.Datum.number s m i).sum (.number t n j) = some (.number (if Ieee.signed s m (i - min i j).toNat + Ieee.signed t n (j - min i j).toNat = 0 then s && t else decide (Ieee.signed s m (i - min i j).toNat + Ieee.signed t n (j - min i j).toNat < 0)) (Ieee.signed s m (i - min i j).toNat + Ieee.signed t n (j - min i j).toNat).natAbs (min i j)) := rfl
theorem write_num2 (f : Ieee.Format) (s : Bool) (m : Nat) (i : Int) : f.write (.number s m i) = f.nearest s m i := rfl
theorem fbin_add (x y : Nat) : fbin .add .f32 x y = (((Ieee.single.read x).sum (Ieee.single.read y)).map Ieee.single.write).getD (nanOf .f32) := rfl
theorem word_false (r : Nat) : Ieee.single.word false r = r := if_neg (by decide)
theorem nearest_le (M : Nat) (p : Int) : ∃ r, r ≤ 2139095040 ∧ Ieee.single.nearest false M p = r := by
  obtain ⟨c1, c2, c3, c4⟩ := single_consts
  unfold Ieee.Format.nearest
  rw [word_false, c2]
  dsimp only
  rw [word_false]
  split
  · exact ⟨0, by omega, rfl⟩
  · exact ⟨_, Nat.min_le_right _ _, rfl⟩
/-- A sum not below 0 is written so. -/
theorem sum_nonneg {x y : Nat} {s t : Bool} {m n : Nat} {i j : Int} (hx : x < 4294967296) (hy : y < 4294967296) (h1 : Ieee.single.read x = .number s m i) (h2 : Ieee.single.read y = .number t n j) (hs : s = false) (hv : 0 ≤ valN (.number s m i) + valN (.number t n j)) : ∃ r, r ≤ 2139095040 ∧ fbin .add .f32 x y = r := by
  have p1 := read_place hx h1
  have p2 := read_place hy h2
  have hb1 : min i j ≤ i := by omega
  have hb2 : min i j ≤ j := by omega
  have hb3 : -149 ≤ min i j := by omega
  rw [← val_scale hb1 hb3, ← val_scale hb2 hb3, ← Int.add_mul] at hv
  have ht : 0 ≤ Ieee.signed s m (i - min i j).toNat + Ieee.signed t n (j - min i j).toNat := by
    rcases Int.lt_or_le (Ieee.signed s m (i - min i j).toNat + Ieee.signed t n (j - min i j).toNat) 0 with h | h
    · have := Int.mul_neg_of_neg_of_pos h (pow_pos2 (min i j + 149).toNat)
      omega
    · exact h
  have e : fbin .add .f32 x y = Ieee.single.nearest (if Ieee.signed s m (i - min i j).toNat + Ieee.signed t n (j - min i j).toNat = 0 then s && t else decide (Ieee.signed s m (i - min i j).toNat + Ieee.signed t n (j - min i j).toNat < 0)) (Ieee.signed s m (i - min i j).toNat + Ieee.signed t n (j - min i j).toNat).natAbs (min i j) := by
    rw [fbin_add, h1, h2, sum_num, Option.map_some, Option.getD_some, write_num2]
  have hneg : (if Ieee.signed s m (i - min i j).toNat + Ieee.signed t n (j - min i j).toNat = 0 then s && t else decide (Ieee.signed s m (i - min i j).toNat + Ieee.signed t n (j - min i j).toNat < 0)) = false := by
    split
    · rw [hs]; rfl
    · exact decide_eq_false (by omega)
  rw [hneg] at e
  obtain ⟨r, h3, h4⟩ := nearest_le (Ieee.signed s m (i - min i j).toNat + Ieee.signed t n (j - min i j).toNat).natAbs (min i j)
  exact ⟨r, h3, by rw [e, h4]⟩

theorem read_n0 : Ieee.single.read 0 = .number false 0 (-149) := by decide +kernel
def capH (v : Nat) : Nat := if fgt .f32 v 0x3f000000 then 0x3f000000 else v
theorem read_half : Ieee.single.read 0x3f000000 = .number false 8388608 (-24) := by decide +kernel
/-- What is not below 0 is a speed when it is cut. -/
theorem cap_share {r : Nat} (hr : r ≤ 2139095040) : share (capH r) 0x3f000000 = true := by
  unfold capH
  cases hg : fgt .f32 r 0x3f000000
  · simp only [Bool.false_eq_true, if_false]
    unfold share
    have h1 : ((Ieee.single.read r).order (Ieee.single.read 0x3f000000) == some .gt) = false := hg
    rw [Bool.and_eq_true]
    show (((Ieee.single.read r).order (Ieee.single.read 0) == some .gt || (Ieee.single.read r).order (Ieee.single.read 0) == some .eq) = true) ∧ (((Ieee.single.read r).order (Ieee.single.read 0x3f000000) == some .lt || (Ieee.single.read r).order (Ieee.single.read 0x3f000000) == some .eq) = true)
    rw [read_n0]
    rw [read_half] at h1 ⊢
    have hs : sgn32 r = false := decide_eq_false (by omega)
    cases hd : Ieee.single.read r with
    | nan s t =>
      exfalso
      obtain ⟨c1, c2, c3, c4⟩ := single_consts
      unfold Ieee.Format.read at hd
      dsimp only at hd
      rw [c1, c2, c3, c4, Nat.mod_eq_of_lt (by omega)] at hd
      split at hd
      · cases hd
      · split at hd
        · cases hd
        · rw [if_pos (by omega)] at hd; cases hd
    | infinity s =>
      obtain ⟨e1, _⟩ := single_infinity (by omega) hd
      rw [hd, e1, hs] at h1
      exact absurd h1 (by decide)
    | number s m e =>
      obtain ⟨e1, _⟩ := single_number (by omega) hd
      rw [hs] at e1; subst e1
      rw [hd] at h1
      simp only [Ieee.Datum.order] at h1 ⊢
      constructor
      · have h0 : (0 : Int) ≤ Ieee.signed false m (e - min e (-149)).toNat := by
          unfold Ieee.signed
          simp only [Bool.false_eq_true, if_false]
          exact Int.natCast_nonneg _
        rw [show Ieee.signed false 0 (-149 - min e (-149)).toNat = 0 from by unfold Ieee.signed; simp]
        generalize Ieee.signed false m (e - min e (-149)).toNat = z at h0 ⊢
        rcases Int.lt_or_eq_of_le h0 with h | h
        · rw [Int.compare_eq_gt.2 h]; rfl
        · subst h; rfl
      · generalize compare (Ieee.signed false m (e - min e (-24)).toNat) (Ieee.signed false 8388608 (-24 - min e (-24)).toNat) = o at h1 ⊢
        cases o
        · rfl
        · rfl
        · exact absurd h1 (by decide)
  · simp only [if_true]
    decide +kernel
def negS (d : Nat) : Nat := fbin .sub .f32 (spC 0) (spC (d : Int))
def okP (p : Nat) (lo : Int) : Bool := match Ieee.single.read p with
  | .number s m e => decide (lo ≤ valN (.number s m e))
  | _ => false
theorem okP_num {p : Nat} {lo : Int} (h : okP p lo = true) : ∃ s m e, Ieee.single.read p = .number s m e ∧ lo ≤ valN (.number s m e) := by
  unfold okP at h
  cases hr : Ieee.single.read p with
  | number s m e => rw [hr] at h; exact ⟨s, m, e, rfl, of_decide_eq_true h⟩
  | infinity s => rw [hr] at h; cases h
  | nan s t => rw [hr] at h; cases h
def spV (d : Nat) : Int := valN (Ieee.single.read (spC (d : Int)))
def chkP (d W x : Nat) : Bool := okP (fbin .mul .f32 (spC (d : Int)) (quot32 (x : Int) ((W : Int) - 1))) 0 && okP (fbin .mul .f32 (negS d) (quot32 (x : Int) ((W : Int) - 1))) (-(spV d))
theorem chk_all : ((List.range 9).all fun d => (List.range 17).all fun W => decide (W < 3) || (List.range W).all fun x => chkP d W x) = true := by decide +kernel
def subE (f t : Nat) : Bool := decide (fbin .sub .f32 (spC (t : Int)) (spC (f : Int)) = if f ≤ t then spC ((t - f : Nat) : Int) else negS (f - t)) && (decide (f < t) || decide (spV (f - t) ≤ spV f))
theorem sub_all : ((List.range 9).all fun f => (List.range 9).all fun t => subE f t) = true := by decide +kernel
def spP (f : Nat) : Bool := match Ieee.single.read (spC (f : Int)) with
  | .number s m e => !s && decide (0 ≤ valN (.number s m e))
  | _ => false
theorem sp_all : ((List.range 9).all fun f => spP f) = true := by decide +kernel
theorem ramp_share {f t W x : Nat} (h1 : f < 9) (h2 : t < 9) (h3 : 3 ≤ W) (h4 : W ≤ 16) (h5 : x < W) : share (rampV (spC (f : Int)) (spC (t : Int)) (W : Int) (x : Int)) 0x3f000000 = true := by
  have hc : ∀ d, d < 9 → chkP d W x = true := fun d hd => by
    have h := List.all_eq_true.1 chk_all d (List.mem_range.2 hd)
    have h := List.all_eq_true.1 h W (List.mem_range.2 (by omega))
    rw [decide_eq_false (by omega), Bool.false_or] at h
    exact List.all_eq_true.1 h x (List.mem_range.2 h5)
  have hsub := List.all_eq_true.1 (List.all_eq_true.1 sub_all f (List.mem_range.2 h1)) t (List.mem_range.2 h2)
  have hsp := List.all_eq_true.1 sp_all f (List.mem_range.2 h1)
  unfold subE at hsub
  rw [Bool.and_eq_true] at hsub
  obtain ⟨g1, g2⟩ := hsub
  have g1 := of_decide_eq_true g1
  obtain ⟨m, i, hf, hf0⟩ : ∃ m i, Ieee.single.read (spC (f : Int)) = .number false m i ∧ 0 ≤ valN (.number false m i) := by
    unfold spP at hsp
    cases hr : Ieee.single.read (spC (f : Int)) with
    | number s m e =>
      rw [hr] at hsp
      simp only [Bool.and_eq_true, Bool.not_eq_true'] at hsp
      obtain ⟨rfl, h⟩ := hsp
      exact ⟨m, e, rfl, of_decide_eq_true h⟩
    | infinity s => rw [hr] at hsp; cases hsp
    | nan s t => rw [hr] at hsp; cases hsp
  have hfl := (spC_n f h1).2
  have hR : rampV (spC (f : Int)) (spC (t : Int)) (W : Int) (x : Int) = capH (fbin .add .f32 (spC (f : Int)) (fbin .mul .f32 (fbin .sub .f32 (spC (t : Int)) (spC (f : Int))) (quot32 (x : Int) ((W : Int) - 1)))) := rfl
  rw [hR, g1]
  have hpl := fbin_lt .mul (if f ≤ t then spC ((t - f : Nat) : Int) else negS (f - t)) (quot32 (x : Int) ((W : Int) - 1))
  have key : ∃ s n j, Ieee.single.read (fbin .mul .f32 (if f ≤ t then spC ((t - f : Nat) : Int) else negS (f - t)) (quot32 (x : Int) ((W : Int) - 1))) = .number s n j ∧ 0 ≤ valN (.number false m i) + valN (.number s n j) := by
    by_cases hft : f ≤ t
    · rw [if_pos hft]
      have h := hc (t - f) (by omega)
      unfold chkP at h
      rw [Bool.and_eq_true] at h
      obtain ⟨s, n, j, e1, e2⟩ := okP_num h.1
      exact ⟨s, n, j, e1, by omega⟩
    · rw [if_neg hft]
      have h := hc (f - t) (by omega)
      unfold chkP at h
      rw [Bool.and_eq_true] at h
      obtain ⟨s, n, j, e1, e2⟩ := okP_num h.2
      rw [decide_eq_false (by omega), Bool.false_or] at g2
      have g3 := of_decide_eq_true g2
      rw [show spV f = valN (.number false m i) from by unfold spV; rw [hf]] at g3
      exact ⟨s, n, j, e1, by omega⟩
  obtain ⟨s, n, j, e1, e2⟩ := key
  obtain ⟨r, q1, q2⟩ := sum_nonneg hfl hpl hf e1 rfl e2
  rw [q2]
  exact cap_share q1
theorem quot_ends : ((List.range 17).all fun W => decide (W < 3) || decide (quot32 0 ((W : Int) - 1) = 0) && decide (quot32 ((W - 1 : Nat) : Int) ((W : Int) - 1) = 1065353216)) = true := by decide +kernel
def endE (f t : Nat) : Bool := feq .f32 (capH (fbin .add .f32 (spC (f : Int)) (fbin .mul .f32 (fbin .sub .f32 (spC (t : Int)) (spC (f : Int))) 0))) (spC (f : Int)) && feq .f32 (capH (fbin .add .f32 (spC (f : Int)) (fbin .mul .f32 (fbin .sub .f32 (spC (t : Int)) (spC (f : Int))) 1065353216))) (spC (t : Int))
theorem end_all : ((List.range 9).all fun f => (List.range 9).all fun t => endE f t) = true := by decide +kernel
theorem ramp_ends {f t W : Nat} (h1 : f < 9) (h2 : t < 9) (h3 : 3 ≤ W) (h4 : W ≤ 16) : feq .f32 (rampV (spC (f : Int)) (spC (t : Int)) (W : Int) 0) (spC (f : Int)) = true ∧ feq .f32 (rampV (spC (f : Int)) (spC (t : Int)) (W : Int) ((W - 1 : Nat) : Int)) (spC (t : Int)) = true := by
  have hq := List.all_eq_true.1 quot_ends W (List.mem_range.2 (by omega))
  rw [decide_eq_false (by omega), Bool.false_or, Bool.and_eq_true] at hq
  have he := List.all_eq_true.1 (List.all_eq_true.1 end_all f (List.mem_range.2 h1)) t (List.mem_range.2 h2)
  unfold endE at he
  rw [Bool.and_eq_true] at he
  have hR : ∀ x : Int, rampV (spC (f : Int)) (spC (t : Int)) (W : Int) x = capH (fbin .add .f32 (spC (f : Int)) (fbin .mul .f32 (fbin .sub .f32 (spC (t : Int)) (spC (f : Int))) (quot32 x ((W : Int) - 1)))) := fun _ => rfl
  rw [hR, hR, of_decide_eq_true hq.1, of_decide_eq_true hq.2]
  exact he
theorem ramp_sheet {W H f t : Nat} {sp lo : List Nat} (hI : isSheet W H sp lo = true) (h1 : f < 9) (h2 : t < 9) : rampOk W H sp lo (spC (f : Int)) (spC (t : Int)) = true := by
  obtain ⟨a1, a2, a3, a4, z1, z2⟩ := isSheet_sides hI
  unfold rampOk
  rw [hI, (spC_n f h1).1, (spC_n t h2).1, Int.toNat_natCast]
  unfold isSheet at hI ⊢
  simp only [Bool.and_eq_true] at hI ⊢
  obtain ⟨⟨⟨⟨h3, h4⟩, h5⟩, h6⟩, h7⟩ := hI
  refine ⟨⟨⟨trivial, trivial⟩, trivial⟩, ⟨⟨⟨h3, by rw [ramps_length]; exact h4⟩, h5⟩, List.all_eq_true.2 fun x hx => ?_⟩, h7⟩
  unfold ramps at hx
  obtain ⟨j, hj, rfl⟩ := List.mem_map.1 hx
  exact ramp_share h1 h2 (by omega) (by omega) (Nat.mod_lt _ (by omega))
theorem ramps_get {f t W n j : Nat} (hj : j < n) (hW : j < W) : (ramps f t W n).getD j 0 = rampV f t W (j : Int) := by
  unfold ramps
  rw [List.getD_eq_getElem?_getD, List.getElem?_map, List.getElem?_range hj]
  show rampV f t W ((j % W : Nat) : Int) = _
  rw [Nat.mod_eq_of_lt hW]
end Go.Abs

