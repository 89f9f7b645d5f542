/- Plain law: numbers without a rest, ramps, and outlines. No condition beyond those written. -/
import Derived.Test.YtdlicidmkakooaaOutlinedL115
import Derived.Test.YtdlicidmkakooaaOutlinedL32
import Derived.Test.YtdlicidmkakooaaOutlinedL58
namespace Go.Abs
set_option linter.unusedSimpArgs false
set_option linter.unusedVariables false
set_option maxHeartbeats 8000000
set_option maxRecDepth 4000

/-! A number and its opposite have no rest. -/
theorem mOne_read : Ieee.single.read mOne = .number true 8388608 (-23) := by decide +kernel
theorem cut_whole {s : Bool} {m : Nat} (h : 1 ≤ m) : Ieee.Toward.even.cut s (m * 8388608) 23 = m := by
  unfold Ieee.Toward.cut
  have h1 : 23 ≤ (m * 8388608).log2 := (Nat.le_log2 (by omega)).2 (by omega)
  rw [Nat.min_eq_left (by omega), show 1 <<< 23 = 8388608 from by decide]
  dsimp only
  rw [Nat.mul_div_cancel _ (by decide), Nat.mul_mod_left]
  simp
theorem read_word {s : Bool} {r : Nat} (hr : r < 2139095040) : Ieee.single.read (Ieee.single.word s r) = if r < 8388608 then .number s r (-149) else .number s (8388608 + r % 8388608) (-149 + ((r / 8388608 - 1 : Nat) : Int)) := by
  obtain ⟨c1, c2, c3, c4⟩ := single_consts
  unfold Ieee.Format.read
  dsimp only
  have e1 : Ieee.single.word s r % 2147483648 = r ∧ (Ieee.single.word s r / 2147483648 % 2 == 1) = s := by
    unfold Ieee.Format.word
    rw [c4]
    cases s
    · exact ⟨by simp only [Bool.false_eq_true, if_false]; omega, by simp only [Bool.false_eq_true, if_false]; rw [Nat.div_eq_of_lt (by omega)]; rfl⟩
    · refine ⟨by simp only [if_true]; omega, ?_⟩
      simp only [if_true]
      rw [show (2147483648 + r) / 2147483648 = 1 from by omega]; rfl
  rw [c1, c2, c3, c4, e1.1, e1.2]
  split
  · rfl
  · first | rfl | rw [if_pos hr]
theorem near_low {s : Bool} {m : Nat} (h1 : m < 8388608) : Ieee.single.nearest s (m * 8388608) (-172) = Ieee.single.word s m := by
  obtain ⟨c1, c2, c3, c4⟩ := single_consts
  unfold Ieee.Format.nearest
  rcases Nat.eq_zero_or_pos m with rfl | hp
  · rw [Nat.zero_mul, if_pos rfl]
  · obtain ⟨M, hM⟩ : ∃ M, m * 8388608 = M := ⟨_, rfl⟩
    have hcut : Ieee.Toward.even.cut s M 23 = m := by rw [← hM]; exact cut_whole hp
    have hl : M.log2 < 46 := (Nat.log2_lt (by omega)).2 (by omega)
    obtain ⟨k, hk⟩ : ∃ k, M.log2 = k := ⟨_, rfl⟩
    rw [hM, if_neg (by omega), c1, c2, c3, hk]
    rw [hk] at hl
    have hf : (Ieee.single.fractionBits : Int) = 23 := rfl
    rw [hf]
    dsimp only
    rw [show max (-172 + (k : Int) - 23) (-149) = -149 from by omega]
    rw [show (-172 - -149 : Int).toNat = 0 from by decide, show (-149 - -172 : Int).toNat = 23 from by decide, Nat.shiftLeft_zero, hcut]
    rw [show (-149 - -149 : Int).toNat = 0 from by decide, Nat.zero_mul, Nat.zero_add, Nat.min_eq_left (by omega)]
theorem near_high {s : Bool} {m q : Nat} (hm1 : 8388608 ≤ m) (hm2 : m < 16777216) (h3 : q * 8388608 + m ≤ 2139095040) : Ieee.single.nearest s (m * 8388608) (-149 + (q : Int) + -23) = Ieee.single.word s (q * 8388608 + m) := by
  obtain ⟨c1, c2, c3, c4⟩ := single_consts
  unfold Ieee.Format.nearest
  obtain ⟨M, hM⟩ : ∃ M, m * 8388608 = M := ⟨_, rfl⟩
  have hcut : Ieee.Toward.even.cut s M 23 = m := by rw [← hM]; exact cut_whole (by omega)
  have hl : M.log2 = 46 := (Nat.log2_eq_iff (by omega)).2 ⟨by omega, by omega⟩
  rw [hM, if_neg (by omega), c1, c2, c3, hl]
  have hf : (Ieee.single.fractionBits : Int) = 23 := rfl
  rw [hf]
  dsimp only
  rw [show max (-149 + (q : Int) + -23 + ((46 : Nat) : Int) - 23) (-149) = -149 + (q : Int) from by omega]
  rw [show (-149 + (q : Int) + -23 - (-149 + (q : Int))).toNat = 0 from by omega, show (-149 + (q : Int) - (-149 + (q : Int) + -23)).toNat = 23 from by omega, Nat.shiftLeft_zero, hcut]
  rw [show (-149 + (q : Int) - -149).toNat = q from by omega, Nat.min_eq_left h3]
theorem product_num (s t : Bool) (m n : Nat) (i j : Int) : (Ieee.Datum.number s m i).product (.number t n j) = some (.number (s ^^ t) (m * n) (i + j)) := rfl
theorem write_num (f : Ieee.Format) (s : Bool) (m : Nat) (i : Int) : f.write (.number s m i) = f.nearest s m i := rfl
theorem fbin_mul (x y : Nat) : fbin .mul .f32 x y = (((Ieee.single.read x).product (Ieee.single.read y)).map Ieee.single.write).getD (nanOf .f32) := rfl
theorem opp_read {x : Nat} {s : Bool} {m : Nat} {e : Int} (hx : x < 4294967296) (h : Ieee.single.read x = .number s m e) : Ieee.single.read (fbin .mul .f32 x mOne) = .number (!s) m e := by
  have hm : fbin .mul .f32 x mOne = Ieee.single.nearest (!s) (m * 8388608) (e + -23) := by
    rw [fbin_mul, h, mOne_read, product_num, Option.map_some, Option.getD_some, write_num, Bool.xor_true]
  obtain ⟨_, hc⟩ := single_number hx h
  obtain ⟨r, hr⟩ : ∃ r, x % 2147483648 = r := ⟨_, rfl⟩
  rw [hr] at hc
  rw [hm]
  rcases hc with ⟨h1, h2, h3⟩ | ⟨h0, h1, h2, h3⟩
  · rw [h3, show (-149 + -23 : Int) = -172 from by decide, h2, near_low h1, read_word (by omega), if_pos h1]
  · obtain ⟨q, hq⟩ : ∃ q, r / 8388608 - 1 = q := ⟨_, rfl⟩
    rw [hq] at h3
    have e : q * 8388608 + m = r := by omega
    rw [h3, near_high (by omega) (by omega) (by omega), e, read_word h1, if_neg (by omega), hq, ← h2]
theorem no_rest {x : Nat} {s : Bool} {m : Nat} {e : Int} (hx : x < 4294967296) (h : Ieee.single.read x = .number s m e) : fbin .add .f32 x (fbin .mul .f32 x mOne) = 0 := by
  show (((Ieee.single.read x).sum (Ieee.single.read (fbin .mul .f32 x mOne))).map Ieee.single.write).getD _ = _
  rw [h, opp_read hx h]
  show Ieee.single.write (Ieee.Datum.number (if Ieee.signed s m (e - min e e).toNat + Ieee.signed (!s) m (e - min e e).toNat = 0 then s && !s else decide (Ieee.signed s m (e - min e e).toNat + Ieee.signed (!s) m (e - min e e).toNat < 0)) (Ieee.signed s m (e - min e e).toNat + Ieee.signed (!s) m (e - min e e).toNat).natAbs (min e e)) = 0
  have hz : Ieee.signed s m (e - min e e).toNat + Ieee.signed (!s) m (e - min e e).toNat = 0 := by
    unfold Ieee.signed
    cases s <;> simp <;> omega
  rw [hz, if_pos rfl]
  cases s <;> rfl
theorem fin_number {x : Nat} (h : finB x = true) : ∃ s m e, Ieee.single.read x = .number s m e := by
  unfold finB at h
  cases hr : Ieee.single.read x with
  | number s m e => exact ⟨s, m, e, rfl⟩
  | infinity s =>
    exfalso
    have : fbin .sub .f32 x x = nanOf .f32 := by
      show (((Ieee.single.read x).sum (Ieee.single.read x).opposite).map Ieee.single.write).getD _ = _
      rw [hr]; cases s <;> rfl
    rw [this, show feq .f32 (nanOf .f32) 0 = false from by decide +kernel] at h; cases h
  | nan s t =>
    exfalso
    have : fbin .sub .f32 x x = nanOf .f32 := by
      show (((Ieee.single.read x).sum (Ieee.single.read x).opposite).map Ieee.single.write).getD _ = _
      rw [hr]; rfl
    rw [this, show feq .f32 (nanOf .f32) 0 = false from by decide +kernel] at h; cases h
theorem zero_zero : feq .f32 0 0 = true := by decide +kernel
theorem rest_zero {x : Nat} (hx : x < 4294967296) (h : finB x = true) : feq .f32 (fbin .add .f32 x (fbin .mul .f32 x mOne)) 0 = true := by
  obtain ⟨s, m, e, hr⟩ := fin_number h
  rw [no_rest hx hr]; exact zero_zero
/-- A number that is 0 is one of two. -/
theorem zero_read {x : Nat} (hx : x < 4294967296) (h : feq .f32 x 0 = true) : ∃ s, Ieee.single.read x = .number s 0 (-149) := by
  unfold feq at h
  have h0 : FloatKind.f32.format.order x 0 = some .eq := by simpa using h
  have hz : Ieee.single.read 0 = .number false 0 (-149) := by decide +kernel
  have h1 : (Ieee.single.read x).order (Ieee.single.read 0) = some .eq := h0
  rw [hz] at h1
  cases hr : Ieee.single.read x with
  | nan s t => rw [hr] at h1; cases h1
  | infinity s => rw [hr] at h1; cases s <;> simp [Ieee.Datum.order] at h1
  | number s m e =>
    rw [hr] at h1
    simp only [Ieee.Datum.order, Option.some.injEq] at h1
    have h2 := cmp_eq.1 h1
    obtain ⟨_, hc⟩ := single_number hx hr
    have hm : m = 0 := by
      unfold Ieee.signed at h2
      rw [Nat.shiftLeft_eq, Nat.shiftLeft_eq] at h2
      have hp := Nat.pos_of_ne_zero (show (2 : Nat) ^ (e - min e (-149)).toNat ≠ 0 from Nat.pos_iff_ne_zero.1 (Nat.pow_pos (by decide)))
      generalize (2 : Nat) ^ (e - min e (-149)).toNat = P at h2 hp
      rw [Nat.zero_mul] at h2
      have hz : m * P = 0 := by
        generalize m * P = z at h2 ⊢
        cases s <;> simp at h2 <;> omega
      rcases Nat.mul_eq_zero.1 hz with h | h <;> omega
    subst hm
    rcases hc with ⟨_, _, rfl⟩ | ⟨_, _, h5, _⟩
    · exact ⟨s, rfl⟩
    · omega

/-! Fields and their opposites. -/
def oppN (x : Nat) : Nat := fbin .mul .f32 x mOne
def restN (x : Nat) : Nat := fbin .add .f32 x (oppN x)
theorem newM_map (g : Nat → Nat) (xs : List Nat) : newM (fun i => g (xs.getD i 0)) xs = xs.map g := by
  unfold newM
  apply List.ext_getElem
  · simp
  · intro i h1 h2
    rw [List.getElem_map, List.getElem_map, List.getElem_range, List.getD_eq_getElem?_getD, List.getElem?_eq_getElem (by simpa using h2)]
    rfl
theorem scaleL_map (xs : List Nat) : scaleL mOne xs = xs.map oppN := newM_map oppN xs
theorem addL_map (xs : List Nat) : addL xs (xs.map oppN) = xs.map restN := by
  rw [← newM_map restN]
  unfold addL newM
  apply List.ext_getElem
  · simp
  · intro i h1 h2
    have h3 : i < xs.length := by simpa using h2
    rw [List.getElem_map, List.getElem_map, List.getElem_range, List.getD_eq_getElem?_getD, List.getD_eq_getElem?_getD, List.getElem?_map, List.getElem?_eq_getElem h3]
    rfl
theorem oppN_zero {x : Nat} (hx : x < 4294967296) (h : feq .f32 x 0 = true) : feq .f32 (oppN x) 0 = true := by
  obtain ⟨s, hr⟩ := zero_read hx h
  have h1 := opp_read hx hr
  have h2 : Ieee.single.read 0 = .number false 0 (-149) := by decide +kernel
  show (Ieee.Datum.order (Ieee.single.read (oppN x)) (Ieee.single.read 0) == some .eq) = true
  unfold oppN
  rw [h1, h2]
  cases s <;> decide
theorem restN_zero {x : Nat} (hx : x < 4294967296) (h : feq .f32 x 0 = true) : feq .f32 (restN x) 0 = true := by
  obtain ⟨s, hr⟩ := zero_read hx h
  show feq .f32 (fbin .add .f32 x (fbin .mul .f32 x mOne)) 0 = true
  rw [no_rest hx hr]; exact zero_zero
theorem getD_map_lt {g : Nat → Nat} {xs : List Nat} {i : Nat} (h : i < xs.length) : (xs.map g).getD i 0 = g (xs.getD i 0) := by
  rw [List.getD_eq_getElem?_getD, List.getD_eq_getElem?_getD, List.getElem?_map, List.getElem?_eq_getElem h]; rfl
theorem isField_map {W H : Nat} {wr : Bool} {sp lo : List Nat} {f : Fld} {g : Nat → Nat} (hg : ∀ x, x < 4294967296 → feq .f32 x 0 = true → feq .f32 (g x) 0 = true) (hl : lowF1 f) (h : isField W H wr sp lo f.e f.x f.y = true) : isField W H wr sp lo (f.e.map g) (f.x.map g) (f.y.map g) = true := by
  unfold isField fits at h ⊢
  rw [Int.toNat_natCast, Int.toNat_natCast] at h ⊢
  rw [List.length_map, List.length_map, List.length_map]
  simp only [Bool.and_eq_true, decide_eq_true_eq, Bool.or_eq_true, List.all_eq_true, List.mem_range] at h ⊢
  obtain ⟨h0, ⟨⟨h1, h2⟩, h3⟩, h4⟩ := h
  refine ⟨h0, ⟨⟨h1, h2⟩, h3⟩, h4.imp id fun h4 i hi => ?_⟩
  have h5 := h4 i hi
  unfold badC at h5 ⊢
  rw [getD_map_lt (by omega), getD_map_lt (by omega), getD_map_lt (by omega)]
  have k1 := hg _ (hl.1 i)
  have k2 := hg _ (hl.2.1 i)
  have k3 := hg _ (hl.2.2 i)
  have q : ∀ {a b c : Bool}, (b = true → c = true) → (a && !b) = false → (a && !c) = false := fun {a b c} h1 h2 => by cases a <;> cases b <;> cases c <;> simp_all
  simp only [Bool.not_eq_true', Bool.or_eq_false_iff] at h5 ⊢
  exact ⟨⟨q k1 h5.1.1, q k2 h5.1.2⟩, q k3 h5.2⟩
theorem scat_ok {W H : Nat} {wr : Bool} {sp lo : List Nat} {f0 f : Fld} {n : Int} (hr : rfOk W H wr sp lo f0.e f0.x f0.y n = true) (hl : lowF1 f) (h : isField W H wr sp lo f.e f.x f.y = true) : sfOk W H wr sp lo W H wr sp lo f0.e f0.x f0.y n f f = true := by
  unfold sfOk sfA scOk adOk
  rw [hr, h, scaleL_map, scaleL_map, scaleL_map, addL_map, addL_map, addL_map, isField_map (fun x h1 h2 => oppN_zero h1 h2) hl h, isField_map (fun x h1 h2 => restN_zero h1 h2) hl h, decide_eq_true (show ((W : Int) = W ∧ (H : Int) = H ∧ wr = wr) from ⟨rfl, rfl, rfl⟩)]
  rfl
theorem runF_field {W H : Nat} {wr : Bool} {sp lo : List Nat} {f : Fld} (h : isField W H wr sp lo f.e f.x f.y = true) : ∀ k, isField W H wr sp lo (runF W H wr sp lo k f).e (runF W H wr sp lo k f).x (runF W H wr sp lo k f).y = true
  | 0 => h
  | k + 1 => stepF_field (runF_field h k)
theorem runF_lw {W H : Nat} {wr : Bool} {sp lo : List Nat} {f : Fld} (h : lowF1 f) : ∀ k, lowF1 (runF W H wr sp lo k f)
  | 0 => h
  | k + 1 => stepF_low (runF_lw h k)

end Go.Abs

