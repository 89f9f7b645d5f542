/- The plain law of changes: they lead to the others, one with a byte more is refused, no change is short. No program. -/
import Derived.Test.YtogekdhkcndbdaaChangesL44
namespace Go.Abs
set_option maxHeartbeats 4000000

theorem bitsC_idem (a : Nat) : bitsC (bitsC a) = bitsC a := by
  unfold bitsC
  by_cases h : isNaN .f32 a = true
  · rw [if_pos h]; split <;> rfl
  · rw [if_neg h, if_neg h]
theorem runZ_congr {q r : Nat → Bool} {n : Nat} (h : ∀ k, k < n → q k = r k) : ∀ f a, runZ q n f a = runZ r n f a
  | 0, a => rfl
  | f + 1, a => by
    unfold runZ
    by_cases ha : a < n
    · rw [h a ha, runZ_congr h f (a + 1)]
    · rw [if_neg (fun h2 => ha h2.1), if_neg (fun h2 => ha h2.1)]
theorem words_congr {x y : Nat → Nat} {n a o : Nat} (h : ∀ k, k < n → x k = y k) (ho : a + o ≤ n) : words x a o = words y a o := by
  unfold words
  have : ∀ k ∈ List.range o, lowB (x (a + k)) 4 = lowB (y (a + k)) 4 := fun k hk => by rw [h _ (by have := List.mem_range.1 hk; omega)]
  rw [List.flatMap_def, List.flatMap_def, List.map_congr_left this]
theorem chg_congr {x y : Nat → Nat} {n : Nat} (h : ∀ k, k < n → x k = y k) : ∀ f a, chg x n f a = chg y n f a
  | 0, a => rfl
  | f + 1, a => by
    by_cases ha : a < n
    · have e1 : runZ (isZ x) n 255 a = runZ (isZ y) n 255 a := runZ_congr (fun k hk => by unfold isZ; rw [h k hk]) 255 a
      have e2 : runZ (notZ x) n 255 (a + runZ (isZ x) n 255 a) = runZ (notZ y) n 255 (a + runZ (isZ y) n 255 a) := by
        rw [e1]; exact runZ_congr (fun k hk => by unfold notZ; rw [h k hk]) 255 _
      have b1 := (runZ_le (isZ y) n 255 a).2 (by omega)
      have b2 := (runZ_le (notZ y) n 255 (a + runZ (isZ y) n 255 a)).2 b1
      rw [e1] at e2
      rw [chg_step (O := runZ (notZ y) n 255 (a + runZ (isZ y) n 255 a)) ha e1 e2, chg_step ha rfl rfl, words_congr h b2, chg_congr h f]
    · rw [chg_end ha, chg_end ha]
theorem mixed_get {a : List Nat} {x : Nat → Nat} {n k : Nat} (h : k < n) : (mixed a x n).getD k 0 = if x k = 0 then a.getD k 0 else bitsC (a.getD k 0) ^^^ x k := by
  rw [List.getD_eq_getElem?_getD, mixed, List.getElem?_map, List.getElem?_range h]; rfl
/-- The bits of the numbers to which the bytes lead are those of the others. -/
theorem mixed_bits {a b : List Nat} {n k : Nat} (h : k < n) : bitsC ((mixed a (xb a b) n).getD k 0) = bitsC (b.getD k 0) := by
  rw [mixed_get h]
  by_cases h0 : xb a b k = 0
  · rw [if_pos h0]
    exact xor_zero.1 h0
  · rw [if_neg h0]
    unfold xb
    rw [← Nat.xor_assoc, Nat.xor_self, Nat.zero_xor, bitsC_idem]
theorem apply_change {a b : List Nat} (la : lows a) (lb : lows b) (hn : a.length ≤ 768) : acOk a (chg (xb a b) a.length (a.length + 1) 0) = some (mixed a (xb a b) a.length) := by
  unfold acOk
  rw [if_pos hn]
  have hx : ∀ k, k < a.length → xb a b k < 4294967296 := fun k hk => xb_lt (lows_all la k) (lows_all lb k)
  have h := appl_chg (a := a) (s := chg (xb a b) a.length (a.length + 1) 0) (x := xb a b) hx (chg (xb a b) a.length (a.length + 1) 0).length 0 0 (a.length + 1) (List.drop_zero) (Nat.zero_le _) (Nat.zero_le _) (by omega) (by omega)
  rw [show mixed a (xb a b) 0 = [] from rfl] at h
  rw [h]
  refine acOf_t (mixed_length _ _ _) ?_
  exact chg_congr (fun k hk => by show bitsC (a.getD k 0) ^^^ bitsC ((mixed a (xb a b) a.length).getD k 0) = bitsC (a.getD k 0) ^^^ bitsC (b.getD k 0); rw [mixed_bits hk]) _ _

/-- One byte more. -/
theorem appl_more {a : List Nat} {s : List UInt8} {x : Nat → Nat} {c : UInt8} : ∀ (f p : Nat) (u : List Nat) (f2 : Nat), s.drop p = chg x a.length f2 u.length ++ [c] → u.length ≤ a.length → a.length < u.length + f2 → appl a s f p u = none
  | 0, p, u, f2, h1, h2, h3 => by rw [appl]
  | f + 1, p, u, f2, h1, h2, h3 => by
    obtain ⟨f3, rfl⟩ : ∃ f3, f2 = f3 + 1 := ⟨f2 - 1, by omega⟩
    have hl0 := congrArg List.length h1
    simp only [List.length_drop, List.length_append, List.length_cons, List.length_nil] at hl0
    have hp : p < s.length := by omega
    by_cases hu : u.length < a.length
    · obtain ⟨Z, hZ⟩ : ∃ Z, runZ (isZ x) a.length 255 u.length = Z := ⟨_, rfl⟩
      obtain ⟨O, hO⟩ : ∃ O, runZ (notZ x) a.length 255 (u.length + Z) = O := ⟨_, rfl⟩
      have b1 := runZ_le (isZ x) a.length 255 u.length
      have b2 := runZ_le (notZ x) a.length 255 (u.length + Z)
      have hpr := run_progress x hu
      rw [hZ, hO] at hpr
      rw [hZ] at b1
      rw [hO] at b2
      rw [chg_step hu hZ hO] at h1
      have e0 : s.getD p 0 = byteOf (Z : Nat) := by
        have := congrArg (fun l => l.getD 0 0) h1
        simp only [List.getD_eq_getElem?_getD, List.getElem?_drop, Nat.add_zero] at this
        rw [List.getD_eq_getElem?_getD, this]; rfl
      have e1 : s.getD (p + 1) 0 = byteOf (O : Nat) := by
        have := congrArg (fun l => l.getD 1 0) h1
        simp only [List.getD_eq_getElem?_getD, List.getElem?_drop] at this
        rw [List.getD_eq_getElem?_getD, this]; rfl
      have z0 : zAt s p = Z := by unfold zAt; rw [e0, byteOf_toNat b1.1]
      have z1 : zAt s (p + 1) = O := by unfold zAt; rw [e1, byteOf_toNat b2.1]
      by_cases hn : s.length < p + 2
      · exact appl_n1 hp hn
      by_cases hn2 : a.length < u.length + zAt s p + zAt s (p + 1) ∨ s.length < p + 2 + 4 * zAt s (p + 1)
      · exact appl_n2 hp hn hn2
      rw [appl_go hp hn hn2, z0, z1]
      have hlen : (u ++ (a.drop u.length).take Z ++ news a s (u.length + Z) (p + 2) O).length = u.length + Z + O := by
        simp only [List.length_append, List.length_take, List.length_drop, news_length]; omega
      refine appl_more (x := x) (c := c) f _ _ f3 ?_ (by rw [hlen]; omega) (by rw [hlen]; omega)
      rw [hlen]
      have := congrArg (List.drop (2 + 4 * O)) h1
      rw [List.drop_drop, List.append_assoc] at this
      rw [show p + 2 + 4 * O = p + (2 + 4 * O) from by omega, this]
      rw [List.drop_append_of_le_length (by simp only [List.length_cons, words_length]; omega), List.drop_of_length_le (by simp only [List.length_cons, words_length]; omega)]
      rfl
    · rw [chg_end (by omega)] at hl0
      simp only [List.length_nil] at hl0
      exact appl_n1 hp (by omega)
theorem apply_more {a b : List Nat} (c : UInt8) : acOk a (chg (xb a b) a.length (a.length + 1) 0 ++ [c]) = none := by
  unfold acOk
  split
  · rw [appl_more (x := xb a b) (c := c) _ 0 [] (a.length + 1) (by rw [List.drop_zero]; rfl) (Nat.zero_le _) (by simp)]
    rfl
  · rfl

/-- No change is short. -/
theorem runZ_full {q : Nat → Bool} {n : Nat} (h : ∀ k, k < n → q k = true) : ∀ f a, a ≤ n → n ≤ a + f → runZ q n f a = n - a
  | 0, a, h1, h2 => by rw [runZ]; omega
  | f + 1, a, h1, h2 => by
    unfold runZ
    by_cases ha : a < n
    · rw [if_pos ⟨ha, h a ha⟩, runZ_full h f (a + 1) (by omega) (by omega)]; omega
    · rw [if_neg (fun h2 => ha h2.1)]; omega
theorem chg_same {a : List Nat} (hn : a.length ≤ 255) : (chg (xb a a) a.length (a.length + 1) 0).length = if a.length = 0 then 0 else 2 := by
  have hx : ∀ k, isZ (xb a a) k = true := fun k => by simp [isZ, xb]
  by_cases h0 : a.length = 0
  · rw [if_pos h0, chg_end (by omega)]; rfl
  · rw [if_neg h0]
    have hZ : runZ (isZ (xb a a)) a.length 255 0 = a.length := by rw [runZ_full (fun k _ => hx k) 255 0 (by omega) (by omega)]; omega
    have hO : runZ (notZ (xb a a)) a.length 255 (0 + a.length) = 0 := by
      have := runZ_stop (q := notZ (xb a a)) (n := a.length) (a := 0 + a.length) (z := 0) (by omega)
      simpa using this
    rw [chg_step (by omega) hZ hO, chg_end (by omega)]
    rfl
end Go.Abs

