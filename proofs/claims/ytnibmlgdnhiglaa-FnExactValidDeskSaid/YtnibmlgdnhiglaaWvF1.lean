/- Facts on floats: comparisons, and that a 32-bit number made wide is one. No condition beyond those written. -/
import Derived.Test.YtnibmlgdnhiglaaWvD6
namespace Go.Abs

theorem order_some {k : FloatKind} {a b : Nat} (ha : isNaN k a = false) (hb : isNaN k b = false) : ∃ o, k.format.order a b = some o := by
  unfold isNaN FloatKind.decode at ha hb
  unfold Ieee.Format.order
  cases h1 : k.format.read a with
  | nan s t => rw [h1] at ha; simp [Ieee.Datum.isNaN] at ha
  | infinity s =>
    cases h2 : k.format.read b with
    | nan s t => rw [h2] at hb; simp [Ieee.Datum.isNaN] at hb
    | infinity t => exact ⟨_, rfl⟩
    | number t n j => exact ⟨_, rfl⟩
  | number s m i =>
    cases h2 : k.format.read b with
    | nan s t => rw [h2] at hb; simp [Ieee.Datum.isNaN] at hb
    | infinity t => exact ⟨_, rfl⟩
    | number t n j => exact ⟨_, rfl⟩

theorem order_self {k : FloatKind} {a : Nat} (ha : isNaN k a = false) : k.format.order a a = some .eq := by
  unfold isNaN FloatKind.decode at ha
  unfold Ieee.Format.order
  cases h1 : k.format.read a with
  | nan s t => rw [h1] at ha; simp [Ieee.Datum.isNaN] at ha
  | infinity s => simp [Ieee.Datum.order]
  | number s m i => simp [Ieee.Datum.order]

theorem not_nan_of_order {k : FloatKind} {a b : Nat} {o : Ordering} (h : k.format.order a b = some o) : isNaN k a = false ∧ isNaN k b = false := by
  refine ⟨?_, ?_⟩
  · cases hn : isNaN k a with
    | false => rfl
    | true => rw [order_nan (.inl hn)] at h; cases h
  · cases hn : isNaN k b with
    | false => rfl
    | true => rw [order_nan (.inr hn)] at h; cases h

theorem feq_self (k : FloatKind) (a : Nat) : feq k a a = !isNaN k a := by
  unfold feq
  cases h : isNaN k a with
  | true => rw [order_nan (.inl h)]; rfl
  | false => rw [order_self h]; rfl

theorem fge_nan {k : FloatKind} {a b : Nat} (h : fge k a b = true) : isNaN k a = false ∧ isNaN k b = false := by
  unfold fge at h
  cases ho : k.format.order a b with
  | none => rw [ho] at h; simp at h
  | some o => exact not_nan_of_order ho

theorem fgt_fle {k : FloatKind} {a b : Nat} (ha : isNaN k a = false) (hb : isNaN k b = false) : fgt k a b = !fle k a b := by
  obtain ⟨o, ho⟩ := order_some ha hb
  unfold fgt fle
  rw [ho]
  cases o <;> rfl

theorem cut_zero (neg : Bool) (n : Nat) : Ieee.Toward.even.cut neg n 0 = n := by
  simp [Ieee.Toward.cut, Nat.mod_one]

theorem nearest_double (s : Bool) (m : Nat) (e : Int) (hm : m < 2 ^ 24) (h1 : -149 ≤ e) (h2 : e ≤ 104) : ∃ r, Ieee.double.nearest s m e = Ieee.double.word s r ∧ r < Ieee.double.infRung := by
  have hinf : Ieee.double.infRung = 9218868437227405312 := by decide +kernel
  unfold Ieee.Format.nearest
  by_cases hm0 : m = 0
  · rw [if_pos hm0]
    exact ⟨0, rfl, by rw [hinf]; omega⟩
  · rw [if_neg hm0]
    have hlp : Ieee.double.leastPlace = -1074 := by decide +kernel
    have hfb : Ieee.double.fractionBits = 52 := rfl
    have hbin : Ieee.double.binade = 4503599627370496 := by decide +kernel
    have hL1 : m < 2 ^ (m.log2 + 1) := Nat.lt_log2_self
    have hL : m.log2 ≤ 23 := by
      have := (Nat.log2_lt hm0 (k := 24)).2 hm
      omega
    dsimp only
    rw [hlp, hfb, hbin]
    have hlast : max (e + (m.log2 : Int) - ((52 : Nat) : Int)) (-1074) = e + (m.log2 : Int) - 52 := by omega
    rw [hlast]
    have hd : (e + (m.log2 : Int) - 52 - e).toNat = 0 := by omega
    have hk : (e - (e + (m.log2 : Int) - 52)).toNat = 52 - m.log2 := by omega
    rw [hd, hk, cut_zero]
    have hkept : m <<< (52 - m.log2) < 2 ^ 53 := by
      rw [Nat.shiftLeft_eq]
      calc m * 2 ^ (52 - m.log2) < 2 ^ (m.log2 + 1) * 2 ^ (52 - m.log2) := Nat.mul_lt_mul_of_pos_right hL1 (Nat.pow_pos (by omega))
        _ = 2 ^ 53 := by rw [← Nat.pow_add]; congr 1; omega
    have hq : (e + (m.log2 : Int) - 52 - -1074).toNat ≤ 1149 := by omega
    have hle : (e + (m.log2 : Int) - 52 - -1074).toNat * 4503599627370496 + m <<< (52 - m.log2) < 9218868437227405312 := by
      have h9 : (e + (m.log2 : Int) - 52 - -1074).toNat * 4503599627370496 ≤ 1149 * 4503599627370496 := Nat.mul_le_mul_right _ hq
      exact Nat.lt_of_lt_of_le (Nat.add_lt_add_of_le_of_lt h9 hkept) (by decide)
    refine ⟨_, rfl, ?_⟩
    rw [hinf]
    exact Nat.lt_of_le_of_lt (Nat.min_le_left _ _) hle

theorem read_fin (s : Bool) (r : Nat) (h : r < Ieee.double.infRung) : (Ieee.double.read (Ieee.double.word s r)).isInfinity = false := by
  have hinf : Ieee.double.infRung = 9218868437227405312 := by decide +kernel
  have hsw : Ieee.double.signWeight = 9223372036854775808 := by decide +kernel
  have hmod : Ieee.double.word s r % Ieee.double.signWeight = r := by
    unfold Ieee.Format.word
    rw [hsw]
    rw [hinf] at h
    cases s
    · simp; omega
    · simp; omega
  unfold Ieee.Format.read
  dsimp only
  rw [hmod]
  split
  · rfl
  · simp only [Ieee.Datum.isInfinity]

theorem read_single (x : Nat) : ∀ {s : Bool} {m : Nat} {e : Int}, Ieee.single.read x = .number s m e → m < 2 ^ 24 ∧ -149 ≤ e ∧ e ≤ 104 := by
  intro s m e h
  have hbin : Ieee.single.binade = 8388608 := by decide +kernel
  have hinf : Ieee.single.infRung = 2139095040 := by decide +kernel
  have hlp : Ieee.single.leastPlace = -149 := by decide +kernel
  unfold Ieee.Format.read at h
  dsimp only at h
  rw [hbin, hinf, hlp] at h
  split at h
  · cases h; omega
  · split at h
    · cases h; omega
    · split at h <;> cases h

theorem widen_some (x : Nat) : ∃ r, f2f .f32 x .f64 = some r := by
  unfold f2f
  split
  · exact ⟨_, rfl⟩
  · rename_i hn
    unfold floatToFloatBits
    rw [if_neg (by decide)]
    have hr : FloatKind.f32.decode x = Ieee.single.read x := rfl
    unfold isNaN at hn
    rw [hr] at hn ⊢
    cases h : Ieee.single.read x with
    | nan s t => rw [h] at hn; simp [Ieee.Datum.isNaN] at hn
    | infinity s => exact ⟨_, rfl⟩
    | number s m e =>
      obtain ⟨h1, h2, h3⟩ := read_single x h
      obtain ⟨r, h4, h5⟩ := nearest_double s m e h1 h2 h3
      have h6 : FloatKind.f64.encode (.number s m e) = Ieee.double.word s r := h4
      have h7 : (FloatKind.f64.decode (FloatKind.f64.encode (.number s m e))).isInfinity = false := by
        rw [h6]; exact read_fin s r h5
      dsimp only
      rw [h7]
      exact ⟨_, rfl⟩

/-- A 32-bit number made wide. -/
def wide (x : Nat) : Nat := (f2f .f32 x .f64).getD 0
theorem f2f_wide (x : Nat) : f2f .f32 x .f64 = some (wide x) := by
  obtain ⟨r, h⟩ := widen_some x
  unfold wide
  rw [h]; rfl

theorem conv_wide (σ : Heap) (x : Nat) : aConv σ (.toFloat .f64) (.float .f32 x) = some (.float .f64 (wide x), σ) := by
  simp [aConv, f2f_wide]
theorem conv_int (σ : Heap) (k k' : IntKind) (n : Int) : aConv σ (.toInt k) (.int k' n) = some (.int k (k.wrap n), σ) := rfl
theorem conv_nearest (σ : Heap) (k : FloatKind) (k' : IntKind) (n : Int) : aConv σ (.toFloat k) (.int k' n) = some (.float k (k.nearest n), σ) := rfl
theorem conv_same (σ : Heap) (s : ByteArray) : aConv σ .same (.string s) = some (.string s, σ) := rfl

end Go.Abs
