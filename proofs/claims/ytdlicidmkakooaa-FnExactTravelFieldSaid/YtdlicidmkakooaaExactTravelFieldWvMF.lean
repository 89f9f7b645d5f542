/- The abstract machine, a part: texts put together. Conditions: as at each theorem. -/
import Derived.Test.YtdlicidmkakooaaExactTravelFieldWvMD
import Derived.ProofKit
import Derived.Laws.Externs
set_option linter.unusedSimpArgs false
set_option linter.unusedVariables false
/- Facts on floats: comparisons, and that a 32-bit number made wide is one. No condition beyond those written. -/
namespace Go.Abs

theorem order_some {k : FloatKind} {a b : Nat} (ha : isNaN k a = false) (hb : isNaN k b = false) : ∃ o, k.format.order a b = some o := by
  unfold isNaN FloatKind.decode at ha hb
  unfold Ieee.Format.order
  cases h1 : k.format.read a with
  | nan s t => rw [h1] at ha; simp [Ieee.Datum.isNaN] at ha
  | infinity s =>
    cases h2 : k.format.read b with
    | nan s t => rw [h2] at hb; simp [Ieee.Datum.isNaN] at hb
    | infinity t => exact ⟨_, rfl⟩
    | number t n j => exact ⟨_, rfl⟩
  | number s m i =>
    cases h2 : k.format.read b with
    | nan s t => rw [h2] at hb; simp [Ieee.Datum.isNaN] at hb
    | infinity t => exact ⟨_, rfl⟩
    | number t n j => exact ⟨_, rfl⟩

theorem order_self {k : FloatKind} {a : Nat} (ha : isNaN k a = false) : k.format.order a a = some .eq := by
  unfold isNaN FloatKind.decode at ha
  unfold Ieee.Format.order
  cases h1 : k.format.read a with
  | nan s t => rw [h1] at ha; simp [Ieee.Datum.isNaN] at ha
  | infinity s => simp [Ieee.Datum.order]
  | number s m i => simp [Ieee.Datum.order]

theorem not_nan_of_order {k : FloatKind} {a b : Nat} {o : Ordering} (h : k.format.order a b = some o) : isNaN k a = false ∧ isNaN k b = false := by
  refine ⟨?_, ?_⟩
  · cases hn : isNaN k a with
    | false => rfl
    | true => rw [order_nan (.inl hn)] at h; cases h
  · cases hn : isNaN k b with
    | false => rfl
    | true => rw [order_nan (.inr hn)] at h; cases h

theorem feq_self (k : FloatKind) (a : Nat) : feq k a a = !isNaN k a := by
  unfold feq
  cases h : isNaN k a with
  | true => rw [order_nan (.inl h)]; rfl
  | false => rw [order_self h]; rfl

theorem fge_nan {k : FloatKind} {a b : Nat} (h : fge k a b = true) : isNaN k a = false ∧ isNaN k b = false := by
  unfold fge at h
  cases ho : k.format.order a b with
  | none => rw [ho] at h; simp at h
  | some o => exact not_nan_of_order ho

theorem fgt_fle {k : FloatKind} {a b : Nat} (ha : isNaN k a = false) (hb : isNaN k b = false) : fgt k a b = !fle k a b := by
  obtain ⟨o, ho⟩ := order_some ha hb
  unfold fgt fle
  rw [ho]
  cases o <;> rfl

theorem cut_zero (neg : Bool) (n : Nat) : Ieee.Toward.even.cut neg n 0 = n := by
  simp [Ieee.Toward.cut, Nat.mod_one]

theorem nearest_double (s : Bool) (m : Nat) (e : Int) (hm : m < 2 ^ 24) (h1 : -149 ≤ e) (h2 : e ≤ 104) : ∃ r, Ieee.double.nearest s m e = Ieee.double.word s r ∧ r < Ieee.double.infRung := by
  have hinf : Ieee.double.infRung = 9218868437227405312 := by decide +kernel
  unfold Ieee.Format.nearest
  by_cases hm0 : m = 0
  · rw [if_pos hm0]
    exact ⟨0, rfl, by rw [hinf]; omega⟩
  · rw [if_neg hm0]
    have hlp : Ieee.double.leastPlace = -1074 := by decide +kernel
    have hfb : Ieee.double.fractionBits = 52 := rfl
    have hbin : Ieee.double.binade = 4503599627370496 := by decide +kernel
    have hL1 : m < 2 ^ (m.log2 + 1) := Nat.lt_log2_self
    have hL : m.log2 ≤ 23 := by
      have := (Nat.log2_lt hm0 (k := 24)).2 hm
      omega
    dsimp only
    rw [hlp, hfb, hbin]
    have hlast : max (e + (m.log2 : Int) - ((52 : Nat) : Int)) (-1074) = e + (m.log2 : Int) - 52 := by omega
    rw [hlast]
    have hd : (e + (m.log2 : Int) - 52 - e).toNat = 0 := by omega
    have hk : (e - (e + (m.log2 : Int) - 52)).toNat = 52 - m.log2 := by omega
    rw [hd, hk, cut_zero]
    have hkept : m <<< (52 - m.log2) < 2 ^ 53 := by
      rw [Nat.shiftLeft_eq]
      calc m * 2 ^ (52 - m.log2) < 2 ^ (m.log2 + 1) * 2 ^ (52 - m.log2) := Nat.mul_lt_mul_of_pos_right hL1 (Nat.pow_pos (by omega))
        _ = 2 ^ 53 := by rw [← Nat.pow_add]; congr 1; omega
    have hq : (e + (m.log2 : Int) - 52 - -1074).toNat ≤ 1149 := by omega
    have hle : (e + (m.log2 : Int) - 52 - -1074).toNat * 4503599627370496 + m <<< (52 - m.log2) < 9218868437227405312 := by
      have h9 : (e + (m.log2 : Int) - 52 - -1074).toNat * 4503599627370496 ≤ 1149 * 4503599627370496 := Nat.mul_le_mul_right _ hq
      exact Nat.lt_of_lt_of_le (Nat.add_lt_add_of_le_of_lt h9 hkept) (by decide)
    refine ⟨_, rfl, ?_⟩
    rw [hinf]
    exact Nat.lt_of_le_of_lt (Nat.min_le_left _ _) hle

theorem read_fin (s : Bool) (r : Nat) (h : r < Ieee.double.infRung) : (Ieee.double.read (Ieee.double.word s r)).isInfinity = false := by
  have hinf : Ieee.double.infRung = 9218868437227405312 := by decide +kernel
  have hsw : Ieee.double.signWeight = 9223372036854775808 := by decide +kernel
  have hmod : Ieee.double.word s r % Ieee.double.signWeight = r := by
    unfold Ieee.Format.word
    rw [hsw]
    rw [hinf] at h
    cases s
    · simp; omega
    · simp; omega
  unfold Ieee.Format.read
  dsimp only
  rw [hmod]
  split
  · rfl
  · simp only [Ieee.Datum.isInfinity]

theorem read_single (x : Nat) : ∀ {s : Bool} {m : Nat} {e : Int}, Ieee.single.read x = .number s m e → m < 2 ^ 24 ∧ -149 ≤ e ∧ e ≤ 104 := by
  intro s m e h
  have hbin : Ieee.single.binade = 8388608 := by decide +kernel
  have hinf : Ieee.single.infRung = 2139095040 := by decide +kernel
  have hlp : Ieee.single.leastPlace = -149 := by decide +kernel
  unfold Ieee.Format.read at h
  dsimp only at h
  rw [hbin, hinf, hlp] at h
  split at h
  · cases h; omega
  · split at h
    · cases h; omega
    · split at h <;> cases h

theorem widen_some (x : Nat) : ∃ r, f2f .f32 x .f64 = some r := by
  unfold f2f
  split
  · exact ⟨_, rfl⟩
  · rename_i hn
    unfold floatToFloatBits
    rw [if_neg (by decide)]
    have hr : FloatKind.f32.decode x = Ieee.single.read x := rfl
    unfold isNaN at hn
    rw [hr] at hn ⊢
    cases h : Ieee.single.read x with
    | nan s t => rw [h] at hn; simp [Ieee.Datum.isNaN] at hn
    | infinity s => exact ⟨_, rfl⟩
    | number s m e =>
      obtain ⟨h1, h2, h3⟩ := read_single x h
      obtain ⟨r, h4, h5⟩ := nearest_double s m e h1 h2 h3
      have h6 : FloatKind.f64.encode (.number s m e) = Ieee.double.word s r := h4
      have h7 : (FloatKind.f64.decode (FloatKind.f64.encode (.number s m e))).isInfinity = false := by
        rw [h6]; exact read_fin s r h5
      dsimp only
      rw [h7]
      exact ⟨_, rfl⟩

/-- A 32-bit number made wide. -/
def wide (x : Nat) : Nat := (f2f .f32 x .f64).getD 0
theorem f2f_wide (x : Nat) : f2f .f32 x .f64 = some (wide x) := by
  obtain ⟨r, h⟩ := widen_some x
  unfold wide
  rw [h]; rfl

theorem conv_wide (σ : Heap) (x : Nat) : aConv σ (.toFloat .f64) (.float .f32 x) = some (.float .f64 (wide x), σ) := by
  simp [aConv, f2f_wide]
theorem conv_int (σ : Heap) (k k' : IntKind) (n : Int) : aConv σ (.toInt k) (.int k' n) = some (.int k (k.wrap n), σ) := rfl
theorem conv_nearest (σ : Heap) (k : FloatKind) (k' : IntKind) (n : Int) : aConv σ (.toFloat k) (.int k' n) = some (.float k (k.nearest n), σ) := rfl
theorem conv_same (σ : Heap) (s : ByteArray) : aConv σ .same (.string s) = some (.string s, σ) := rfl

end Go.Abs

/- The abstract machine: drawn regions with quiet calls, new rows, what a table has. No condition beyond those written. -/
namespace Go.Abs

/-- What a table has at a number. -/
structure Has (C : Ctab) (i : FuncId) (c : Contract) (ok : Contract → Prop) : Prop where
  at_ : C i = some c
  quiet : c.quiet = true
  ok : ok c

/-- The same of a function that writes. -/
structure HasW (C : Ctab) (i : FuncId) (c : Contract) (ok : Contract → Prop) : Prop where
  at_ : C i = some c
  ok : ok c

def callsOf : List SOper → List FuncId
  | [] => []
  | o :: rest => match o.op with | .call (.func g) _ => g :: callsOf rest | _ => callsOf rest

def quietAll (C : Ctab) : List FuncId → Prop
  | [] => True
  | g :: l => (∃ c, C g = some c ∧ c.quiet = true) ∧ quietAll C l

/-! The check of a drawn region, what writes told by w. -/
def clashW (w : SOp → Bool) (a b : SOper) : Bool :=
  (a.op.heavy && b.op.heavy) || (w a.op && b.op.readsMem) || (a.op.readsMem && w b.op) ||
  hasDst a b.looks || hasDst b a.looks || sameDst a b
def okAgainstW (w : SOp → Bool) (o : SOper) : Nat → List SOper → Bool
  | _, [] => true
  | n, x :: rest => (!clashW w x o || o.anc.testBit n) && okAgainstW w o (n + 1) rest
def drawOkGoW (w : SOp → Bool) : List SOper → List SOper → Bool
  | _, [] => true
  | done, o :: rest => okAgainstW w o 0 done && drawOkGoW w (done ++ [o]) rest
def drawOkW (w : SOp → Bool) (ops : List SOper) : Bool := drawOkGoW w [] ops
/-- Named functions are quiet. -/
def wStat : SOp → Bool
  | .store _ _ _ | .append _ _ _ _ | .appendZ _ _ _ _ _ | .copy _ _ _ => true
  | .call (.func _) _ => false
  | .call _ _ => true
  | _ => false
/-- All functions are quiet. -/
def wNone : SOp → Bool
  | .store _ _ _ | .append _ _ _ _ | .appendZ _ _ _ _ _ | .copy _ _ _ => true
  | _ => false

theorem drawOk_of {C : Ctab} {w : SOp → Bool} {ops : List SOper} (h : ∀ o ∈ ops, o.op.writes C = true → w o.op = true) (hd : drawOkW w ops = true) : drawOk C ops = true := by
  have hcl : ∀ a b : SOper, (a.op.writes C = true → w a.op = true) → (b.op.writes C = true → w b.op = true) → clash C a b = true → clashW w a b = true := by
    intro a b ha hb hc
    unfold clash at hc
    unfold clashW
    cases h1 : a.op.writes C <;> cases h2 : b.op.writes C <;> cases h3 : w a.op <;> cases h4 : w b.op <;> simp_all
    all_goals grind
  have hag : ∀ (o : SOper) (l : List SOper) (n : Nat), (o.op.writes C = true → w o.op = true) → (∀ x ∈ l, x.op.writes C = true → w x.op = true) → okAgainstW w o n l = true → okAgainst C o n l = true := by
    intro o l
    induction l with
    | nil => intro n _ _ _; rfl
    | cons x l ih =>
      intro n ho hl hk
      unfold okAgainstW at hk
      unfold okAgainst
      rw [Bool.and_eq_true] at hk ⊢
      refine ⟨?_, ih (n + 1) ho (fun y hy => hl y (by simp [hy])) hk.2⟩
      cases hc : clash C x o with
      | false => rfl
      | true =>
        have := hcl x o (hl x (by simp)) ho hc
        rw [this] at hk
        simpa using hk.1
  have hgo : ∀ (l done : List SOper), (∀ x ∈ l, x.op.writes C = true → w x.op = true) → (∀ x ∈ done, x.op.writes C = true → w x.op = true) → drawOkGoW w done l = true → drawOkGo C done l = true := by
    intro l
    induction l with
    | nil => intro done _ _ _; rfl
    | cons x l ih =>
      intro done hl hd hk
      unfold drawOkGoW at hk
      unfold drawOkGo
      rw [Bool.and_eq_true] at hk ⊢
      exact ⟨hag x done 0 (hl x (by simp)) hd hk.1, ih (done ++ [x]) (fun y hy => hl y (by simp [hy])) (fun y hy => by
        rcases List.mem_append.1 hy with hy | hy
        · exact hd y hy
        · rw [List.mem_singleton.1 hy]; exact hl x (by simp)) hk.2⟩
  exact hgo ops [] h (fun x hx => by cases hx) hd

theorem writes_stat {C : Ctab} : ∀ {ops : List SOper}, quietAll C (callsOf ops) → ∀ o ∈ ops, o.op.writes C = true → wStat o.op = true
  | [], _, o, ho => by cases ho
  | x :: rest, h, o, ho => by
    have key : quietAll C (callsOf rest) ∧ (x.op.writes C = true → wStat x.op = true) := by
      unfold callsOf at h
      split at h
      · rename_i g as he
        obtain ⟨⟨c, h1, h2⟩, h3⟩ := h
        refine ⟨h3, ?_⟩
        rw [he]
        simp [SOp.writes, h1, h2]
      · rename_i hne
        refine ⟨h, ?_⟩
        cases hx : x.op with
        | call f as =>
          cases f with
          | func g => exact absurd hx (hne g as)
          | _ => intro _; rfl
        | _ => first | (intro _; rfl) | (intro hc; simp [SOp.writes] at hc)
    rcases List.mem_cons.1 ho with rfl | ho
    · exact key.2
    · exact writes_stat key.1 o ho

theorem Ev.regionQ {C : Ctab} {F : Frame} {σ : Heap} {Q} {ops : List SOper} (hd : drawOkW wStat ops = true) (hq : quietAll C (callsOf ops)) (h : EvR C ops F σ fun F' σ' => Q .normal F' σ') : Ev C (.region ops true) F σ Q :=
  Ev.regionD (drawOk_of (writes_stat hq) hd) h
/-- The same of a table of quiet functions. -/
theorem Ev.regionA {C : Ctab} {F : Frame} {σ : Heap} {Q} {ops : List SOper} (hd : drawOkW wNone ops = true) (ha : ∀ g c, C g = some c → c.quiet = true) (hq : quietAll C (callsOf ops)) (h : EvR C ops F σ fun F' σ' => Q .normal F' σ') : Ev C (.region ops true) F σ Q := by
  refine Ev.regionD (drawOk_of (w := wNone) (fun o ho hw => ?_) hd) h
  have h1 := writes_stat hq o ho hw
  have hall : allQ C = true := by simpa [allQ] using ha
  cases hx : o.op with
  | call f as =>
    rw [hx] at h1 hw
    cases f with
    | func g => cases h1
    | _ => simp [SOp.writes, hall] at hw
  | _ => first | rfl | (rw [hx] at h1; cases h1)

/-- A region in which nothing writes, in any order. -/
def noStores (ops : List SOper) : Bool := ops.all fun o => !wStat o.op
def noStoresA (ops : List SOper) : Bool := ops.all fun o => !wNone o.op
theorem Ev.regionN0 {C : Ctab} {F : Frame} {σ : Heap} {Q} {ops : List SOper} (hd : (drawOk0 ops && noStores ops) = true) (hq : quietAll C (callsOf ops)) (h : EvR C ops F σ fun F' σ' => Q .normal F' σ') : Ev C (.region ops true) F σ Q := by
  rw [Bool.and_eq_true] at hd
  refine Ev.regionN hd.1 (List.all_eq_true.2 fun o ho => ?_) h
  have h1 := List.all_eq_true.1 hd.2 o ho
  cases hw : o.op.writes C with
  | false => rfl
  | true => rw [writes_stat hq o ho hw] at h1; cases h1
/-- Stores alone write, and they come last. -/
def storesOnly (ops : List SOper) : Bool := ops.all fun o => isStore o.op || !wStat o.op
theorem Ev.regionS0 {C : Ctab} {F : Frame} {σ : Heap} {Q} {ops : List SOper} (hd : (drawOkS ops && storesOnly ops) = true) (hq : quietAll C (callsOf ops)) (h : EvR C ops F σ fun F' σ' => Q .normal F' σ') : Ev C (.region ops true) F σ Q := by
  rw [Bool.and_eq_true] at hd
  refine Ev.regionS hd.1 (List.all_eq_true.2 fun o ho => ?_) h
  have h1 := List.all_eq_true.1 hd.2 o ho
  cases hw : o.op.writes C with
  | false => simp
  | true => rw [writes_stat hq o ho hw] at h1; simpa using h1
theorem Ev.regionNA {C : Ctab} {F : Frame} {σ : Heap} {Q} {ops : List SOper} (hd : (drawOk0 ops && noStoresA ops) = true) (ha : ∀ g c, C g = some c → c.quiet = true) (hq : quietAll C (callsOf ops)) (h : EvR C ops F σ fun F' σ' => Q .normal F' σ') : Ev C (.region ops true) F σ Q := by
  rw [Bool.and_eq_true] at hd
  refine Ev.regionN hd.1 (List.all_eq_true.2 fun o ho => ?_) h
  have h1 := List.all_eq_true.1 hd.2 o ho
  have hall : allQ C = true := by simpa [allQ] using ha
  cases hw : o.op.writes C with
  | false => rfl
  | true =>
    exfalso
    have h2 := writes_stat hq o ho hw
    cases hx : o.op with
    | call f as =>
      rw [hx] at h2 hw
      cases f with
      | func g => cases h2
      | _ => simp [SOp.writes, hall] at hw
    | _ => rw [hx] at h1 h2; first | (simp [wNone] at h1; done) | (simp [wStat] at h2; done)

theorem make1_app (σ l : Heap) (bytes : Nat) (z : Value) (k k' : IntKind) (n m : Int) : aMakeSlice (σ ++ l) 1 bytes [z] (.int k n) (.int k' m) =
    if 0 ≤ n ∧ n = m ∧ n * bytes ≤ 2 ^ 46 ∧ n ≤ maxI ∧ constOk z = true then some (.slice (some ⟨σ.length + l.length, 0, none⟩) n.toNat n.toNat, σ ++ (l ++ [⟨List.replicate n.toNat z, 1, true⟩])) else none := by
  have : ∀ n : Nat, (List.replicate n [z]).flatten = List.replicate n z := by
    intro n
    induction n with
    | zero => rfl
    | succ n ih => rw [List.replicate_succ, List.flatten_cons, ih]; rfl
  unfold aMakeSlice
  simp only [this, newRow, List.length_append, List.append_assoc]
  simp

theorem make1_ok (σ l : Heap) (bytes : Nat) (z : Value) (k k' : IntKind) (n : Int) (h0 : 0 ≤ n) (h1 : n ≤ 1099511627776) (hb : bytes ≤ 64) : aMakeSlice (σ ++ l) 1 bytes [z] (.int k n) (.int k' n) =
    if constOk z = true then some (.slice (some ⟨σ.length + l.length, 0, none⟩) n.toNat n.toNat, σ ++ (l ++ [⟨List.replicate n.toNat z, 1, true⟩])) else none := by
  rw [make1_app]
  have e1 : n * (bytes : Int) ≤ 2 ^ 46 := Int.le_trans (Int.mul_le_mul_of_nonneg_left (show (bytes : Int) ≤ 64 by omega) h0) (by omega)
  have e2 : n ≤ (maxI : Int) := by unfold maxI; omega
  by_cases hz : constOk z = true
  · rw [if_pos ⟨h0, rfl, e1, e2, hz⟩, if_pos hz]
  · rw [if_neg (fun h => hz h.2.2.2.2), if_neg hz]

theorem f32s_set (xs : List Nat) (i b : Nat) : (f32s xs).set i (.float .f32 b) = f32s (xs.set i b) := by
  unfold f32s; rw [List.map_set]
theorem f32s_replicate (n b : Nat) : List.replicate n (Value.float .f32 b) = f32s (List.replicate n b) := by
  unfold f32s; rw [List.map_replicate]
theorem f32s_length (xs : List Nat) : (f32s xs).length = xs.length := List.length_map _
theorem f32s_const (xs : List Nat) (r : Bool) : allConst ⟨f32s xs, 1, r⟩ = true := by
  simp [allConst, f32s, constOk]
theorem f32s_get (xs : List Nat) (i : Nat) (h : i < xs.length) : (f32s xs)[i]? = some (.float .f32 (xs.getD i 0)) := by
  unfold f32s
  rw [List.getElem?_map, List.getElem?_eq_getElem h, List.getD_eq_getElem?_getD, List.getElem?_eq_getElem h]
  rfl

theorem fill_step (xs : List Nat) (z i : Nat) (h : i < xs.length) : (xs.take i ++ List.replicate (xs.length - i) z).set i (xs.getD i 0) = xs.take (i + 1) ++ List.replicate (xs.length - (i + 1)) z := by
  rw [List.set_append_right _ _ (by simp; omega), List.length_take, Nat.min_eq_left (by omega), Nat.sub_self]
  have : xs.length - i = (xs.length - (i + 1)) + 1 := by omega
  have e : xs.take (i + 1) = xs.take i ++ [xs[i]] := by rw [List.take_add_one, List.getElem?_eq_getElem h]; rfl
  rw [this, List.replicate_succ, List.set_cons_zero, List.getD_eq_getElem?_getD, e, List.getElem?_eq_getElem h, List.append_assoc]
  rfl

theorem gc_lt (n k : Nat) : (n + k < n) = False := by simp
theorem gc_lt0 (n : Nat) : (n < n) = False := by simp

end Go.Abs

/- The abstract machine: the set of rewriting rules by which single steps are done. No condition. -/
namespace Go.Abs

attribute [push_cast] evOp eval_tmp eval_bool eval_int eval_float eval_string eval_nilp eval_nils eval_nilf eval_nili eval_func fget_cons fset_eq fkeep_cons fkeep_nil fput_some fput_none argFrame bin_flt bin_fle bin_fgt bin_fge bin_feq bin_fne bin_fadd bin_fsub bin_fmul bin_fquo bin_lss bin_leq bin_gtr bin_geq bin_eql bin_neq bin_add bin_sub bin_mul bin_quo bin_rem bin_and bin_or bin_xor bin_shl bin_shr bin_beq bin_bne bin_seq bin_sne un_not un_neg un_fneg pick_ len_str len_sl map_some wrap64 cond_true cond_false conv_wide conv_int conv_nearest conv_same alloc_app box_app load1_app loadN_app store_app make1_ok aFieldAddr aNilCheck aField1 aFieldN aExtract List.getElem?_cons_zero List.getElem?_cons_succ List.length_cons List.length_nil Nat.zero_add List.cons_append List.nil_append List.toList_toArray List.getElem?_toArray List.map_cons List.map_nil cells_agg cells_bool cells_int cells_float cells_string cells_slice cells_pointer cells_func cells_iface cells_nilf cells_nili List.all_cons List.all_nil const_bool const_int const_float const_string const_sl0 const_ptr const_nilf const_nili ok_bool ok_int ok_float ok_string ok_slice ok_pointer ok_func ok_iface ok_nilf ok_nili Bool.and_true Bool.true_and Bool.false_and Bool.and_false Bool.not_true Bool.not_false Bool.and_self true_and and_true and_self List.set_cons_zero List.set_cons_succ splice List.take_zero List.take_succ_cons List.drop_zero List.drop_succ_cons List.take_nil List.drop_nil Nat.le_refl resOf_one resOf_nil resOf_more resVal resVals Option.bind_some decide_true decide_false Int.toNat_natCast Int.lt_irrefl
end Go.Abs

/- The abstract machine: rows that are written, appended to, and what has been written. No condition beyond those written. -/
namespace Go.Abs

theorem nearest_word (f : Ieee.Format) (s : Bool) (m : Nat) (e : Int) : ∃ r, f.nearest s m e = f.word s r ∧ r ≤ f.infRung := by
  unfold Ieee.Format.nearest
  split
  · exact ⟨0, rfl, Nat.zero_le _⟩
  · exact ⟨_, rfl, Nat.min_le_right _ _⟩

theorem read_num (f : Ieee.Format) (hf : f.infRung < f.signWeight) (s : Bool) (r : Nat) (h : r ≤ f.infRung) : (f.read (f.word s r)).isNaN = false := by
  have hmod : f.word s r % f.signWeight = r := by
    unfold Ieee.Format.word
    have hlt : r < f.signWeight := Nat.lt_of_le_of_lt h hf
    cases s
    · simp [Nat.mod_eq_of_lt hlt]
    · simp [Nat.mod_eq_of_lt hlt]
  unfold Ieee.Format.read
  dsimp only
  rw [hmod]
  split
  · rfl
  · split
    · rfl
    · split
      · rfl
      · rename_i h1 h2 h3
        exact absurd (Nat.lt_of_le_of_ne h h3) h2

theorem encode_num (k : FloatKind) (s : Bool) (m : Nat) (e : Int) : isNaN k (k.encode (.number s m e)) = false := by
  obtain ⟨r, h1, h2⟩ := nearest_word k.format s m e
  have h3 : k.encode (.number s m e) = k.format.word s r := h1
  unfold isNaN FloatKind.decode
  rw [h3]
  refine read_num _ ?_ s r h2
  cases k <;> decide +kernel
theorem nearest_num (k : FloatKind) (n : Int) : isNaN k (k.nearest n) = false := encode_num k _ _ _
theorem feq_nearest (k : FloatKind) (n : Int) : feq k (k.nearest n) (k.nearest n) = true := by rw [feq_self, nearest_num]; rfl

/-! Rows anywhere. -/
theorem idx_obj {σ : Heap} {b e off len cap : Nat} {k : IntKind} {j : Int} {cells : List Value} {r : Bool} (h : σ[b]? = some ⟨cells, e, r⟩) (hc : cells.length = off + cap * e) (he : e ≠ 0) (h0 : 0 ≤ j) (h1 : j < len) (h2 : len ≤ cap) :
    aIndexAddrS σ e (.slice (some ⟨b, off, none⟩) len cap) (.int k j) = some (.pointer (some ⟨b, off + j.toNat * e, some (off + cap * e)⟩)) := by
  have hr : rowAt σ e ⟨b, off, none⟩ cap = some ⟨cells, e, r⟩ := rowAt_mk h rfl hc he
  simp only [aIndexAddrS, hr]
  rw [if_pos ⟨h0, h1, h2⟩]
theorem load1_obj {σ : Heap} {b off c : Nat} {cells : List Value} {e : Nat} {r : Bool} (h : σ[b]? = some ⟨cells, e, r⟩) (hc : cells.length = c) (he : e ≠ 0) : aLoad1 σ (.pointer (some ⟨b, off, some c⟩)) = cells[off]? := by
  simp only [aLoad1, h]
  simp [ptrOk, nat_beq, hc, he]
theorem store1_obj {σ : Heap} {b off c : Nat} {v : Value} {cells : List Value} {e : Nat} (h : σ[b]? = some ⟨cells, e, true⟩) (hc : cells.length = c) (he : e ≠ 0) (ho : off < c) (hv : cellOk v = true) :
    aStore σ 1 (.pointer (some ⟨b, off, some c⟩)) v = some (σ.set b ⟨cells.set off v, e, true⟩) := by
  have hsp : splice cells off [v] = cells.set off v := by
    unfold splice
    rw [List.set_eq_take_append_cons_drop, if_pos (by omega)]
    simp
  simp only [aStore, h, cells_one hv, hsp]
  have : cells.length = c := hc
  simp [ptrOk, nat_beq, hc, he, hv]
  omega

theorem set_app (σ l : Heap) (i : Nat) (x : AObj) : (σ ++ l).set (σ.length + i) x = σ ++ l.set i x := by
  rw [List.set_append_right _ _ (by omega)]; congr 2; omega

theorem build0_app (σ l : Heap) (e : Nat) : aBuildSlice (σ ++ l) (e + 1) 0 [] [] = some (.slice (some ⟨σ.length + l.length, 0, none⟩) 0 0, σ ++ (l ++ [⟨[], e + 1, true⟩])) := by
  simp [aBuildSlice, newRow, fillS]

/-- To a whole own row something is appended. -/
theorem append_app (σ l : Heap) (e bytes i n k : Nat) {x : Value} {cells new : List Value} (h : l[i]? = some ⟨cells, e, true⟩) (hc : cells.length = n * e) (he : e ≠ 0) (hx : appCells (σ ++ l) e x = some (new, k)) (hk : (n + k) * bytes ≤ 2 ^ 44) (hk2 : n + k ≤ 2 ^ 44) (hn : new.all cellOk = true) :
    aAppend (σ ++ l) e bytes (.slice (some ⟨σ.length + i, 0, none⟩) n n) x = some (.slice (some ⟨σ.length + i, 0, none⟩) (n + k) (n + k), σ ++ l.set i ⟨cells ++ new, e, true⟩) := by
  have hr : rowAt (σ ++ l) e ⟨σ.length + i, 0, none⟩ n = some ⟨cells, e, true⟩ := rowAt_mk (by rw [hget]; exact h) rfl (by simp [hc]) he
  simp only [aAppend, hx, hr]
  rw [if_pos ⟨trivial, trivial, trivial, hk, hk2, hn⟩, set_app]

theorem f32s_ok (xs : List Nat) : (f32s xs).all cellOk = true := by simp [f32s, cellOk]
theorem f32s_append (xs ys : List Nat) : f32s xs ++ f32s ys = f32s (xs ++ ys) := by simp [f32s]

/-- Old rows were written; nothing new is kept. -/
theorem end_mod {σ σ1 τ : Heap} {v0 : Value} {Q : Value → Heap → Prop} (hlen : σ1.length = σ.length) (hold : ∀ o, o < σ.length → σ1[o]? = σ[o]? ∨ ∀ obj, σ1[o]? = some obj → allConst obj = true)
    (h : gcTop σ.length v0 = some (v0, [])) (hq : Q v0 σ1) : ∃ v ids σ', gcTop σ.length v0 = some (v, ids) ∧ Cleared σ (σ1 ++ τ) ids σ' ∧ QuietTo false σ σ' ∧ Q v σ' := by
  refine ⟨v0, [], σ1, h, ?_, (by intro h; cases h), hq⟩
  refine { le := by simp; omega, eq := by rw [← hlen]; simp, ge := (fun i h => by cases h), lt := (fun i h => by cases h), nd := List.nodup_nil, new := (fun i h => by cases h), old := fun o ho => ?_ }
  rw [List.getElem?_append_left (by omega)]
  exact hold o ho

theorem set_old {σ : Heap} {b : Nat} {x : AObj} (hx : allConst x = true) : ∀ o, o < σ.length → (σ.set b x)[o]? = σ[o]? ∨ ∀ obj, (σ.set b x)[o]? = some obj → allConst obj = true := by
  intro o ho
  by_cases h : b = o
  · subst h
    right
    intro obj hobj
    rw [List.getElem?_set_self ho] at hobj
    cases hobj; exact hx
  · left; rw [List.getElem?_set_ne h]

/-- A call of a function value. -/
theorem EvR.callD {C : Ctab} {F : Frame} {σ : Heap} {Q} {d : Option Nat} {f : Operand} {g : FuncId} {y : Array Value} {args : List Operand} {n : Nat} {rest : List SOper} {c : Contract} {R : Value → Heap → Prop} (hg : C g = some c) (hf : eval F f = .func (.func g) #[] y) {as : List Value} (ha : args.map (eval F) = as)
    (hr : Ret c (as ++ y.toList) σ R) {F' : Value → Frame} (hF : ∀ v, fput F d v = F' v) (h : ∀ v σ', R v σ' → EvR C rest (F' v) σ' Q) : EvR C (⟨d, none, .call f args, n⟩ :: rest) F σ Q := by
  subst ha
  refine EvR.call R hf hg (by simpa using hr) fun v σ' hv => ?_
  rw [hF v]; exact h v σ' hv

/-- Cells of an old variable from an offset on. -/
structure PtAt (σ : Heap) (b o : Nat) (cs : List Value) : Prop where
  get : ∃ cells r, σ[b]? = some ⟨cells, 0, r⟩ ∧ (cells.drop o).take cs.length = cs
theorem PtAt.whole {σ : Heap} {b : Nat} {cells : List Value} {r : Bool} (h : σ[b]? = some ⟨cells, 0, r⟩) : PtAt σ b 0 cells := ⟨cells, r, h, by simp⟩
theorem PtAt.part {σ : Heap} {b : Nat} {cells : List Value} {r : Bool} (h : σ[b]? = some ⟨cells, 0, r⟩) (o : Nat) (cs : List Value) (hc : (cells.drop o).take cs.length = cs) : PtAt σ b o cs := ⟨cells, r, h, hc⟩
theorem PtAt.lt {σ : Heap} {b o : Nat} {cs : List Value} (h : PtAt σ b o cs) : b < σ.length := by
  obtain ⟨cells, r, h1, _⟩ := h.get; exact (List.getElem?_eq_some_iff.1 h1).1
theorem PtAt.load {σ : Heap} {b o : Nat} {cs : List Value} (h : PtAt σ b o cs) (l : Heap) (k : Nat) (hk : k < cs.length) : aLoad1 (σ ++ l) (.pointer (some ⟨b, o + k, none⟩)) = cs[k]? := by
  obtain ⟨cells, r, h1, h2⟩ := h.get
  rw [load1_at h1]
  have h3 : cs[k]? = ((cells.drop o).take cs.length)[k]? := by rw [h2]
  rw [h3, List.getElem?_take, if_pos hk, List.getElem?_drop]
theorem PtAt.loadN {σ : Heap} {b o : Nat} {cs : List Value} (h : PtAt σ b o cs) (l : Heap) (hc : cs ≠ []) : aLoadN (σ ++ l) cs.length (.pointer (some ⟨b, o, none⟩)) = some (.agg cs.toArray) := by
  obtain ⟨cells, r, h1, h2⟩ := h.get
  have hl := congrArg List.length h2
  simp at hl
  have hpos : 0 < cs.length := List.length_pos_iff.2 hc
  rw [loadN_at h1 l cs.length o (by omega), h2]
theorem PtAt.ext {σ : Heap} {b o : Nat} {cs : List Value} (h : PtAt σ b o cs) (τ : Heap) : PtAt (σ ++ τ) b o cs := by
  obtain ⟨cells, r, h1, h2⟩ := h.get
  exact ⟨cells, r, by rw [List.getElem?_append_left (List.getElem?_eq_some_iff.1 h1).1]; exact h1, h2⟩

theorem EvR.mono {C : Ctab} {ops : List SOper} {F : Frame} {σ : Heap} {Q Q' : Frame → Heap → Prop} (h : EvR C ops F σ Q) (hq : ∀ F' σ', Q F' σ' → Q' F' σ') : EvR C ops F σ Q' := by
  unfold EvR at h ⊢
  obtain ⟨F', σ', h1, h2⟩ := h
  exact ⟨F', σ', h1, hq _ _ h2⟩

/-- A guard that was not met itself. -/
theorem EvR.opSU {C : Ctab} {F : Frame} {σ : Heap} {Q} {d : Nat} {op : SOp} {n t : Nat} {want : Bool} {rest : List SOper} (hg : fget F t = undef) (h : EvR C rest ((d, undef) :: F) σ Q) : EvR C (⟨some d, some (t, want), op, n⟩ :: rest) F σ Q := EvR.opU (x := #[]) hg rfl h
theorem EvR.opNU {C : Ctab} {F : Frame} {σ : Heap} {Q} {op : SOp} {n t : Nat} {want : Bool} {rest : List SOper} (hg : fget F t = undef) (h : EvR C rest F σ Q) : EvR C (⟨none, some (t, want), op, n⟩ :: rest) F σ Q := EvR.opU (x := #[]) hg rfl h

attribute [push_cast] aBuild fillS nat_beq build0_app List.map_cons List.map_nil
end Go.Abs

/- The abstract machine: a row's start and end. Conditions: as at each theorem. -/
namespace Go.Abs
open Go.ChangeShapes Go.WideShapes Go.ChangeAt Go.RowKit

def AllRo (σ : Heap) : Prop := ∀ (o : Nat) (obj : AObj), σ[o]? = some obj → obj.rw = false

theorem injOk_nil (w : World) : InjOk (fun _ => none) [] w := { dom := (fun _ _ h => by cases h), obj := (fun o obj s h => by simp at h), inj := (fun o o' obj s s' h => by simp at h) }
theorem allRo_nil : AllRo [] := fun o obj h => by simp at h

/-- A slice of the world that tells xs. -/
def Slc {α : Type} (W : World) (mk : α → Value) (v : Value) (xs : List α) : Prop :=
  (v = .slice none 0 0 ∧ xs = []) ∨ ∃ a cap, v = .slice (some a) xs.length cap ∧ xs.length ≤ cap ∧ cap ≤ maxLen ∧ ∀ (i : Nat) (x : α), xs[i]? = some x → W.cell? (a.add i) = some (mk x)

theorem add_obj {β : Inj} {σ : Heap} {W : World} (h : InjOk β σ W) (hro : AllRo σ) (obj : AObj) (hobj : obj.rw = false) :
    InjOk β (σ ++ [obj]) W ∧ AllRo (σ ++ [obj]) ∧ Later β σ β (σ ++ [obj]) := by
  have hlat : Later β σ β (σ ++ [obj]) := ⟨fun o ob ho => by
    have hlt : o < σ.length := (List.getElem?_eq_some_iff.1 ho).1
    exact ⟨ob, by rw [List.getElem?_append_left hlt]; exact ho, rfl, rfl, Nat.le_refl _, fun _ => rfl, fun _ => rfl⟩⟩
  have hro' : AllRo (σ ++ [obj]) := by
    intro o ob ho
    rcases Nat.lt_or_ge o σ.length with hlt | hge
    · rw [List.getElem?_append_left hlt] at ho; exact hro o ob ho
    · rw [List.getElem?_append_right hge] at ho
      cases hk : o - σ.length with
      | zero => rw [hk] at ho; simp at ho; rw [← ho]; exact hobj
      | succ k => rw [hk] at ho; simp at ho
  refine ⟨⟨fun o s hs => by have := h.dom o s hs; simp; omega, fun o ob s ho hs => ?_, fun o o' ob s s' ho hrw => ?_⟩, hro', hlat⟩
  · have hlt := h.dom o s hs
    rw [List.getElem?_append_left hlt] at ho
    obtain ⟨c, e, fz, h1, h2, h3⟩ := h.obj o ob s ho hs
    exact ⟨c, e, fz, h1, fun j v hj => by obtain ⟨u, hu, hr⟩ := h2 j v hj; exact ⟨u, hu, hr.later hlat⟩, h3⟩
  · rw [hro' o ob ho] at hrw; cases hrw

theorem add_spot {β : Inj} {σ : Heap} {W : World} (h : InjOk β σ W) (hro : AllRo σ) (obj : AObj) (hobj : obj.rw = false) (s : Spot)
    (hs : ∃ (c : Array Value) (e : TypeId) (fz : Nat × Nat), W.heap[s.blk]? = some (.cells c e fz) ∧ ∀ (j : Nat) (v : Value), obj.cells[j]? = some v → ∃ u, c[s.base + j]? = some u ∧ constOk v = true ∧ v = u) :
    InjOk (fun o => if o = σ.length then some s else β o) (σ ++ [obj]) W ∧ AllRo (σ ++ [obj]) ∧ Later β σ (fun o => if o = σ.length then some s else β o) (σ ++ [obj]) := by
  obtain ⟨_, hro', _⟩ := add_obj h hro obj hobj
  have hlat : Later β σ (fun o => if o = σ.length then some s else β o) (σ ++ [obj]) := ⟨fun o ob ho => by
    have hlt : o < σ.length := (List.getElem?_eq_some_iff.1 ho).1
    exact ⟨ob, by rw [List.getElem?_append_left hlt]; exact ho, rfl, rfl, Nat.le_refl _, fun _ => if_neg (by omega), fun _ => rfl⟩⟩
  refine ⟨⟨fun o s' hs' => ?_, fun o ob s' ho hs' => ?_, fun o o' ob s s' ho hrw => ?_⟩, hro', hlat⟩
  · split at hs'
    · rename_i he; subst he; simp
    · have := h.dom o s' hs'; simp; omega
  · split at hs'
    · rename_i he
      subst he
      cases hs'
      simp at ho
      subst ho
      obtain ⟨c, e, fz, h1, h2⟩ := hs
      refine ⟨c, e, fz, h1, fun j v hj => ?_, fun hc => by rw [hobj] at hc; cases hc⟩
      obtain ⟨u, hu, hk, rfl⟩ := h2 j v hj
      exact ⟨v, hu, vrel_const hk⟩
    · have hlt := h.dom o s' hs'
      rw [List.getElem?_append_left hlt] at ho
      obtain ⟨c, e, fz, h1, h2, h3⟩ := h.obj o ob s' ho hs'
      exact ⟨c, e, fz, h1, fun j v hj => by obtain ⟨u, hu, hr⟩ := h2 j v hj; exact ⟨u, hu, hr.later hlat⟩, h3⟩
  · rw [hro' o ob ho] at hrw; cases hrw

/-- A slice of the world becomes a row that may be read. -/
theorem add_row {α : Type} {mk : α → Value} (hmk : ∀ x, constOk (mk x) = true) {β : Inj} {σ : Heap} {W : World} (h : InjOk β σ W) (hro : AllRo σ) {v : Value} {xs : List α} (hv : Slc W mk v xs) :
    ∃ β' τ av, InjOk β' (σ ++ τ) W ∧ AllRo (σ ++ τ) ∧ Later β σ β' (σ ++ τ) ∧ VRel β' (σ ++ τ) av v ∧ Row (σ ++ τ) 1 av xs.length (xs.map mk) := by
  rcases hv with ⟨rfl, rfl⟩ | ⟨a, cap, rfl, hl, hm, hcell⟩
  · refine ⟨β, [], .slice none 0 0, by simpa using h, by simpa using hro, by simpa using Later.refl β σ, .slNil _ _, ⟨rfl, rfl, rfl⟩⟩
  · cases xs with
    | nil =>
      obtain ⟨h1, h2, h3⟩ := add_obj h hro ⟨[dead], 1, false⟩ rfl
      refine ⟨β, [⟨[dead], 1, false⟩], .slice (some ⟨σ.length, 1, none⟩) 0 0, h1, h2, h3, ?_, ?_⟩
      · refine .sl _ ⟨[dead], 1, false⟩ (by simp) 0 0 a cap (fun _ => by simp) (Nat.zero_le _) fun _ _ hc => ?_
        simp at hc
      · exact ⟨rfl, Nat.le_refl _, ⟨[dead], 1, false⟩, rowAt_mk (by simp) rfl (by simp) (by omega), by simp⟩
    | cons x0 xs =>
      have c0 := hcell 0 x0 rfl
      have hspot : a.spot = none := by
        unfold World.cell? at c0
        split at c0
        · rename_i c e fz hb
          cases hs : a.spot with
          | none => rfl
          | some n => simp [Addr.add, hs] at c0
        · cases c0
      have hb : ∃ c e fz, W.heap[a.block]? = some (.cells c e fz) := by
        unfold World.cell? at c0
        split at c0
        · rename_i c e fz hb; exact ⟨c, e, fz, by simpa [Addr.add] using hb⟩
        · cases c0
      obtain ⟨c, e, fz, hb⟩ := hb
      have hat : ∀ (j : Nat) (x : α), (x0 :: xs)[j]? = some x → c[a.off + j]? = some (mk x) := by
        intro j x hj
        have := hcell j x hj
        unfold World.cell? Addr.add at this
        by_cases hj0 : j = 0
        · subst hj0; simpa [hb, hspot] using this
        · simpa [hb, hj0] using this
      obtain ⟨h1, h2, h3⟩ := add_spot h hro ⟨(x0 :: xs).map mk, 1, false⟩ rfl ⟨a.block, a.off, 0⟩ ⟨c, e, fz, hb, fun j v hj => by
        rw [List.getElem?_map, Option.map_eq_some_iff] at hj
        obtain ⟨x, hx, rfl⟩ := hj
        exact ⟨_, hat j x hx, hmk x, rfl⟩⟩
      refine ⟨_, [⟨(x0 :: xs).map mk, 1, false⟩], .slice (some ⟨σ.length, 0, none⟩) (x0 :: xs).length (x0 :: xs).length, h1, h2, h3, ?_, ?_⟩
      · refine .sl _ ⟨(x0 :: xs).map mk, 1, false⟩ (by simp) _ _ a cap (fun _ => by simp) hl fun _ _ _ => ?_
        refine ⟨⟨a.block, a.off, 0⟩, if_pos rfl, ?_, fun hc => by cases hc⟩
        obtain ⟨b, off, spot⟩ := a
        dsimp only at hspot ⊢
        subst hspot
        rfl
      · exact Row.whole (rw_ := false) (by simp) (by omega) (by simp)

/-- The call of a law, from a world of which nothing may be written. -/
theorem calls_of_ret {P : Program} {f : FuncId} {c : Contract} (hs : SimOk P f c) (hcall : ∀ args w, (callFunc f args).run P w = .ok (.enter f args) w) {β : Inj} {σ : Heap} {W : World} {as : List Value} {args : Array Value}
    (hok : InjOk β σ W) (hro : AllRo σ) (ha : LRel β σ as args.toList) (hr : Ret c as σ fun v _ => v = .bool true) :
    Calls P f args W fun e W' => e = .returned (.bool true) ∧ Below W.heap.size W W' := by
  unfold Ret at hr
  obtain ⟨v, σ', h1, rfl⟩ := hr
  have hd := hs.sim _ _ _ _ h1 β W args hok ha
  rw [hcall] at hd
  rcases hd with ⟨c, w', h, _⟩ | ⟨w', h, _⟩ | ⟨f', args', w', h, hc⟩
  · cases h
  · cases h
  · cases h
    refine hc.mono fun e W' ⟨c, he, β', ht, hv⟩ => ?_
    cases hv
    refine ⟨he, ht.os, ht.tape, ht.output, ht.size, fun k hk => ht.keep k hk ?_⟩
    rintro ⟨o, obj, s, ho, hrw, _⟩
    rw [hro o obj ho] at hrw; cases hrw

section
variable {H : Type} {enc : TypeId × Value → H} {P : Program}

theorem below_trodAll (hl : laidOutB P = true) {W W' : World} (hb : Below W.heap.size W W') : ∀ {ts : List TypeId} {vs : List Value} {ds : List (DataW H)} {ps : List MemPlace}, (∀ t ∈ ts, P.readableRec t = true ∧ t < P.types.size) →
    DataW.TrodAll enc P W 0 (fun _ => true) true ts vs ds ps → DataW.TrodAll enc P W' 0 (fun b => decide (b < W.heap.size)) true ts vs ds ps
  | [], _, _, _, _, h => by
    obtain ⟨rfl, rfl, rfl⟩ := trodAll_nil h
    exact rfl
  | t :: ts, _, _, _, ht, h => by
    obtain ⟨v, vs1, d, ds1, a, b, rfl, rfl, rfl, h1, h2⟩ := trodAll_cons h
    refine ⟨a, b, ?_, below_trodAll hl hb (fun t h => ht t (by simp [h])) h2, rfl⟩
    obtain ⟨fuel, hf⟩ := h1
    exact Below.trod hl (ht t (by simp)).1 (ht t (by simp)).2 ⟨fuel, hf⟩ hb (DataW.trod_lt _ _ _ _ hf)

/-- A row that returns true and leaves its arguments. -/
theorem row_post {f : Func} {s : ChangeSpec} {fresh handsOn : Bool} {W W' : World} {args : Array Value} {ds gs : List (DataW H)} {before : List MemPlace} {rt : TypeId}
    (hl : laidOutB P = true) (hp : ∀ t ∈ f.params.toList, P.readableRec t = true ∧ t < P.types.size) (hv : s.vars = []) (hrt : f.resultTypes = #[rt]) (hb : P.underlying rt = some .bool)
    (hfn : s.fn H (ds ++ gs) = { results := [.lit (.bool true)], args := ds, vars := [] })
    (hW : DataW.Whole enc P f.params.toList s.vars false W args.toList ds gs before) (hB : Below W.heap.size W W') :
    s.post enc P f false fresh handsOn false W args (.bool true) W' := by
  have hlt := hW.lt
  have hW' := hW
  obtain ⟨p, q, h1, h2, rfl, h3, h4⟩ := hW'
  refine ⟨ds, gs, p ++ q, [], p, [], hW, ?_, ?_, ?_, hB.frame _, fun h => by cases h⟩
  · rw [hfn, hrt]
    exact trodAll_mk1 ⟨1, by simp [DataW.trod, hb, Value.cells]⟩
  · rw [hfn]
    exact below_trodAll hl hB hp h1
  · rw [hfn, hv]; rfl

end
end Go.Abs

/- The abstract machine: the arguments of a row, by the kinds of their cells. Conditions: as at each theorem. -/
namespace Go.Abs
open Go.ChangeShapes Go.WideShapes Go.ChangeAt Go.RowKit

/-- rowFl: a row of structs of three rows of float32. -/
inductive CK where
  | int (k : IntKind) | bool | float (k : FloatKind) | str | rowI (k : IntKind) | rowF (k : FloatKind) | rowB | rowS | rowFl
  deriving DecidableEq

def inK (k : IntKind) (n : Int) : Prop := k.min ≤ n ∧ n ≤ k.max

/-- A slice of the world whose elements have e cells each. -/
def SlcN (W : World) (e : Nat) (v : Value) (n : Nat) (cs : List Value) : Prop :=
  (v = .slice none 0 0 ∧ n = 0 ∧ cs = []) ∨ ∃ a cap, v = .slice (some a) n cap ∧ n ≤ cap ∧ cap ≤ maxLen ∧ cs.length = n * e ∧ ∀ (i : Nat) (x : Value), cs[i]? = some x → W.cell? (a.add i) = some x
/-- Three rows of numbers. -/
abbrev Fl3 := List Nat × List Nat × List Nat
def rowIs (W : World) (v : Value) (xs : List Nat) : Prop := Slc W (.float .f32) v xs ∧ ∀ x ∈ xs, (Lit.float .f32 x).wf = true
def flsIs (W : World) : List Fl3 → List Value → Prop
  | [], [] => True
  | f :: fs, a :: b :: c :: cs => rowIs W a f.1 ∧ rowIs W b f.2.1 ∧ rowIs W c f.2.2 ∧ flsIs W fs cs
  | _, _ => False
def rowAbs (σ : Heap) (v : Value) (xs : List Nat) : Prop := Row σ 1 v xs.length (xs.map (.float .f32)) ∧ xs.length ≤ maxLen ∧ ∀ x ∈ xs, (Lit.float .f32 x).wf = true
def flsAbs (σ : Heap) : List Fl3 → List Value → Prop
  | [], [] => True
  | f :: fs, a :: b :: c :: cs => rowAbs σ a f.1 ∧ rowAbs σ b f.2.1 ∧ rowAbs σ c f.2.2 ∧ flsAbs σ fs cs
  | _, _ => False
theorem rowAbs_more {σ : Heap} (τ : Heap) {v : Value} {xs : List Nat} (h : rowAbs σ v xs) : rowAbs (σ ++ τ) v xs := ⟨h.1.ext τ, h.2⟩
theorem flsAbs_more {σ : Heap} (τ : Heap) : ∀ {fs : List Fl3} {cs : List Value}, flsAbs σ fs cs → flsAbs (σ ++ τ) fs cs
  | [], [], h => h
  | _ :: _, _ :: _ :: _ :: _, h => ⟨rowAbs_more τ h.1, rowAbs_more τ h.2.1, rowAbs_more τ h.2.2.1, flsAbs_more τ h.2.2.2⟩
  | [], _ :: _, h => h.elim
  | _ :: _, [], h => h.elim
  | _ :: _, [_], h => h.elim
  | _ :: _, [_, _], h => h.elim
theorem flsIs_length {W : World} : ∀ {fs : List Fl3} {cs : List Value}, flsIs W fs cs → cs.length = fs.length * 3
  | [], [], _ => rfl
  | _ :: _, _ :: _ :: _ :: _, h => by have := flsIs_length h.2.2.2; simp only [List.length_cons]; omega
  | [], _ :: _, h => h.elim
  | _ :: _, [], h => h.elim
  | _ :: _, [_], h => h.elim
  | _ :: _, [_, _], h => h.elim
theorem flsIs_append {W : World} : ∀ {fs gs : List Fl3} {cs ds : List Value}, flsIs W fs cs → flsIs W gs ds → flsIs W (fs ++ gs) (cs ++ ds)
  | [], _, [], _, _, h => h
  | _ :: _, _, _ :: _ :: _ :: _, _, h, h' => ⟨h.1, h.2.1, h.2.2.1, flsIs_append h.2.2.2 h'⟩
  | [], _, _ :: _, _, h, _ => h.elim
  | _ :: _, _, [], _, h, _ => h.elim
  | _ :: _, _, [_], _, h, _ => h.elim
  | _ :: _, _, [_, _], _, h, _ => h.elim

/-- What a cell of the world is. -/
def CK.is (W : World) : CK → Value → Prop
  | .int k, v => ∃ n, v = .int k n ∧ inK k n
  | .bool, v => ∃ b, v = .bool b
  | .float k, v => ∃ b, v = .float k b ∧ (Lit.float k b).wf = true
  | .str, v => ∃ s, v = .string s ∧ s.size ≤ maxLen
  | .rowI k, v => ∃ xs : List Int, Slc W (.int k) v xs ∧ ∀ x ∈ xs, inK k x
  | .rowF k, v => ∃ xs : List Nat, Slc W (.float k) v xs ∧ ∀ x ∈ xs, (Lit.float k x).wf = true
  | .rowB, v => ∃ xs : List Bool, Slc W .bool v xs
  | .rowS, v => ∃ xs : List ByteArray, Slc W .string v xs ∧ ∀ x ∈ xs, x.size ≤ maxLen
  | .rowFl, v => ∃ (fs : List Fl3) (cs : List Value), SlcN W 3 v fs.length cs ∧ flsIs W fs cs

/-- What it is for the abstract machine. -/
def CK.abs (σ : Heap) : CK → Value → Prop
  | .int k, v => ∃ n, v = .int k n ∧ inK k n
  | .bool, v => ∃ b, v = .bool b
  | .float k, v => ∃ b, v = .float k b ∧ (Lit.float k b).wf = true
  | .str, v => ∃ s, v = .string s ∧ s.size ≤ maxLen
  | .rowI k, v => ∃ xs : List Int, Row σ 1 v xs.length (xs.map (.int k)) ∧ xs.length ≤ maxLen ∧ ∀ x ∈ xs, inK k x
  | .rowF k, v => ∃ xs : List Nat, Row σ 1 v xs.length (xs.map (.float k)) ∧ xs.length ≤ maxLen ∧ ∀ x ∈ xs, (Lit.float k x).wf = true
  | .rowB, v => ∃ xs : List Bool, Row σ 1 v xs.length (xs.map .bool) ∧ xs.length ≤ maxLen
  | .rowS, v => ∃ xs : List ByteArray, Row σ 1 v xs.length (xs.map .string) ∧ xs.length ≤ maxLen ∧ ∀ x ∈ xs, x.size ≤ maxLen
  | .rowFl, v => ∃ (fs : List Fl3) (cs : List Value), Row σ 3 v fs.length cs ∧ flsAbs σ fs cs ∧ fs.length ≤ maxLen

theorem CK.abs_more {σ : Heap} (τ : Heap) {k : CK} {v : Value} (h : k.abs σ v) : k.abs (σ ++ τ) v := by
  cases k with
  | rowI k => obtain ⟨xs, h1, h2⟩ := h; exact ⟨xs, h1.ext τ, h2⟩
  | rowF k => obtain ⟨xs, h1, h2⟩ := h; exact ⟨xs, h1.ext τ, h2⟩
  | rowB => obtain ⟨xs, h1, h2⟩ := h; exact ⟨xs, h1.ext τ, h2⟩
  | rowS => obtain ⟨xs, h1, h2⟩ := h; exact ⟨xs, h1.ext τ, h2⟩
  | rowFl => obtain ⟨fs, cs, h1, h2, h3⟩ := h; exact ⟨fs, cs, h1.ext τ, flsAbs_more τ h2, h3⟩
  | _ => exact h

theorem Slc.len {α : Type} {W : World} {mk : α → Value} {v : Value} {xs : List α} (h : Slc W mk v xs) : xs.length ≤ maxLen := by
  rcases h with ⟨_, rfl⟩ | ⟨a, cap, _, h1, h2, _⟩
  · simp
  · omega

/-- A slice of structs becomes a row that may be read. -/
theorem add_spotR {β : Inj} {σ : Heap} {W : World} (h : InjOk β σ W) (hro : AllRo σ) (obj : AObj) (hobj : obj.rw = false) (s : Spot)
    (hs : ∃ (c : Array Value) (e : TypeId) (fz : Nat × Nat), W.heap[s.blk]? = some (.cells c e fz) ∧ ∀ (j : Nat) (v : Value), obj.cells[j]? = some v → ∃ u, c[s.base + j]? = some u ∧ VRel β σ v u) :
    InjOk (fun o => if o = σ.length then some s else β o) (σ ++ [obj]) W ∧ AllRo (σ ++ [obj]) ∧ Later β σ (fun o => if o = σ.length then some s else β o) (σ ++ [obj]) := by
  obtain ⟨_, hro', _⟩ := add_obj h hro obj hobj
  have hlat : Later β σ (fun o => if o = σ.length then some s else β o) (σ ++ [obj]) := ⟨fun o ob ho => by
    have hlt : o < σ.length := (List.getElem?_eq_some_iff.1 ho).1
    exact ⟨ob, by rw [List.getElem?_append_left hlt]; exact ho, rfl, rfl, Nat.le_refl _, fun _ => if_neg (by omega), fun _ => rfl⟩⟩
  refine ⟨⟨fun o s' hs' => ?_, fun o ob s' ho hs' => ?_, fun o o' ob s s' ho hrw => ?_⟩, hro', hlat⟩
  · split at hs'
    · rename_i he; subst he; simp
    · have := h.dom o s' hs'; simp; omega
  · split at hs'
    · rename_i he
      subst he
      cases hs'
      simp at ho
      subst ho
      obtain ⟨c, e, fz, h1, h2⟩ := hs
      refine ⟨c, e, fz, h1, fun j v hj => ?_, fun hc => by rw [hobj] at hc; cases hc⟩
      obtain ⟨u, hu, hr⟩ := h2 j v hj
      exact ⟨u, hu, hr.later hlat⟩
    · have hlt := h.dom o s' hs'
      rw [List.getElem?_append_left hlt] at ho
      obtain ⟨c, e, fz, h1, h2, h3⟩ := h.obj o ob s' ho hs'
      exact ⟨c, e, fz, h1, fun j v hj => by obtain ⟨u, hu, hr⟩ := h2 j v hj; exact ⟨u, hu, hr.later hlat⟩, h3⟩
  · rw [hro' o ob ho] at hrw; cases hrw
theorem lrel_cons {β : Inj} {σ : Heap} {x c : Value} {xs cs : List Value} (h : VRel β σ x c) (hr : LRel β σ xs cs) : LRel β σ (x :: xs) (c :: cs) := by
  refine ⟨by simp [hr.1], fun i v u hv hu => ?_⟩
  cases i with
  | zero => simp at hv hu; subst hv; subst hu; exact h
  | succ i => exact hr.2 i v u (by simpa using hv) (by simpa using hu)
theorem add_rowF {β : Inj} {σ : Heap} {W : World} (h : InjOk β σ W) (hro : AllRo σ) {v : Value} {xs : List Nat} (hv : rowIs W v xs) :
    ∃ β' τ av, InjOk β' (σ ++ τ) W ∧ AllRo (σ ++ τ) ∧ Later β σ β' (σ ++ τ) ∧ VRel β' (σ ++ τ) av v ∧ rowAbs (σ ++ τ) av xs := by
  obtain ⟨h1, h2⟩ := hv
  obtain ⟨β', τ, av, a, b, c, d, e⟩ := add_row (fun _ => rfl) h hro h1
  refine ⟨β', τ, av, a, b, c, d, e, ?_, h2⟩
  rcases h1 with ⟨_, rfl⟩ | ⟨a, cap, _, h1, h2, _⟩
  · simp
  · omega
theorem add_fls {W : World} : ∀ {fs : List Fl3} {vs : List Value} {β : Inj} {σ : Heap}, InjOk β σ W → AllRo σ → flsIs W fs vs →
    ∃ β' τ avs, InjOk β' (σ ++ τ) W ∧ AllRo (σ ++ τ) ∧ Later β σ β' (σ ++ τ) ∧ LRel β' (σ ++ τ) avs vs ∧ flsAbs (σ ++ τ) fs avs
  | [], [], β, σ, h, hro, _ => ⟨β, [], [], by simpa using h, by simpa using hro, by simpa using Later.refl β σ, ⟨rfl, fun i v u hv => by simp at hv⟩, trivial⟩
  | f :: fs, a :: b :: c :: vs, β, σ, h, hro, hv => by
    obtain ⟨β1, τ1, a1, p1, p2, p3, p4, p5⟩ := add_rowF h hro hv.1
    obtain ⟨β2, τ2, a2, q1, q2, q3, q4, q5⟩ := add_rowF p1 p2 hv.2.1
    obtain ⟨β3, τ3, a3, r1, r2, r3, r4, r5⟩ := add_rowF q1 q2 hv.2.2.1
    obtain ⟨β4, τ4, avs, s1, s2, s3, s4, s5⟩ := add_fls r1 r2 hv.2.2.2
    have g1 := rowAbs_more τ4 (rowAbs_more τ3 (rowAbs_more τ2 p5))
    have g2 := rowAbs_more τ4 (rowAbs_more τ3 q5)
    have g3 := rowAbs_more τ4 r5
    have L3 := r3.trans s3
    have L2 := q3.trans L3
    have L1 := p3.trans L2
    have v1 := p4.later L2
    have v2 := q4.later L3
    have v3 := r4.later s3
    have e : σ ++ τ1 ++ τ2 ++ τ3 ++ τ4 = σ ++ (τ1 ++ τ2 ++ τ3 ++ τ4) := by simp only [List.append_assoc]
    rw [e] at s1 s2 s4 s5 g1 g2 g3 L1 v1 v2 v3
    exact ⟨β4, τ1 ++ τ2 ++ τ3 ++ τ4, a1 :: a2 :: a3 :: avs, s1, s2, L1, lrel_cons v1 (lrel_cons v2 (lrel_cons v3 s4)), g1, g2, g3, s5⟩
  | [], _ :: _, _, _, _, _, h => h.elim
  | _ :: _, [], _, _, _, _, h => h.elim
  | _ :: _, [_], _, _, _, _, h => h.elim
  | _ :: _, [_, _], _, _, _, _, h => h.elim
theorem flsAbs_length {σ : Heap} : ∀ {fs : List Fl3} {cs : List Value}, flsAbs σ fs cs → cs.length = fs.length * 3
  | [], [], _ => rfl
  | _ :: _, _ :: _ :: _ :: _, h => by have := flsAbs_length h.2.2.2; simp only [List.length_cons]; omega
  | [], _ :: _, h => h.elim
  | _ :: _, [], h => h.elim
  | _ :: _, [_], h => h.elim
  | _ :: _, [_, _], h => h.elim
theorem add_rowFl {β : Inj} {σ : Heap} {W : World} (h : InjOk β σ W) (hro : AllRo σ) {v : Value} {fs : List Fl3} {cs : List Value} (hv : SlcN W 3 v fs.length cs) (hf : flsIs W fs cs) :
    ∃ β' τ av, InjOk β' (σ ++ τ) W ∧ AllRo (σ ++ τ) ∧ Later β σ β' (σ ++ τ) ∧ VRel β' (σ ++ τ) av v ∧ CK.abs (σ ++ τ) .rowFl av := by
  rcases hv with ⟨rfl, hn, rfl⟩ | ⟨a, cap, rfl, hl, hm, hlen, hcell⟩
  · have hfs : fs = [] := List.eq_nil_of_length_eq_zero hn
    subst hfs
    exact ⟨β, [], .slice none 0 0, by simpa using h, by simpa using hro, by simpa using Later.refl β σ, .slNil _ _, [], [], ⟨rfl, rfl, rfl⟩, trivial, Nat.zero_le _⟩
  · cases fs with
    | nil =>
      obtain ⟨h1, h2, h3⟩ := add_obj h hro ⟨[dead], 3, false⟩ rfl
      refine ⟨β, [⟨[dead], 3, false⟩], .slice (some ⟨σ.length, 1, none⟩) 0 0, h1, h2, h3, ?_, [], [], ?_, trivial, Nat.zero_le _⟩
      · refine .sl _ ⟨[dead], 3, false⟩ (by simp) 0 0 a cap (fun _ => by simp) (Nat.zero_le _) fun _ _ hc => ?_
        simp at hc
      · exact ⟨rfl, Nat.le_refl _, ⟨[dead], 3, false⟩, rowAt_mk (by simp) rfl (by simp) (by omega), by simp⟩
    | cons f fs =>
      obtain ⟨c0, hc0⟩ : ∃ c0, cs[0]? = some c0 := by
        cases cs with
        | nil => simp at hlen
        | cons x xs => exact ⟨x, rfl⟩
      have k0 := hcell 0 c0 hc0
      have hspot : a.spot = none := by
        unfold World.cell? at k0
        split at k0
        · rename_i c e fz hb
          cases hs : a.spot with
          | none => rfl
          | some n => simp [Addr.add, hs] at k0
        · cases k0
      have hb : ∃ c e fz, W.heap[a.block]? = some (.cells c e fz) := by
        unfold World.cell? at k0
        split at k0
        · rename_i c e fz hb; exact ⟨c, e, fz, by simpa [Addr.add] using hb⟩
        · cases k0
      obtain ⟨c, e, fz, hb⟩ := hb
      have hat : ∀ (j : Nat) (x : Value), cs[j]? = some x → c[a.off + j]? = some x := by
        intro j x hj
        have := hcell j x hj
        unfold World.cell? Addr.add at this
        by_cases hj0 : j = 0
        · subst hj0; simpa [hb, hspot] using this
        · simpa [hb, hj0] using this
      obtain ⟨β1, τ, avs, p1, p2, p3, p4, p5⟩ := add_fls h hro hf
      have hal := flsAbs_length p5
      obtain ⟨h1, h2, h3⟩ := add_spotR p1 p2 ⟨avs, 3, false⟩ rfl ⟨a.block, a.off, 0⟩ ⟨c, e, fz, hb, fun j v hj => by
        have hlt : j < cs.length := by rw [← p4.1]; exact (List.getElem?_eq_some_iff.1 hj).1
        have hcs : cs[j]? = some cs[j] := List.getElem?_eq_getElem hlt
        exact ⟨_, hat j _ hcs, p4.2 j v _ hj hcs⟩⟩
      rw [List.append_assoc] at h1 h2 h3
      refine ⟨_, τ ++ [⟨avs, 3, false⟩], .slice (some ⟨(σ ++ τ).length, 0, none⟩) (f :: fs).length (f :: fs).length, h1, h2, p3.trans h3, ?_, f :: fs, avs, ?_, ?_, by omega⟩
      · refine .sl _ ⟨avs, 3, false⟩ (by simp) _ _ a cap (fun _ => by simp only; omega) hl fun _ _ _ => ?_
        refine ⟨⟨a.block, a.off, 0⟩, if_pos rfl, ?_, fun hc => by cases hc⟩
        obtain ⟨b, off, spot⟩ := a
        dsimp only at hspot ⊢
        subst hspot
        rfl
      · exact Row.whole (rw_ := false) (by simp) (by omega) hal
      · rw [← List.append_assoc]; exact flsAbs_more _ p5

/-- One cell more. -/
theorem add_cell {β : Inj} {σ : Heap} {W : World} (h : InjOk β σ W) (hro : AllRo σ) {k : CK} {v : Value} (hv : k.is W v) :
    ∃ β' τ av, InjOk β' (σ ++ τ) W ∧ AllRo (σ ++ τ) ∧ Later β σ β' (σ ++ τ) ∧ VRel β' (σ ++ τ) av v ∧ k.abs (σ ++ τ) av := by
  have stay : ∀ {av : Value}, VRel β σ av v → k.abs σ av → ∃ β' τ av, InjOk β' (σ ++ τ) W ∧ AllRo (σ ++ τ) ∧ Later β σ β' (σ ++ τ) ∧ VRel β' (σ ++ τ) av v ∧ k.abs (σ ++ τ) av := by
    intro av h1 h2
    exact ⟨β, [], av, by simpa using h, by simpa using hro, by simpa using Later.refl β σ, by simpa using h1, by simpa using h2⟩
  cases k with
  | int k => obtain ⟨n, rfl, hn⟩ := hv; exact stay (.int k n) ⟨n, rfl, hn⟩
  | bool => obtain ⟨n, rfl⟩ := hv; exact stay (.bool n) ⟨n, rfl⟩
  | float k => obtain ⟨n, rfl, hn⟩ := hv; exact stay (.float (.inl rfl)) ⟨n, rfl, hn⟩
  | str => obtain ⟨n, rfl, hn⟩ := hv; exact stay (.string n) ⟨n, rfl, hn⟩
  | rowI k => obtain ⟨xs, h1, h2⟩ := hv; obtain ⟨β', τ, av, a, b, c, d, e⟩ := add_row (fun _ => rfl) h hro h1; exact ⟨β', τ, av, a, b, c, d, xs, e, h1.len, h2⟩
  | rowF k => obtain ⟨xs, h1, h2⟩ := hv; obtain ⟨β', τ, av, a, b, c, d, e⟩ := add_row (fun _ => rfl) h hro h1; exact ⟨β', τ, av, a, b, c, d, xs, e, h1.len, h2⟩
  | rowB => obtain ⟨xs, h1⟩ := hv; obtain ⟨β', τ, av, a, b, c, d, e⟩ := add_row (fun _ => rfl) h hro h1; exact ⟨β', τ, av, a, b, c, d, xs, e, h1.len⟩
  | rowS => obtain ⟨xs, h1, h2⟩ := hv; obtain ⟨β', τ, av, a, b, c, d, e⟩ := add_row (fun _ => rfl) h hro h1; exact ⟨β', τ, av, a, b, c, d, xs, e, h1.len, h2⟩
  | rowFl => obtain ⟨fs, cs, h1, h2⟩ := hv; exact add_rowFl h hro h1 h2

def isAll (W : World) : List CK → List Value → Prop
  | [], [] => True
  | k :: ks, v :: vs => k.is W v ∧ isAll W ks vs
  | _, _ => False
def absAll (σ : Heap) : List CK → List Value → Prop
  | [], [] => True
  | k :: ks, v :: vs => k.abs σ v ∧ absAll σ ks vs
  | _, _ => False

theorem absAll_cons {σ : Heap} {k : CK} {ks : List CK} {vs : List Value} (h : absAll σ (k :: ks) vs) : ∃ v vs', vs = v :: vs' ∧ k.abs σ v ∧ absAll σ ks vs' := by
  cases vs with
  | nil => exact h.elim
  | cons v vs => exact ⟨v, vs, rfl, h.1, h.2⟩
theorem absAll_nil {σ : Heap} {vs : List Value} (h : absAll σ [] vs) : vs = [] := by
  cases vs with
  | nil => rfl
  | cons v vs => exact h.elim
theorem maxLen_eq : maxLen = 9223372036854775807 := by decide +kernel

theorem absAll_more {σ : Heap} (τ : Heap) : ∀ {ks : List CK} {vs : List Value}, absAll σ ks vs → absAll (σ ++ τ) ks vs
  | [], [], h => h
  | _ :: _, _ :: _, h => ⟨CK.abs_more τ h.1, absAll_more τ h.2⟩
  | [], _ :: _, h => h
  | _ :: _, [], h => h

theorem LRel.later {β β' : Inj} {σ σ' : Heap} (L : Later β σ β' σ') {xs cs : List Value} (h : LRel β σ xs cs) : LRel β' σ' xs cs := ⟨h.1, fun i v c hv hc => (h.2 i v c hv hc).later L⟩
theorem LRel.cons {β : Inj} {σ : Heap} {x c : Value} {xs cs : List Value} (h : VRel β σ x c) (hr : LRel β σ xs cs) : LRel β σ (x :: xs) (c :: cs) := by
  refine ⟨by simp [hr.1], fun i v u hv hu => ?_⟩
  cases i with
  | zero => simp at hv hu; subst hv; subst hu; exact h
  | succ i => exact hr.2 i v u (by simpa using hv) (by simpa using hu)
theorem LRel.nil {β : Inj} {σ : Heap} : LRel β σ [] [] := ⟨rfl, fun i v u hv => by simp at hv⟩

theorem add_cells {W : World} : ∀ {ks : List CK} {vs : List Value} {β : Inj} {σ : Heap}, InjOk β σ W → AllRo σ → isAll W ks vs →
    ∃ β' τ avs, InjOk β' (σ ++ τ) W ∧ AllRo (σ ++ τ) ∧ Later β σ β' (σ ++ τ) ∧ LRel β' (σ ++ τ) avs vs ∧ absAll (σ ++ τ) ks avs
  | [], [], β, σ, h, hro, _ => ⟨β, [], [], by simpa using h, by simpa using hro, by simpa using Later.refl β σ, LRel.nil, trivial⟩
  | k :: ks, v :: vs, β, σ, h, hro, hv => by
    obtain ⟨β1, τ1, a1, h1, h2, h3, h4, h5⟩ := add_cell h hro hv.1
    obtain ⟨β2, τ2, a2, g1, g2, g3, g4, g5⟩ := add_cells h1 h2 hv.2
    rw [List.append_assoc] at g1 g2 g3 g4 g5
    refine ⟨β2, τ1 ++ τ2, a1 :: a2, g1, g2, h3.trans g3, LRel.cons (h4.later g3) g4, ?_, g5⟩
    rw [← List.append_assoc]; exact CK.abs_more τ2 h5
  | [], _ :: _, _, _, _, _, h => h.elim
  | _ :: _, [], _, _, _, _, h => h.elim

/-! ### Kinds out of types -/

def rowKind (u : Option TypeDesc) : Option CK :=
  match u with
  | some (.int k) => some (.rowI k)
  | some (.float k) => some (.rowF k)
  | some .bool => some .rowB
  | some .string => some .rowS
  | _ => none

def fieldsK (P : Program) (K : TypeId → Option (List CK)) : List Field → Nat → Option (List CK)
  | [], _ => some []
  | f :: fs, off =>
    if f.offset = off then
      match K f.type with
      | some ks => if ks.length = P.cellsOf f.type then (fieldsK P K fs (off + ks.length)).map (ks ++ ·) else none
      | none => none
    else none

def kindsOf (P : Program) : Nat → TypeId → Option (List CK)
  | 0, _ => none
  | d + 1, t =>
    match P.underlying t with
    | some (.int k) => some [.int k]
    | some (.float k) => some [.float k]
    | some .bool => some [.bool]
    | some .string => some [.str]
    | some (.slice e) => if P.cellsOf e = 1 then (rowKind (P.underlying e)).map fun k => [k] else if P.cellsOf e = 3 ∧ kindsOf P d e = some [.rowF .f32, .rowF .f32, .rowF .f32] then some [.rowFl] else none
    | some (.struct fs) => match fieldsK P (kindsOf P d) fs.toList 0 with | some ks => if ks.length = P.cellsOf t then some ks else none | none => none
    | _ => none

section
variable {H : Type} {enc : TypeId × Value → H} {P : Program} {W : World} {base : Nat} {spare : Nat → Bool} {held : Bool}

theorem trod_float {t : TypeId} {k : FloatKind} {fuel : Nat} {cs : List Value} {x : DataW H × List MemPlace} (ht : P.underlying t = some (.float k)) (h : DataW.trod enc P W base spare held fuel t cs = some x) :
    ∃ b, cs = [.float k b] ∧ (Lit.float k b).wf = true := by
  cases fuel with
  | zero => simp [DataW.trod] at h
  | succ n =>
    unfold DataW.trod at h
    rw [ht] at h
    split at h <;> simp_all

theorem list_of {α : Type} {p : Nat → α → Prop} : ∀ {n : Nat}, (∀ i, i < n → ∃ x, p i x) → ∃ xs : List α, xs.length = n ∧ ∀ (i : Nat) (x : α), xs[i]? = some x → p i x
  | 0, _ => ⟨[], rfl, fun i x h => by simp at h⟩
  | n + 1, h => by
    obtain ⟨xs, h1, h2⟩ := list_of (n := n) (fun i hi => h i (by omega))
    obtain ⟨y, hy⟩ := h n (by omega)
    refine ⟨xs ++ [y], by simp [h1], fun i x hx => ?_⟩
    rcases Nat.lt_or_ge i n with hlt | hge
    · rw [List.getElem?_append_left (by omega)] at hx; exact h2 i x hx
    · rw [List.getElem?_append_right (by omega), h1] at hx
      cases hk : i - n with
      | zero => rw [hk] at hx; simp at hx; subst hx; rw [show i = n by omega]; exact hy
      | succ k => rw [hk] at hx; simp at hx

theorem slc_of {α : Type} {mk : α → Value} {q : α → Prop} {t e : TypeId} {fuel : Nat} {cs : List Value} {x : DataW H × List MemPlace} (ht : P.underlying t = some (.slice e)) (hc : P.cellsOf e = 1)
    (he : ∀ (n : Nat) (cs : List Value) (x : DataW H × List MemPlace), DataW.trod enc P W base spare held n e cs = some x → ∃ b, cs = [mk b] ∧ q b)
    (h : DataW.trod enc P W base spare held fuel t cs = some x) : ∃ v xs, cs = [v] ∧ Slc W mk v xs ∧ ∀ b ∈ xs, q b := by
  rcases DataW.trod_slice ht h with ⟨rfl, _⟩ | ⟨a, len, cap, elems, rest, n, _, rfl, _, hb, hl, hm, hlen, hel, _, _⟩
  · exact ⟨_, [], rfl, .inl ⟨rfl, rfl⟩, fun b hb => by cases hb⟩
  · have each : ∀ i, i < len → ∃ b, W.cell? (a.add i) = some (mk b) ∧ q b := by
      intro i hi
      have h1 := hel i hi
      rw [List.getElem?_eq_getElem (by omega), hc, Nat.mul_one, Option.bind_eq_some_iff] at h1
      obtain ⟨cs', h2, h3⟩ := h1
      obtain ⟨b, rfl, hq⟩ := he _ _ _ h3
      refine ⟨b, ?_, hq⟩
      unfold World.cells? at h2
      split at h2
      · have hr : List.range 1 = [0] := rfl
        rw [hr] at h2
        simp only [List.mapM_cons, List.mapM_nil] at h2
        cases hw : W.cell? ((a.add i).add 0) with
        | none => rw [hw] at h2; cases h2
        | some u =>
          rw [hw] at h2
          have : (a.add i).add 0 = a.add i := rfl
          rw [this] at hw
          cases h2
          exact hw
      · cases h2
    obtain ⟨xs, h1, h2⟩ := list_of (p := fun i b => W.cell? (a.add i) = some (mk b) ∧ q b) each
    subst h1
    exact ⟨_, xs, rfl, .inr ⟨a, cap, rfl, hl, hm, fun i x hx => (h2 i x hx).1⟩, fun b hb => by
      obtain ⟨i, hi⟩ := List.mem_iff_getElem?.1 hb
      exact (h2 i b hi).2⟩

theorem isAll_three {W : World} {k1 k2 k3 : CK} {cs : List Value} (h : isAll W [k1, k2, k3] cs) : ∃ a b c, cs = [a, b, c] ∧ k1.is W a ∧ k2.is W b ∧ k3.is W c := by
  match cs, h with
  | [a, b, c], h => exact ⟨a, b, c, rfl, h.1, h.2.1, h.2.2.1⟩
theorem addr_add (a : Addr) (m k : Nat) (hk : k ≠ 0 ∨ a.spot = none ∨ m ≠ 0) : (a.add m).add k = a.add (m + k) := by
  unfold Addr.add
  obtain ⟨b, o, s⟩ := a
  by_cases h1 : m = 0
  · by_cases h2 : k = 0
    · subst h1; subst h2; simp
    · subst h1; simp [h2]
  · by_cases h2 : k = 0
    · subst h2; simp [h1]
    · simp [h1, h2, Nat.add_assoc]
theorem slcN_of {t e : TypeId} {fuel : Nat} {cs : List Value} {x : DataW H × List MemPlace} (ht : P.underlying t = some (.slice e)) (hc : P.cellsOf e = 3)
    (he : ∀ (n : Nat) (cs : List Value) (x : DataW H × List MemPlace), DataW.trod enc P W base spare held n e cs = some x → ∃ (f : Fl3) (a b c : Value), cs = [a, b, c] ∧ rowIs W a f.1 ∧ rowIs W b f.2.1 ∧ rowIs W c f.2.2)
    (h : DataW.trod enc P W base spare held fuel t cs = some x) : ∃ v fs cs', cs = [v] ∧ SlcN W 3 v fs.length cs' ∧ flsIs W fs cs' := by
  rcases DataW.trod_slice ht h with ⟨rfl, _⟩ | ⟨a, len, cap, elems, rest, n, _, rfl, _, hb, hl, hm, hlen, hel, _, _⟩
  · exact ⟨_, [], [], rfl, .inl ⟨rfl, rfl, rfl⟩, trivial⟩
  · have each : ∀ i, i < len → ∃ (f : Fl3) (u v w : Value), rowIs W u f.1 ∧ rowIs W v f.2.1 ∧ rowIs W w f.2.2 ∧ W.cell? (a.add (i * 3)) = some u ∧ W.cell? (a.add (i * 3 + 1)) = some v ∧ W.cell? (a.add (i * 3 + 2)) = some w := by
      intro i hi
      have h1 := hel i hi
      rw [List.getElem?_eq_getElem (by omega), hc, Option.bind_eq_some_iff] at h1
      obtain ⟨cs', h2, h3⟩ := h1
      obtain ⟨f, u, v, w, rfl, r1, r2, r3⟩ := he _ _ _ h3
      refine ⟨f, u, v, w, r1, r2, r3, ?_⟩
      unfold World.cells? at h2
      split at h2
      · have hr : List.range 3 = [0, 1, 2] := rfl
        rw [hr] at h2
        simp only [List.mapM_cons, List.mapM_nil] at h2
        cases hw0 : W.cell? ((a.add (i * 3)).add 0) with
        | none => rw [hw0] at h2; cases h2
        | some u0 =>
          cases hw1 : W.cell? ((a.add (i * 3)).add 1) with
          | none => rw [hw0, hw1] at h2; cases h2
          | some v0 =>
            cases hw2 : W.cell? ((a.add (i * 3)).add 2) with
            | none => rw [hw0, hw1, hw2] at h2; cases h2
            | some w0 =>
              rw [hw0, hw1, hw2] at h2
              cases h2
              rw [addr_add _ _ _ (.inl (by omega))] at hw1 hw2
              exact ⟨hw0, hw1, hw2⟩
      · cases h2
    have gather : ∀ m, m ≤ len → ∃ (fs : List Fl3) (cs' : List Value), fs.length = m ∧ flsIs W fs cs' ∧ ∀ (i : Nat) (x : Value), cs'[i]? = some x → W.cell? (a.add i) = some x := by
      intro m
      induction m with
      | zero => exact fun _ => ⟨[], [], rfl, trivial, fun i x hx => by simp at hx⟩
      | succ m ih =>
        intro hm
        obtain ⟨fs, cs', g1, g2, g3⟩ := ih (by omega)
        obtain ⟨f, u, v, w, r1, r2, r3, w1, w2, w3⟩ := each m (by omega)
        refine ⟨fs ++ [f], cs' ++ [u, v, w], by simp [g1], flsIs_append g2 ⟨r1, r2, r3, trivial⟩, fun i x hx => ?_⟩
        have hl3 := flsIs_length g2
        rcases Nat.lt_or_ge i cs'.length with hlt | hge
        · rw [List.getElem?_append_left hlt] at hx; exact g3 i x hx
        · rw [List.getElem?_append_right hge] at hx
          obtain ⟨j, hj⟩ : ∃ j, j = i - cs'.length := ⟨_, rfl⟩
          rw [← hj] at hx
          have hi : i = m * 3 + j := by omega
          subst hi
          match j, hx with
          | 0, hx => cases hx; exact w1
          | 1, hx => cases hx; exact w2
          | 2, hx => cases hx; exact w3
          | j + 3, hx => simp at hx
    obtain ⟨fs, cs', g1, g2, g3⟩ := gather len (Nat.le_refl _)
    subst g1
    exact ⟨_, fs, cs', rfl, .inr ⟨a, cap, rfl, hl, hm, flsIs_length g2, g3⟩, g2⟩

theorem isAll_append {W : World} : ∀ {ks ks' : List CK} {vs vs' : List Value}, isAll W ks vs → isAll W ks' vs' → isAll W (ks ++ ks') (vs ++ vs')
  | [], _, [], _, _, h => h
  | _ :: _, _, _ :: _, _, h, h' => ⟨h.1, isAll_append h.2 h'⟩
  | [], _, _ :: _, _, h, _ => h.elim
  | _ :: _, _, [], _, h, _ => h.elim

theorem wf_in {k : IntKind} {n : Int} (h : (Lit.int k n).wf = true) : inK k n := by
  simp only [Lit.wf, Bool.and_eq_true, decide_eq_true_eq] at h
  exact h

theorem fields_sound {K : TypeId → Option (List CK)} {n : Nat} {cs : List Value} (hK : ∀ t ks, K t = some ks → ∀ cs x, DataW.trod enc P W base spare held n t cs = some x → isAll W ks cs) :
    ∀ {fs : List Field} {off : Nat} {ks : List CK}, fieldsK P K fs off = some ks → (∀ f ∈ fs, ∃ x, DataW.trod enc P W base spare held n f.type ((cs.drop f.offset).take (P.cellsOf f.type)) = some x) → isAll W ks ((cs.drop off).take ks.length)
  | [], off, ks, h, _ => by cases h; simp [isAll]
  | f :: fs, off, ks, h, hx => by
    unfold fieldsK at h
    split at h
    · rename_i ho
      split at h
      · rename_i k1 hk
        split at h
        · rename_i hl
          rw [Option.map_eq_some_iff] at h
          obtain ⟨k2, h2, rfl⟩ := h
          obtain ⟨x, hx1⟩ := hx f (by simp)
          have a1 := hK _ _ hk _ _ hx1
          have a2 := fields_sound hK h2 (fun g hg => hx g (by simp [hg]))
          rw [ho, ← hl] at a1
          have := isAll_append a1 a2
          rw [← List.drop_drop, ← List.take_add] at this
          rwa [List.length_append]
        · cases h
      · cases h
    · cases h

theorem kinds_sound : ∀ (d : Nat) (t : TypeId) (ks : List CK), kindsOf P d t = some ks → ∀ (fuel : Nat) (cs : List Value) (x : DataW H × List MemPlace), DataW.trod enc P W base spare held fuel t cs = some x → isAll W ks cs
  | 0, t, ks, h, _, _, _, _ => by cases h
  | d + 1, t, ks, h, fuel, cs, x, hx => by
    unfold kindsOf at h
    split at h
    · rename_i k hu
      cases h
      obtain ⟨n, rfl, _, hw⟩ := DataW.trod_int hu hx
      exact ⟨⟨n, rfl, wf_in hw⟩, trivial⟩
    · rename_i k hu
      cases h
      obtain ⟨n, rfl, hw⟩ := trod_float hu hx
      exact ⟨⟨n, rfl, hw⟩, trivial⟩
    · rename_i hu
      cases h
      obtain ⟨n, rfl, _⟩ := DataW.trod_bool hu hx
      exact ⟨⟨n, rfl⟩, trivial⟩
    · rename_i hu
      cases h
      obtain ⟨n, rfl, _, hw⟩ := DataW.trod_string hu hx
      exact ⟨⟨n, rfl, hw⟩, trivial⟩
    · rename_i e hu
      split at h
      · rename_i hc
        rw [Option.map_eq_some_iff] at h
        obtain ⟨k, hk, rfl⟩ := h
        unfold rowKind at hk
        split at hk
        · rename_i k' he
          cases hk
          obtain ⟨v, xs, rfl, h1, h2⟩ := slc_of (mk := Value.int k') (q := inK k') hu hc (fun n cs x h => by obtain ⟨b, h1, _, h2⟩ := DataW.trod_int he h; exact ⟨b, h1, wf_in h2⟩) hx
          exact ⟨⟨xs, h1, h2⟩, trivial⟩
        · rename_i k' he
          cases hk
          obtain ⟨v, xs, rfl, h1, h2⟩ := slc_of (mk := Value.float k') (q := fun b => (Lit.float k' b).wf = true) hu hc (fun n cs x h => trod_float he h) hx
          exact ⟨⟨xs, h1, h2⟩, trivial⟩
        · rename_i he
          cases hk
          obtain ⟨v, xs, rfl, h1, h2⟩ := slc_of (mk := Value.bool) (q := fun _ => True) hu hc (fun n cs x h => by obtain ⟨b, h1, _⟩ := DataW.trod_bool he h; exact ⟨b, h1, trivial⟩) hx
          exact ⟨⟨xs, h1⟩, trivial⟩
        · rename_i he
          cases hk
          obtain ⟨v, xs, rfl, h1, h2⟩ := slc_of (mk := Value.string) (q := fun b => b.size ≤ maxLen) hu hc (fun n cs x h => by obtain ⟨b, h1, _, h2⟩ := DataW.trod_string he h; exact ⟨b, h1, h2⟩) hx
          exact ⟨⟨xs, h1, h2⟩, trivial⟩
        · cases hk
      · split at h
        · rename_i hc
          cases h
          obtain ⟨v, fs, cs', rfl, h1, h2⟩ := slcN_of hu hc.1 (fun n cs x h => by
            obtain ⟨a, b, c, rfl, ⟨x1, y1, z1⟩, ⟨x2, y2, z2⟩, ⟨x3, y3, z3⟩⟩ := isAll_three (kinds_sound d e _ hc.2 n cs x h)
            exact ⟨(x1, x2, x3), a, b, c, rfl, ⟨y1, z1⟩, ⟨y2, z2⟩, ⟨y3, z3⟩⟩) hx
          exact ⟨⟨fs, cs', h1, h2⟩, trivial⟩
        · cases h
    · rename_i fs hu
      split at h
      · rename_i k1 hf
        split at h
        · rename_i hl
          cases h
          obtain ⟨xs, n, rfl, _, hlen, hxs, hat⟩ := DataW.trod_struct hu hx
          have := fields_sound (cs := cs) (n := n) (fun t ks hk cs x h => kinds_sound d t ks hk n cs x h) hf (fun f hf => by
            obtain ⟨i, hi⟩ := List.mem_iff_getElem?.1 hf
            have hlt : i < fs.size := by have := (List.getElem?_eq_some_iff.1 hi).1; simpa using this
            refine ⟨xs[i]'(by omega), ?_⟩
            rw [hat i f (by simpa using hi)]
            exact List.getElem?_eq_getElem _)
          rw [List.drop_zero, List.take_of_length_le (by omega)] at this
          exact this
        · cases h
      · cases h
    · cases h

/-- The outer form of an argument. -/
def isAgg (P : Program) (t : TypeId) : Bool := match P.underlying t with | some (.struct _) => true | _ => false

theorem outer_ok {t : TypeId} {v : Value} {d : Nat} {ks : List CK} (hk : kindsOf P d t = some ks) (h : Value.okWide P W .any base t v) : if isAgg P t = true then ∃ cs, v = .agg cs else cellOk v = true := by
  cases d with
  | zero => cases hk
  | succ d =>
    unfold kindsOf at hk
    unfold isAgg
    unfold Value.okWide Cell.okWide Cell.ok at h
    cases hu : P.underlying t with
    | none => rw [hu] at hk; cases hk
    | some u =>
      rw [hu] at hk h
      cases u with
      | struct fs => obtain ⟨cs, h1, _⟩ := h; simp only [if_true]; exact ⟨cs, h1⟩
      | int k => cases v <;> simp_all [cellOk]
      | float k => cases v <;> simp_all [cellOk]
      | bool => cases v <;> simp_all [cellOk]
      | string => cases v <;> simp_all [cellOk]
      | slice e => cases v <;> simp_all [cellOk]
      | _ => cases hk

/-- An argument for the abstract machine. -/
def argAbs (σ : Heap) (agg : Bool) (ks : List CK) (v : Value) : Prop := ∃ cs, absAll σ ks cs ∧ (if agg = true then v = .agg cs.toArray else cs = [v])
def argsAbs (σ : Heap) : List (Bool × List CK) → List Value → Prop
  | [], [] => True
  | (b, ks) :: l, v :: vs => argAbs σ b ks v ∧ argsAbs σ l vs
  | _, _ => False
def shapeOf (P : Program) (d : Nat) : List TypeId → Option (List (Bool × List CK))
  | [] => some []
  | t :: ts => match kindsOf P d t with | some ks => (shapeOf P d ts).map ((isAgg P t, ks) :: ·) | none => none

theorem open_args {d : Nat} : ∀ {ts : List TypeId} {sh : List (Bool × List CK)} {vs : List Value} {ds : List (DataW H)} {ps : List MemPlace} {β : Inj} {σ : Heap}, shapeOf P d ts = some sh →
    (∀ (j : Nat) t v, ts[j]? = some t → vs[j]? = some v → Value.okWide P W .any base t v) → DataW.TrodAll enc P W 0 (fun _ => true) true ts vs ds ps → InjOk β σ W → AllRo σ →
    ∃ β' τ avs, InjOk β' (σ ++ τ) W ∧ AllRo (σ ++ τ) ∧ Later β σ β' (σ ++ τ) ∧ LRel β' (σ ++ τ) avs vs ∧ argsAbs (σ ++ τ) sh avs
  | [], sh, vs, ds, ps, β, σ, hs, _, h, hok, hro => by
    cases hs
    obtain ⟨rfl, rfl, rfl⟩ := trodAll_nil h
    exact ⟨β, [], [], by simpa using hok, by simpa using hro, by simpa using Later.refl β σ, LRel.nil, trivial⟩
  | t :: ts, sh, vs, ds, ps, β, σ, hs, hv, h, hok, hro => by
    unfold shapeOf at hs
    split at hs
    · rename_i ks hk
      rw [Option.map_eq_some_iff] at hs
      obtain ⟨sh', hs', rfl⟩ := hs
      obtain ⟨v, vs1, e, ds1, a, b, rfl, rfl, rfl, ⟨fuel, h1⟩, h2⟩ := trodAll_cons h
      have hall := kinds_sound _ _ _ hk _ _ _ h1
      obtain ⟨β1, τ1, cs, g1, g2, g3, g4, g5⟩ := add_cells hok hro hall
      obtain ⟨β2, τ2, avs, k1, k2, k3, k4, k5⟩ := open_args hs' (fun j t v h1 h2 => hv (j + 1) t v (by simpa using h1) (by simpa using h2)) h2 g1 g2
      rw [List.append_assoc] at k1 k2 k3 k4 k5
      have hout := outer_ok hk (hv 0 t v rfl rfl)
      have g5' : absAll (σ ++ (τ1 ++ τ2)) ks cs := by rw [← List.append_assoc]; exact absAll_more τ2 g5
      split at hout
      · rename_i hb
        obtain ⟨arr, rfl⟩ := hout
        refine ⟨β2, τ1 ++ τ2, .agg cs.toArray :: avs, k1, k2, g3.trans k3, LRel.cons ?_ k4, ⟨cs, g5', by rw [if_pos hb]⟩, k5⟩
        have g4' := g4.later k3
        refine .agg _ _ (by have := g4'.1; simpa [Value.cells] using this) fun i v c hv hc => g4'.2 i v c (by simpa using hv) (by simpa [Value.cells] using hc)
      · rename_i hb
        have hc1 : v.cells.toList = [v] := cells_one hout
        have g4' := g4.later k3
        rw [hc1] at g4'
        have hl : cs.length = 1 := g4'.1
        match cs, hl with
        | [c], _ =>
          refine ⟨β2, τ1 ++ τ2, c :: avs, k1, k2, g3.trans k3, LRel.cons (g4'.2 0 c v rfl rfl) k4, ⟨[c], g5', by rw [if_neg hb]⟩, k5⟩
    · cases hs

/-- From a law of the abstract machine to a row that returns true whatever its arguments. -/
theorem row_contract {f : FuncId} {fn : Func} {c : Contract} {s : ChangeSpec} {fresh handsOn : Bool} {args : Array Value} {ds gs : List (DataW H)} {before : List MemPlace} {rt : TypeId} {d : Nat} {sh : List (Bool × List CK)}
    (hs : SimOk P f c) (hcall : ∀ args w, (callFunc f args).run P w = .ok (.enter f args) w) (hsh : shapeOf P d fn.params.toList = some sh)
    (hlaw : ∀ σ avs, argsAbs σ sh avs → Ret c avs σ fun v _ => v = .bool true)
    (hl : laidOutB P = true) (hp : fn.params.toList.all (fun t => P.readableRec t && decide (t < P.types.size)) = true) (hv : s.vars = []) (hrt : fn.resultTypes = #[rt]) (hb : P.underlying rt = some .bool)
    {n : Nat} (hn : fn.params.toList.length = n) (hfn : ∀ ds : List (DataW H), ds.length = n → s.fn H ds = { results := [.lit (.bool true)], args := ds, vars := [] })
    (hval : ∀ (j : Nat) t v, fn.params[j]? = some t → args[j]? = some v → Value.okWide P W .any base t v)
    (hW : DataW.Whole enc P fn.params.toList s.vars false W args.toList ds gs before) :
    Calls P f args W fun e W' => ∃ v, e = .returned v ∧ s.post enc P fn false fresh handsOn false W args v W' := by
  have hW' := hW
  obtain ⟨p, q, h1, h2, rfl, h3, h4⟩ := hW'
  obtain ⟨β, τ, avs, k1, k2, k3, k4, k5⟩ := open_args hsh (fun j t v a b => hval j t v (by simpa using a) (by simpa using b)) h1 (injOk_nil W) allRo_nil
  refine (calls_of_ret hs hcall k1 k2 k4 (hlaw _ _ k5)).mono fun e W' ⟨he, hB⟩ => ⟨_, he, ?_⟩
  have hgs : gs = [] := by
    rw [hv] at h2
    cases gs with
    | nil => rfl
    | cons g gs => exact h2.elim
  subst hgs
  have hlen : ∀ {ts : List TypeId} {vs : List Value} {ds : List (DataW H)} {ps : List MemPlace}, DataW.TrodAll enc P W 0 (fun _ => true) true ts vs ds ps → ds.length = ts.length := by
    intro ts
    induction ts with
    | nil => intro vs ds ps h; obtain ⟨rfl, rfl, rfl⟩ := trodAll_nil h; rfl
    | cons t ts ih =>
      intro vs ds ps h
      obtain ⟨v, vs1, e, ds1, a, b, rfl, rfl, rfl, _, h2⟩ := trodAll_cons h
      simp [ih h2]
  refine row_post hl (fun t ht => by have := List.all_eq_true.1 hp t ht; simpa using this) hv hrt hb ?_ hW hB
  rw [List.append_nil]
  exact hfn ds (by rw [hlen h1, hn])
end
/-! ### Tables of contracts -/
def cnil : Ctab := fun _ => none
def cadd (n : FuncId) (c : Contract) (C : Ctab) : Ctab := fun g => bif Nat.beq g n then some c else C g
theorem ctab_nil (P : Program) : CtabOk P cnil := fun f c h => by cases h
theorem ctab_add {P : Program} {n : FuncId} {c : Contract} {C : Ctab} (h : SimOk P n c) (hC : CtabOk P C) : CtabOk P (cadd n c C) := by
  intro f d hd
  unfold cadd at hd
  cases hb : Nat.beq f n with
  | true =>
    rw [hb] at hd
    cases hd
    have := Nat.eq_of_beq_eq_true hb
    subst this
    exact h
  | false => rw [hb] at hd; exact hC f d hd

end Go.Abs

/- Contracts of functions that the model itself has: the bits of numbers. Condition: the function is that one. -/
namespace Go.Abs

theorem lrel_one {β : Inj} {σ : Heap} {v : Value} {cs : Array Value} (h : LRel β σ [v] cs.toList) : ∃ c, cs = #[c] ∧ VRel β σ v c := by
  obtain ⟨hl, hv⟩ := h
  match cs, hl, hv with
  | ⟨[c]⟩, _, hv => exact ⟨c, rfl, hv 0 v c rfl rfl⟩

/-- A function without a body that only computes. -/
def pureC (g : List Value → Option Value) : Contract := { quiet := true, fn := fun args σ => (g args).map (·, σ) }

theorem simOk_pure {P : Program} {f : FuncId} {g : List Value → Option Value} {e : Array Value → Sem Value}
    (hcall : ∀ args w, (callFunc f args).run P w = ((e args).run P w).andThen fun v w' => .ok (.value v) w')
    (hg : ∀ args v, g args = some v → ∀ (β : Inj) (σ : Heap) (w : World) (cargs : Array Value), LRel β σ args cargs.toList → ∃ c, (e cargs).run P w = .ok c w ∧ VRel β σ v c) : SimOk P f (pureC g) := by
  refine ⟨fun args σ v σ' h β w cargs hok ha => ?_, fun _ args σ v σ' h => ?_⟩
  · obtain ⟨h1, rfl⟩ := map_pair h
    obtain ⟨c, h2, h3⟩ := hg _ _ h1 β _ w cargs ha
    exact Does.pure_ hok (by rw [hcall, h2]; rfl) h3 (.inl rfl)
  · obtain ⟨_, rfl⟩ := map_pair h
    exact ⟨[], by simp⟩

def gBits32 : List Value → Option Value
  | [.float .f32 b] => bif isNaN .f32 b then none else some (.int .u32 b)
  | _ => none
def gBits64 : List Value → Option Value
  | [.float .f64 b] => bif isNaN .f64 b then none else some (.int .u64 b)
  | _ => none
theorem sim_bits32 {P : Program} {f : FuncId} (hcall : ∀ args w, (callFunc f args).run P w = ((Extern.MathFloatBits.float32bits args).run P w).andThen fun v w' => .ok (.value v) w') : SimOk P f (pureC gBits32) := by
  refine simOk_pure hcall fun args v h β σ w cargs ha => ?_
  unfold gBits32 at h
  split at h
  · rename_i b
    cases hb : isNaN .f32 b
    · rw [hb] at h
      cases h
      obtain ⟨c, rfl, hc⟩ := lrel_one ha
      cases hc with
      | float hr =>
        rcases hr with rfl | ⟨h1, _⟩
        · exact ⟨_, rfl, .int _ _⟩
        · rw [hb] at h1; cases h1
    · rw [hb] at h; cases h
  · cases h
theorem sim_bits64 {P : Program} {f : FuncId} (hcall : ∀ args w, (callFunc f args).run P w = ((Extern.MathFloatBits.float64bits args).run P w).andThen fun v w' => .ok (.value v) w') : SimOk P f (pureC gBits64) := by
  refine simOk_pure hcall fun args v h β σ w cargs ha => ?_
  unfold gBits64 at h
  split at h
  · rename_i b
    cases hb : isNaN .f64 b
    · rw [hb] at h
      cases h
      obtain ⟨c, rfl, hc⟩ := lrel_one ha
      cases hc with
      | float hr =>
        rcases hr with rfl | ⟨h1, _⟩
        · exact ⟨_, rfl, .int _ _⟩
        · rw [hb] at h1; cases h1
    · rw [hb] at h; cases h
  · cases h

theorem ret_bits32 {b : Nat} (σ : Heap) (h : isNaN .f32 b = false) : Ret (pureC gBits32) [.float .f32 b] σ fun v σ' => v = .int .u32 b ∧ σ' = σ := by
  unfold Ret
  exact ⟨_, _, by simp only [pureC, gBits32]; rw [h]; rfl, rfl, rfl⟩
theorem ret_bits64 {b : Nat} (σ : Heap) (h : isNaN .f64 b = false) : Ret (pureC gBits64) [.float .f64 b] σ fun v σ' => v = .int .u64 b ∧ σ' = σ := by
  unfold Ret
  exact ⟨_, _, by simp only [pureC, gBits64]; rw [h]; rfl, rfl, rfl⟩
end Go.Abs

