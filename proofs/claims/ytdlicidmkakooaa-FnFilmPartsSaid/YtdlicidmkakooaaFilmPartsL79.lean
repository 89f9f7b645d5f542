/- Laws of functions: the film of a field that runs, by the program. Conditions: the laws of what they call. -/
import Derived.Test.YtdlicidmkakooaaFilmPartsL72
import Derived.Test.YtdlicidmkakooaaFilmPartsL53
import Derived.Test.YtdlicidmkakooaaFilmPartsL57
namespace Go.Abs

set_option linter.unusedSimpArgs false
set_option linter.unusedVariables false
set_option maxHeartbeats 8000000
set_option maxRecDepth 20000
/- loop.example/g01201/impl.FilmOf -/
def impl_FilmOf_r0 : List SOper := [
  ⟨(some 4), none, .box (.tmp 0), 0⟩,
  ⟨(some 5), none, .box (.tmp 1), 0⟩,
  ⟨(some 8), none, .alloc [(.int .i64 0), (.int .i64 0), (.bool false), (.slice none 0 0), (.slice none 0 0), (.slice none 0 0)], 0⟩,
  ⟨(some 9), none, .mov (.const (.bool false)), 0⟩]
def impl_FilmOf_r1 (i_impl_IsField i_impl_within : FuncId) : List SOper := [
  ⟨(some 13), none, .loadN 5 (.tmp 4), 0⟩,
  ⟨(some 14), none, .loadN 3 (.tmp 5), 0⟩,
  ⟨(some 15), none, .call (.func i_impl_IsField) [(.tmp 13), (.tmp 14)], 3⟩,
  ⟨(some 16), none, .un .not (.tmp 15), 7⟩,
  ⟨(some 17), none, .mov (.tmp 16), 15⟩,
  ⟨(some 18), (some (17, false)), .mov (.tmp 2), 31⟩,
  ⟨(some 19), (some (17, false)), .call (.func i_impl_within) [(.tmp 18), (.const (.int .i64 0)), (.const (.int .i64 64))], 63⟩,
  ⟨(some 20), (some (17, false)), .un .not (.tmp 19), 127⟩,
  ⟨(some 21), none, .pick (.tmp 17) (.const (.bool true)) (.tmp 20), 255⟩,
  ⟨(some 22), none, .mov (.tmp 21), 511⟩,
  ⟨(some 23), (some (22, false)), .mov (.tmp 3), 1023⟩,
  ⟨(some 24), (some (22, false)), .call (.func i_impl_within) [(.tmp 23), (.const (.int .i64 0)), (.const (.int .i64 16))], 2047⟩,
  ⟨(some 25), (some (22, false)), .un .not (.tmp 24), 4095⟩,
  ⟨(some 26), none, .pick (.tmp 22) (.const (.bool true)) (.tmp 25), 8191⟩]
def impl_FilmOf_r2 : List SOper := [
  ⟨(some 27), none, .build [(.int .i64 0), (.int .i64 0), (.bool false), (.slice none 0 0), (.slice none 0 0), (.slice none 0 0)] [], 0⟩,
  ⟨none, none, .store 6 (.tmp 8) (.tmp 27), 1⟩,
  ⟨(some 9), none, .mov (.const (.bool false)), 3⟩]
def impl_FilmOf_r3 (i_impl_copySheet i_impl_copyField : FuncId) : List SOper := [
  ⟨(some 28), none, .loadN 5 (.tmp 4), 0⟩,
  ⟨(some 29), none, .call (.func i_impl_copySheet) [(.tmp 28)], 1⟩,
  ⟨(some 30), none, .build [(.int .i64 0), (.int .i64 0), (.bool false), (.slice none 0 0), (.slice none 0 0), (.slice none 0 0)] [(0, 5, (.tmp 29))], 3⟩,
  ⟨(some 31), none, .loadN 3 (.tmp 5), 0⟩,
  ⟨(some 32), none, .call (.func i_impl_copyField) [(.tmp 31)], 11⟩,
  ⟨(some 10), none, .alloc [(.int .i64 0), (.int .i64 0), (.bool false), (.slice none 0 0), (.slice none 0 0), (.slice none 0 0)], 0⟩,
  ⟨(some 11), none, .alloc [(.slice none 0 0), (.slice none 0 0), (.slice none 0 0)], 0⟩,
  ⟨none, none, .store 6 (.tmp 10) (.tmp 30), 127⟩,
  ⟨none, none, .store 3 (.tmp 11) (.tmp 32), 255⟩]
def impl_FilmOf_r4 : List SOper := [
  ⟨(some 33), none, .mov (.tmp 3), 0⟩,
  ⟨(some 34), none, .mov (.const (.int .i64 0)), 0⟩]
def impl_FilmOf_r5 : List SOper := [
  ⟨(some 35), none, .bin .lss .other (.tmp 34) (.tmp 33), 0⟩]
def impl_FilmOf_r6 : List SOper := [
  ⟨(some 36), none, .mov (.tmp 34), 0⟩,
  ⟨(some 12), none, .mov (.tmp 36), 1⟩]
def impl_FilmOf_r7 : List SOper := [
  ⟨(some 37), none, .mov (.tmp 12), 0⟩,
  ⟨(some 38), none, .bin .gtr .other (.tmp 37) (.const (.int .i64 0)), 1⟩]
def impl_FilmOf_r8 (i_impl_RunField : FuncId) : List SOper := [
  ⟨(some 40), none, .loadN 5 (.tmp 4), 0⟩,
  ⟨(some 41), none, .loadN 3 (.tmp 11), 0⟩,
  ⟨(some 42), none, .mov (.tmp 2), 0⟩,
  ⟨(some 43), none, .call (.func i_impl_RunField) [(.tmp 40), (.tmp 41), (.tmp 42)], 7⟩,
  ⟨(some 39), none, .mov (.tmp 43), 15⟩,
  ⟨(some 44), none, .extract (.tmp 39) 0, 31⟩,
  ⟨(some 45), none, .extract (.tmp 39) 1, 31⟩,
  ⟨none, none, .store 3 (.tmp 11) (.tmp 44), 63⟩]
def impl_FilmOf_r9 (i_impl_copyField : FuncId) : List SOper := [
  ⟨(some 46), none, .fieldAddr 5 (.tmp 10), 0⟩,
  ⟨(some 47), none, .load1 (.tmp 46), 1⟩,
  ⟨(some 48), none, .loadN 3 (.tmp 11), 0⟩,
  ⟨(some 49), none, .call (.func i_impl_copyField) [(.tmp 48)], 4⟩,
  ⟨(some 50), none, .buildSlice 3 1 [(.slice none 0 0), (.slice none 0 0), (.slice none 0 0)] [(0, 3, (.tmp 49))], 12⟩,
  ⟨(some 51), none, .append 3 72 (.tmp 47) (.tmp 50), 31⟩,
  ⟨(some 52), none, .fieldAddr 5 (.tmp 10), 63⟩,
  ⟨none, none, .store 1 (.tmp 52) (.tmp 51), 127⟩]
def impl_FilmOf_r10 : List SOper := [
  ⟨(some 53), none, .bin .add .other (.tmp 34) (.const (.int .i64 1)), 0⟩,
  ⟨(some 34), none, .mov (.tmp 53), 1⟩]
def impl_FilmOf_l11 (i_impl_RunField i_impl_copyField : FuncId) : SCode := (.kp [2, 4, 8, 10, 11, 33, 34] (.seq (.region impl_FilmOf_r5 false) (.kp [2, 4, 8, 10, 11, 33, 34, 35] (.seq (.cond (.tmp 35) .skip (.exit 0)) (.kp [2, 4, 8, 10, 11, 33, 34] (.seq (.block 1 (.seq (.region impl_FilmOf_r6 false) (.kp [2, 4, 8, 10, 11, 12, 33, 34] (.seq (.seq (.region impl_FilmOf_r7 false) (.kp [2, 4, 8, 10, 11, 33, 34, 38] (.cond (.tmp 38) (.region (impl_FilmOf_r8 i_impl_RunField) false) .skip))) (.kp [2, 4, 8, 10, 11, 33, 34] (.region (impl_FilmOf_r9 i_impl_copyField) true)))))) (.kp [2, 4, 8, 10, 11, 33, 34] (.region impl_FilmOf_r10 false))))))))
def impl_FilmOf_r12 : List SOper := [
  ⟨(some 54), none, .loadN 6 (.tmp 10), 0⟩,
  ⟨none, none, .store 6 (.tmp 8) (.tmp 54), 1⟩,
  ⟨(some 9), none, .mov (.const (.bool true)), 3⟩]
def impl_FilmOf (i_impl_IsField i_impl_within i_impl_copySheet i_impl_copyField i_impl_RunField : FuncId) : SFunc := ⟨55, [.cellN 8 6, .tmp 9], (.kp [0, 1, 2, 3] (.seq (.region impl_FilmOf_r0 false) (.kp [2, 3, 4, 5, 8] (.seq (.seq (.region (impl_FilmOf_r1 i_impl_IsField i_impl_within) false) (.kp [2, 3, 4, 5, 8, 26] (.cond (.tmp 26) (.seq (.region impl_FilmOf_r2 false) .ret) .skip))) (.kp [2, 3, 4, 5, 8] (.seq (.region (impl_FilmOf_r3 i_impl_copySheet i_impl_copyField) true) (.kp [2, 3, 4, 8, 10, 11] (.seq (.seq (.region impl_FilmOf_r4 false) (.kp [2, 4, 8, 10, 11, 33, 34] (.block 0 (.loop (impl_FilmOf_l11 i_impl_RunField i_impl_copyField))))) (.kp [8, 10] (.seq (.region impl_FilmOf_r12 false) .ret))))))))))⟩
theorem impl_FilmOf_r3_dr {i_impl_copySheet i_impl_copyField : FuncId} : (drawOkS (impl_FilmOf_r3 i_impl_copySheet i_impl_copyField) && storesOnly (impl_FilmOf_r3 i_impl_copySheet i_impl_copyField)) = true := by kernel_rfl
attribute [push_cast] impl_FilmOf_r3_dr
theorem impl_FilmOf_r9_dr {i_impl_copyField : FuncId} : drawOkW wStat (impl_FilmOf_r9 i_impl_copyField) = true := by kernel_rfl
attribute [push_cast] impl_FilmOf_r9_dr
def foOk (w h : Int) (wr : Bool) (sp lo : List Nat) (f : Fld) (n k : Int) : Bool := isField w h wr sp lo f.e f.x f.y && (inR n 0 64 && inR k 0 16)
def foG (w h : Int) (wr : Bool) (sp lo : List Nat) (f : Fld) (n : Int) (i : Nat) : Fld := runF w.toNat h.toNat wr sp lo (n.toNat * i) f
def foFs (w h : Int) (wr : Bool) (sp lo : List Nat) (f : Fld) (n k : Int) : List Fld := framesF (foG w h wr sp lo f n) k.toNat
theorem foG_run (w h : Int) (wr : Bool) (sp lo : List Nat) (f : Fld) (n : Int) (i : Nat) : rfF w h wr sp lo (foG w h wr sp lo f n i).e (foG w h wr sp lo f n i).x (foG w h wr sp lo f n i).y n = foG w h wr sp lo f n (i + 1) := by
  show runF w.toNat h.toNat wr sp lo n.toNat (foG w h wr sp lo f n i) = _
  unfold foG
  rw [runF_add, Nat.mul_succ]
theorem foG_field {W H : Nat} {wr : Bool} {sp lo : List Nat} {f : Fld} (n : Int) (hf : isField W H wr sp lo f.e f.x f.y = true) (i : Nat) : isField W H wr sp lo (foG W H wr sp lo f n i).e (foG W H wr sp lo f n i).x (foG W H wr sp lo f n i).y = true := by
  obtain ⟨hs, _, _, _⟩ := isField_len hf
  rw [isField_fits hs] at hf ⊢
  unfold foG
  rw [Int.toNat_natCast, Int.toNat_natCast]
  exact fits_run hf _
theorem foG_len {w h : Int} {wr : Bool} {sp lo : List Nat} {f : Fld} (n : Int) {N : Nat} (hf : lenF N f) (i : Nat) : lenF N (foG w h wr sp lo f n i) := runF_len hf _
/-- The fields' value of a film that grows. -/
def fvOf (b : Nat) : Nat → Value
  | 0 => .slice none 0 0
  | i + 1 => slV b (i + 1)
theorem RInv.setOut {H H' : Heap} {lo b : Nat} {R : Rws} (h : RInv H lo R) (hb : b ∉ R.map Prod.fst) (hk : ∀ o, o ≠ b → o < H.length → H'[o]? = H[o]?) : RInv H' lo R :=
  ⟨fun p hp => by rw [hk p.1 (fun hc => hb (by rw [← hc]; exact List.mem_map_of_mem hp)) (h.lt hp)]; exact h.own p hp, h.low, h.nod⟩
def FilmOfI_ok (c : Contract) : Prop := ∀ (σ : Heap) (w h : Int) (wr : Bool) (sv lv : Value) (sp lo : List Nat) (ev xv yv : Value) (f : Fld) (n k : Int), ShR σ sv lv sp lo → sp.length ≤ 1048576 → lo.length ≤ 1048576 → FlR σ ev xv yv f.e f.x f.y → fitF f →
    Ret c [shV w h wr sv lv, fV ev xv yv, .int .i64 n, .int .i64 k] σ fun v σ' => FmResN (foOk w h wr sp lo f n k) σ σ' v w h wr sp lo (foFs w h wr sp lo f n k)
abbrev impl_FilmOf_ok := FilmOfI_ok
theorem impl_FilmOf_law {C : Ctab} {i1 i2 i3 i4 i5 : FuncId} {c1 c2 c3 c4 c5 : Contract} (h1 : Has C i1 c1 impl_IsField_ok) (h2 : Has C i2 c2 impl_within_ok) (h3 : Has C i3 c3 impl_copySheet_ok) (h4 : Has C i4 c4 impl_copyField_ok) (h5 : Has C i5 c5 impl_RunField_ok) :
    impl_FilmOf_ok (bodyC C (impl_FilmOf i1 i2 i3 i4 i5) true) := by
  intro σ w h wr sv lv sp lo ev xv yv f n k ⟨r1, r2⟩ n1 n2 ⟨r3, r4, r5⟩ ⟨m1, m2, m3⟩
  have k1 := r1.ok
  have k2 := r2.ok
  have k3 := r3.ok
  have k4 := r4.ok
  have k5 := r5.ok
  cases hFi : isField w h wr sp lo f.e f.x f.y
  · rw [show foOk w h wr sp lo f n k = false from by unfold foOk; rw [hFi]; rfl]
    refine ret_bd rfl rfl ?_
    repeat' (first | refine ff ?_ | (apply EvR.aCall h1.at_; (· exact eva); (· apply h1.ok <;> exact sid); (rintro _ _ ⟨rfl, rfl⟩; refine EvR.nrm ?_; try simp only [hFi])) | (apply EvR.aCall h2.at_; (· exact eva); (· apply h2.ok <;> exact sid); (rintro _ _ ⟨rfl, rfl⟩; refine EvR.nrm ?_; try simp only [hFi])) | ((first | refine EvR.aSplB ?_ ?_ | refine Ev.aSplB ?_ ?_) <;> (intro hb; (try rw [hb]); (try simp only [Bool.not_eq_true', Bool.not_eq_false', Bool.not_eq_eq_eq_not, Bool.not_true, Bool.not_false, decide_eq_true_eq, decide_eq_false_iff_not, Bool.and_eq_true, Bool.and_eq_false_iff, Bool.or_eq_true, Bool.or_eq_false_iff] at hb); (try (exfalso; first | omega | exact hb trivial)))) | (apply endS trivial; rotate_left; (· exact eva); (· rfl); try refine ⟨?_, rfl⟩) | fail)
    apply endB trivial
    · exact eva
    · exact FmResN.no rfl
  cases hR : inR n 0 64
  · rw [show foOk w h wr sp lo f n k = false from by unfold foOk; rw [hR]; simp]
    refine ret_bd rfl rfl ?_
    repeat' (first | refine ff ?_ | (apply EvR.aCall h1.at_; (· exact eva); (· apply h1.ok <;> exact sid); (rintro _ _ ⟨rfl, rfl⟩; refine EvR.nrm ?_; try simp only [hFi, hR])) | (apply EvR.aCall h2.at_; (· exact eva); (· apply h2.ok <;> exact sid); (rintro _ _ ⟨rfl, rfl⟩; refine EvR.nrm ?_; try simp only [hFi, hR])) | ((first | refine EvR.aSplB ?_ ?_ | refine Ev.aSplB ?_ ?_) <;> (intro hb; (try rw [hb]); (try simp only [Bool.not_eq_true', Bool.not_eq_false', Bool.not_eq_eq_eq_not, Bool.not_true, Bool.not_false, decide_eq_true_eq, decide_eq_false_iff_not, Bool.and_eq_true, Bool.and_eq_false_iff, Bool.or_eq_true, Bool.or_eq_false_iff] at hb); (try (exfalso; first | omega | exact hb trivial)))) | (apply endS trivial; rotate_left; (· exact eva); (· rfl); try refine ⟨?_, rfl⟩) | fail)
    apply endB trivial
    · exact eva
    · exact FmResN.no rfl
  cases hK : inR k 0 16
  · rw [show foOk w h wr sp lo f n k = false from by unfold foOk; rw [hK]; simp]
    refine ret_bd rfl rfl ?_
    repeat' (first | refine ff ?_ | (apply EvR.aCall h1.at_; (· exact eva); (· apply h1.ok <;> exact sid); (rintro _ _ ⟨rfl, rfl⟩; refine EvR.nrm ?_; try simp only [hFi, hR, hK])) | (apply EvR.aCall h2.at_; (· exact eva); (· apply h2.ok <;> exact sid); (rintro _ _ ⟨rfl, rfl⟩; refine EvR.nrm ?_; try simp only [hFi, hR, hK])) | ((first | refine EvR.aSplB ?_ ?_ | refine Ev.aSplB ?_ ?_) <;> (intro hb; (try rw [hb]); (try simp only [Bool.not_eq_true', Bool.not_eq_false', Bool.not_eq_eq_eq_not, Bool.not_true, Bool.not_false, decide_eq_true_eq, decide_eq_false_iff_not, Bool.and_eq_true, Bool.and_eq_false_iff, Bool.or_eq_true, Bool.or_eq_false_iff] at hb); (try (exfalso; first | omega | exact hb trivial)))) | (apply endS trivial; rotate_left; (· exact eva); (· rfl); try refine ⟨?_, rfl⟩) | fail)
    apply endB trivial
    · exact eva
    · exact FmResN.no rfl
  rw [show foOk w h wr sp lo f n k = true from by unfold foOk; rw [hFi, hR, hK]; rfl]
  obtain ⟨hs, t1, t2, t3⟩ := isField_len hFi
  obtain ⟨a1, a2, a3, a4, q1, q2⟩ := isSheet_sides hs
  obtain ⟨W, rfl⟩ := Int.eq_ofNat_of_zero_le (show 0 ≤ w by omega)
  obtain ⟨H, rfl⟩ := Int.eq_ofNat_of_zero_le (show 0 ≤ h by omega)
  have hn := inR_true hR
  obtain ⟨M, rfl⟩ := Int.eq_ofNat_of_zero_le (show 0 ≤ n by omega)
  have hk := inR_true hK
  obtain ⟨K, rfl⟩ := Int.eq_ofNat_of_zero_le (show 0 ≤ k by omega)
  have hWH : ((W * H : Nat) : Int) = (W : Int) * (H : Int) := Int.natCast_mul _ _
  have hN2 : W * H ≤ 256 := Nat.mul_le_mul (show W ≤ 16 by omega) (show H ≤ 16 by omega)
  have hok : ∀ i, rfOk W H wr sp lo (foG W H wr sp lo f M i).e (foG W H wr sp lo f M i).x (foG W H wr sp lo f M i).y M = true := fun i => by unfold rfOk; rw [foG_field M hFi i, hR]; rfl
  have hrun := foG_run W H wr sp lo f M
  have fl : ∀ i, lenF (W * H) (foG W H wr sp lo f M i) := foG_len M ⟨by omega, by omega, by omega⟩
  have g0 : foG W H wr sp lo f M 0 = f := rfl
  rw [show foFs W H wr sp lo f M K = framesF (foG W H wr sp lo f M) K from by unfold foFs; rw [Int.toNat_natCast]]
  generalize foG W H wr sp lo f M = g at hok hrun fl g0 ⊢
  refine ret_bd rfl rfl ?_
  repeat' (first | refine ff ?_ | (apply EvR.aCall h1.at_; (· exact eva); (· apply h1.ok <;> exact sid); (rintro _ _ ⟨rfl, rfl⟩; refine EvR.nrm ?_; try simp only [hFi, hR, hK])) | (apply EvR.aCall h2.at_; (· exact eva); (· apply h2.ok <;> exact sid); (rintro _ _ ⟨rfl, rfl⟩; refine EvR.nrm ?_; try simp only [hFi, hR, hK])) | (apply EvR.aCall h3.at_; (· exact eva); (· apply h3.ok <;> exact sid); (rintro _ _ ⟨rfl, rfl⟩; refine EvR.nrm ?_; try simp only [hFi, hR, hK])) | (apply EvR.aCall h4.at_; (· exact eva); (· apply h4.ok <;> exact sid); (rintro _ _ ⟨rfl, rfl⟩; refine EvR.nrm ?_; try simp only [hFi, hR, hK])) | ((first | refine EvR.aSplB ?_ ?_ | refine Ev.aSplB ?_ ?_) <;> (intro hb; (try rw [hb]); (try simp only [Bool.not_eq_true', Bool.not_eq_false', Bool.not_eq_eq_eq_not, Bool.not_true, Bool.not_false, decide_eq_true_eq, decide_eq_false_iff_not, Bool.and_eq_true, Bool.and_eq_false_iff, Bool.or_eq_true, Bool.or_eq_false_iff] at hb); (try (exfalso; first | omega | exact hb trivial)))) | (apply endS trivial; rotate_left; (· exact eva); (· rfl); try refine ⟨?_, rfl⟩) | fail)
  have gl : ∀ i, (g i).e.length ≤ 256 ∧ (g i).x.length ≤ 256 ∧ (g i).y.length ≤ 256 := fun i => by obtain ⟨u1, u2, u3⟩ := fl i; omega
  obtain ⟨P8, hP8⟩ : ∃ P : Heap, P = [⟨[.int .i64 W, .int .i64 H, .bool wr, sv, lv], 0, true⟩, ⟨[ev, xv, yv], 0, true⟩, ⟨[.int .i64 0, .int .i64 0, .bool false, .slice none 0 0, .slice none 0 0, .slice none 0 0], 0, true⟩, rowO sp, rowO lo, rowO f.e, rowO f.x, rowO f.y] := ⟨_, rfl⟩
  refine Ev.whlH (S := Nat × Nat × Nat × Rws × Heap) (fun st => K - st.1) (fun st => [(34, .int .i64 st.1)])
    (fun st => σ ++ (⟨[.int .i64 W, .int .i64 H, .bool wr, sv, lv], 0, true⟩ :: ⟨[ev, xv, yv], 0, true⟩ :: ⟨[.int .i64 0, .int .i64 0, .bool false, .slice none 0 0, .slice none 0 0, .slice none 0 0], 0, true⟩ :: rowO sp :: rowO lo :: rowO f.e :: rowO f.x :: rowO f.y ::
      ⟨[.int .i64 W, .int .i64 H, .bool wr, slV (σ.length + 3) sp.length, slV (σ.length + 4) lo.length, fvOf (σ.length + (st.2.2.1 + 10)) st.1], 0, true⟩ :: ⟨[slV (σ.length + st.2.1) (g (st.1 - 1)).e.length, slV (σ.length + (st.2.1 + 1)) (g (st.1 - 1)).x.length, slV (σ.length + (st.2.1 + 2)) (g (st.1 - 1)).y.length], 0, true⟩ :: st.2.2.2.2))
    (fun st => st.1 ≤ K ∧ (st.1 = 0 → st.2 = (5, 0, [], [])) ∧ (0 < st.1 → st.2.2.2.2[st.2.2.1]? = some ⟨st.2.2.2.1.map slOf, 3, true⟩) ∧
      (∀ X Y : AObj, (P8 ++ X :: Y :: st.2.2.2.2)[st.2.1]? = some (rowO (g (st.1 - 1)).e) ∧ (P8 ++ X :: Y :: st.2.2.2.2)[st.2.1 + 1]? = some (rowO (g (st.1 - 1)).x) ∧ (P8 ++ X :: Y :: st.2.2.2.2)[st.2.1 + 2]? = some (rowO (g (st.1 - 1)).y)) ∧
      st.2.2.2.1.map Prod.snd = rowsOf (framesF g st.1) ∧ (∀ T : Heap, T.length = 10 → RInv (σ ++ (T ++ st.2.2.2.2)) (σ.length + 10) st.2.2.2.1) ∧ σ.length + (st.2.2.1 + 10) ∉ st.2.2.2.1.map Prod.fst)
    (0, 5, 0, [], []) (by (simp only [List.cons_append, List.nil_append, ↓fget_cons, push_cast, Nat.reduceEqDiff, reduceIte] <;> rfl)) (by rw [← g0]; rfl) ⟨Nat.zero_le _, fun _ => rfl, fun h => absurd h (by simp), fun X Y => by rw [hP8, ← g0]; exact ⟨rfl, rfl, rfl⟩, rfl, fun P _ => RInv.nil _ _, by simp⟩ ?_
  rintro ⟨i, q, j, R, rub⟩ F hF ⟨hi, hz, hj, hb, hcon, hinv, hbn⟩
  dsimp only at hi hF hz hj hb hcon hinv hbn ⊢
  (simp only [List.cons_append, List.nil_append, ↓fget_cons, fkeep_cons, fkeep_nil, Nat.reduceEqDiff, reduceIte] at hF; subst hF)
  by_cases hlt : i < K
  · rcases Nat.eq_zero_or_pos i with rfl | hpos
    · obtain ⟨rfl, rfl, rfl, rfl⟩ : q = 5 ∧ j = 0 ∧ R = [] ∧ rub = [] := by have := hz rfl; simp only [Prod.mk.injEq] at this; exact this
      dsimp only [fvOf]
      obtain ⟨u1, u2, u3⟩ := gl 0
      rw [Nat.zero_sub, ← g0]
      repeat' (first | refine ff ?_ | (apply EvR.aCall h4.at_; (· exact eva); (· apply h4.ok <;> exact sid); (rintro _ _ ⟨rfl, rfl⟩; refine EvR.nrm ?_)) | ((first | refine EvR.aSplB ?_ ?_ | refine Ev.aSplB ?_ ?_) <;> (intro hb; (try rw [hb]); (try simp only [Bool.not_eq_true', Bool.not_eq_false', Bool.not_eq_eq_eq_not, Bool.not_true, Bool.not_false, decide_eq_true_eq, decide_eq_false_iff_not, Bool.and_eq_true, Bool.and_eq_false_iff, Bool.or_eq_true, Bool.or_eq_false_iff] at hb); (try (exfalso; first | omega | exact hb trivial)))) | (apply endS trivial; rotate_left; (· exact eva); (· rfl); try refine ⟨?_, rfl⟩) | fail)
      refine ⟨(0 + 1, 5, 4, [(σ.length + 10, (g 0).e), (σ.length + 11, (g 0).x), (σ.length + 12, (g 0).y)], [rowO (g 0).e, rowO (g 0).x, rowO (g 0).y, ⟨[slV (σ.length + 10) (g 0).e.length, slV (σ.length + 11) (g 0).x.length, slV (σ.length + 12) (g 0).y.length], 3, true⟩, ⟨[slV (σ.length + 10) (g 0).e.length, slV (σ.length + 11) (g 0).x.length, slV (σ.length + 12) (g 0).y.length], 3, true⟩]),
        by dsimp only; omega, by (simp only [List.cons_append, List.nil_append, ↓fget_cons, push_cast, Nat.reduceEqDiff, reduceIte] <;> rfl), rfl, by dsimp only; omega, fun h => absurd h (by dsimp only; omega), fun _ => rfl, fun X Y => by rw [hP8, ← g0]; exact ⟨rfl, rfl, rfl⟩, ?_, fun P hP => ?_, ?_⟩
      · dsimp only; rw [rowsOf_frames]; rfl
      · have := (RInv.nil (σ ++ P) (σ.length + 10)).snoc3 (by rw [List.length_append]; omega) (g 0) [⟨[slV (σ.length + 10) (g 0).e.length, slV (σ.length + 11) (g 0).x.length, slV (σ.length + 12) (g 0).y.length], 3, true⟩, ⟨[slV (σ.length + 10) (g 0).e.length, slV (σ.length + 11) (g 0).x.length, slV (σ.length + 12) (g 0).y.length], 3, true⟩]
        rw [List.append_assoc, List.length_append, hP] at this
        exact this
      · simp
    · obtain ⟨i, rfl⟩ : ∃ i', i = i' + 1 := ⟨i - 1, by omega⟩
      clear hz
      have hj := hj (by omega)
      rw [Nat.add_sub_cancel] at hb ⊢
      dsimp only [fvOf]
      have hl : ∀ (X Y : AObj) (o : Nat) (xs : List Nat), (P8 ++ X :: Y :: rub)[o]? = some (rowO xs) → Row (σ ++ (P8 ++ X :: Y :: rub)) 1 (slV (σ.length + o) xs.length) xs.length (f32s xs) := fun X Y o xs ho => Row.own ho (by omega) (by rw [f32s_length]; omega)
      have G1 := fun X Y => hl X Y _ _ (hb X Y).1
      have G2 := fun X Y => hl X Y _ _ (hb X Y).2.1
      have G3 := fun X Y => hl X Y _ _ (hb X Y).2.2
      rw [hP8] at G1 G2 G3
      simp only [List.cons_append, List.nil_append] at G1 G2 G3
      obtain ⟨u1, u2, u3⟩ := gl i
      obtain ⟨v1, v2, v3⟩ := gl (i + 1)
      repeat' (first | refine ff ?_ | ((first | refine EvR.aSplB ?_ ?_ | refine Ev.aSplB ?_ ?_) <;> (intro hb; (try rw [hb]); (try simp only [Bool.not_eq_true', Bool.not_eq_false', Bool.not_eq_eq_eq_not, Bool.not_true, Bool.not_false, decide_eq_true_eq, decide_eq_false_iff_not, Bool.and_eq_true, Bool.and_eq_false_iff, Bool.or_eq_true, Bool.or_eq_false_iff] at hb); (try (exfalso; first | omega | exact hb trivial)))) | (apply endS trivial; rotate_left; (· exact eva); (· rfl); try refine ⟨?_, rfl⟩) | fail)
      (apply EvR.aCall h5.at_; (· exact eva); (· exact  h5.ok _ W H wr sv lv sp lo _ _ _ (g i).e (g i).x (g i).y M ⟨r1.ext _, r2.ext _⟩ n1 n2 ⟨G1 _ _, G2 _ _, G3 _ _⟩ (by omega) (by omega) (by omega)); (rintro _ _ ⟨rfl, rfl⟩; refine EvR.nrm ?_))
      rw [hok i, hrun i, flRes_t, flRows_t]
      repeat' (first | refine ff ?_ | (apply EvR.aCall h4.at_; (· exact eva); (· apply h4.ok <;> exact sid); (rintro _ _ ⟨rfl, rfl⟩; refine EvR.nrm ?_)) | ((first | refine EvR.aSplB ?_ ?_ | refine Ev.aSplB ?_ ?_) <;> (intro hb; (try rw [hb]); (try simp only [Bool.not_eq_true', Bool.not_eq_false', Bool.not_eq_eq_eq_not, Bool.not_true, Bool.not_false, decide_eq_true_eq, decide_eq_false_iff_not, Bool.and_eq_true, Bool.and_eq_false_iff, Bool.or_eq_true, Bool.or_eq_false_iff] at hb); (try (exfalso; first | omega | exact hb trivial)))) | (apply endS trivial; rotate_left; (· exact eva); (· rfl); try refine ⟨?_, rfl⟩) | fail)
      have hjl := (List.getElem?_eq_some_iff.1 hj).1
      have hRl : R.length = (i + 1) * 3 := by have := congrArg List.length hcon; rw [List.length_map, rowsOf_length, framesF_len] at this; exact this
      refine EvR.ap3 (τ := σ) (cells := R.map slOf) (i := j + 10) (j := rub.length + 16) (m := i + 1) rfl ?_ (by rw [List.length_map]; exact hRl) rfl (by simp only [List.getElem?_cons_succ]; exact get_end _ _ 6) (by omega) rfl rfl rfl ?_
      · show (rub ++ _)[j]? = _
        rw [List.getElem?_append_left hjl]; exact hj
      obtain ⟨ρ, hρ⟩ : ∃ r, r = rub.set j (⟨R.map slOf ++ [slV (σ.length + (rub.length + 13)) (g (i + 1)).e.length, slV (σ.length + (rub.length + 14)) (g (i + 1)).x.length, slV (σ.length + (rub.length + 15)) (g (i + 1)).y.length], 3, true⟩ : AObj) := ⟨_, rfl⟩
      have hρl : ρ.length = rub.length := by rw [hρ, List.length_set]
      simp only [List.set_cons_succ, List.set_append_left _ _ hjl]
      rw [← hρ, ← hρl]
      rw [← hρl] at hρ
      repeat' (first | refine ff ?_ | ((first | refine EvR.aSplB ?_ ?_ | refine Ev.aSplB ?_ ?_) <;> (intro hb; (try rw [hb]); (try simp only [Bool.not_eq_true', Bool.not_eq_false', Bool.not_eq_eq_eq_not, Bool.not_true, Bool.not_false, decide_eq_true_eq, decide_eq_false_iff_not, Bool.and_eq_true, Bool.and_eq_false_iff, Bool.or_eq_true, Bool.or_eq_false_iff] at hb); (try (exfalso; first | omega | exact hb trivial)))) | (apply endS trivial; rotate_left; (· exact eva); (· rfl); try refine ⟨?_, rfl⟩) | fail)
      refine ⟨(i + 1 + 1, ρ.length + 10, j, R ++ [(σ.length + (ρ.length + 13), (g (i + 1)).e), (σ.length + (ρ.length + 14), (g (i + 1)).x), (σ.length + (ρ.length + 15), (g (i + 1)).y)],
          ρ ++ [rowO (g (i + 1)).e, rowO (g (i + 1)).x, rowO (g (i + 1)).y, rowO (g (i + 1)).e, rowO (g (i + 1)).x, rowO (g (i + 1)).y, ⟨[slV (σ.length + (ρ.length + 13)) (g (i + 1)).e.length, slV (σ.length + (ρ.length + 14)) (g (i + 1)).x.length, slV (σ.length + (ρ.length + 15)) (g (i + 1)).y.length], 3, true⟩]),
        by dsimp only; omega, by (simp only [List.cons_append, List.nil_append, ↓fget_cons, push_cast, Nat.reduceEqDiff, reduceIte] <;> rfl), rfl, by dsimp only; omega, fun h => absurd h (by dsimp only; omega), fun _ => ?_, fun X Y => ?_, ?_, fun T hT => ?_, ?_⟩
      · dsimp only
        rw [List.getElem?_append_left (by omega), List.map_append]
        exact (congrArg (fun r : Heap => r[j]?) hρ).trans (List.getElem?_set_self hjl)
      · dsimp only
        rw [hP8, Nat.add_sub_cancel]
        simp only [List.cons_append, List.nil_append, Nat.add_assoc, Nat.reduceAdd, List.getElem?_cons_succ]
        exact ⟨get_end0 _ _ _, get_end _ _ 1, get_end _ _ 2⟩
      · dsimp only; rw [List.map_append, hcon, rowsOf_frames g (i + 1)]; rfl
      · dsimp only
        have h1 : RInv (σ ++ (T ++ ρ)) (σ.length + 10) R := by
          refine (hinv T hT).setOut hbn fun o h0 h1 => ?_
          rw [← List.append_assoc σ T ρ, ← List.append_assoc σ T rub]
          rcases Nat.lt_or_ge o (σ.length + 10) with hl | hl
          · rw [List.getElem?_append_left (l₂ := ρ) (by rw [List.length_append]; omega), List.getElem?_append_left (l₂ := rub) (by rw [List.length_append]; omega)]
          · rw [List.getElem?_append_right (by rw [List.length_append]; omega), List.getElem?_append_right (by rw [List.length_append]; omega), hρ, List.getElem?_set_ne (by rw [List.length_append]; omega)]
        have h2 := (h1.ext [rowO (g (i + 1)).e, rowO (g (i + 1)).x, rowO (g (i + 1)).y]).snoc3 (by simp only [List.length_append, List.length_cons, List.length_nil]; omega) (g (i + 1)) [⟨[slV (σ.length + (ρ.length + 13)) (g (i + 1)).e.length, slV (σ.length + (ρ.length + 14)) (g (i + 1)).x.length, slV (σ.length + (ρ.length + 15)) (g (i + 1)).y.length], 3, true⟩]
        have e1 : (σ ++ (T ++ ρ) ++ [rowO (g (i + 1)).e, rowO (g (i + 1)).x, rowO (g (i + 1)).y]).length = σ.length + (ρ.length + 13) := by simp only [List.length_append, List.length_cons, List.length_nil]; omega
        rw [e1] at h2
        simp only [List.append_assoc, List.cons_append, List.nil_append, Nat.add_assoc, Nat.reduceAdd] at h2 ⊢
        exact h2
      · dsimp only
        rw [List.map_append, List.mem_append]
        rintro (hc | hc)
        · exact hbn hc
        · simp only [List.map_cons, List.map_nil, List.mem_cons, List.not_mem_nil, or_false] at hc
          omega
  · obtain rfl : i = K := by omega
    repeat' (first | refine ff ?_ | ((first | refine EvR.aSplB ?_ ?_ | refine Ev.aSplB ?_ ?_) <;> (intro hb; (try rw [hb]); (try simp only [Bool.not_eq_true', Bool.not_eq_false', Bool.not_eq_eq_eq_not, Bool.not_true, Bool.not_false, decide_eq_true_eq, decide_eq_false_iff_not, Bool.and_eq_true, Bool.and_eq_false_iff, Bool.or_eq_true, Bool.or_eq_false_iff] at hb); (try (exfalso; first | omega | exact hb trivial)))) | (apply endS trivial; rotate_left; (· exact eva); (· rfl); try refine ⟨?_, rfl⟩) | fail)
    rcases Nat.eq_zero_or_pos i with rfl | hpos
    · dsimp only [fvOf]
      apply EvR.aN0
      · exact evc
      repeat' (first | refine ff ?_ | ((first | refine EvR.aSplB ?_ ?_ | refine Ev.aSplB ?_ ?_) <;> (intro hb; (try rw [hb]); (try simp only [Bool.not_eq_true', Bool.not_eq_false', Bool.not_eq_eq_eq_not, Bool.not_true, Bool.not_false, decide_eq_true_eq, decide_eq_false_iff_not, Bool.and_eq_true, Bool.and_eq_false_iff, Bool.or_eq_true, Bool.or_eq_false_iff] at hb); (try (exfalso; first | omega | exact hb trivial)))) | (apply endS trivial; rotate_left; (· exact eva); (· rfl); try refine ⟨?_, rfl⟩) | fail)
      apply endB trivial
      · exact eva
      · exact ⟨fun _ h => (h rfl).elim, fun _ _ => ⟨_, σ.length + 3, σ.length + 4, rfl, rfl, filmN_of (hget _ _ 3) (hget _ _ 4) (by omega) (by omega)⟩, fun h => (by cases h)⟩
    · obtain ⟨i, rfl⟩ : ∃ i', i = i' + 1 := ⟨i - 1, by omega⟩
      dsimp only [fvOf]
      apply EvR.aN0
      · exact evc
      repeat' (first | refine ff ?_ | ((first | refine EvR.aSplB ?_ ?_ | refine Ev.aSplB ?_ ?_) <;> (intro hb; (try rw [hb]); (try simp only [Bool.not_eq_true', Bool.not_eq_false', Bool.not_eq_eq_eq_not, Bool.not_true, Bool.not_false, decide_eq_true_eq, decide_eq_false_iff_not, Bool.and_eq_true, Bool.and_eq_false_iff, Bool.or_eq_true, Bool.or_eq_false_iff] at hb); (try (exfalso; first | omega | exact hb trivial)))) | (apply endS trivial; rotate_left; (· exact eva); (· rfl); try refine ⟨?_, rfl⟩) | fail)
      apply endB trivial
      · exact eva
      · refine ⟨fun _ _ => ⟨_, σ.length + 3, σ.length + 4, σ.length + (j + 10), R, rfl, by rw [framesF_len], filmO_of (lo2 := σ.length + 10) ⟨by rw [hget]; exact hj (by omega), hinv [_, _, _, _, _, _, _, _, _, _] rfl, hcon, by omega, hbn⟩ (hget _ _ 3) (hget _ _ 4) (by omega) (by omega) (by omega)⟩, fun _ h => absurd (framesF_nil.1 h) (by omega), fun h => (by cases h)⟩
end Go.Abs

