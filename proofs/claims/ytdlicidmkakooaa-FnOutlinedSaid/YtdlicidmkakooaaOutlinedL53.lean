/- Laws of functions: a field that runs, by the program. Conditions: the laws of what they call. -/
import Derived.Test.YtdlicidmkakooaaOutlinedL52
import Derived.Test.YtdlicidmkakooaaOutlinedL27
namespace Go.Abs

set_option linter.unusedSimpArgs false
set_option linter.unusedVariables false
set_option maxHeartbeats 8000000
set_option maxRecDepth 20000
/- loop.example/g01201/impl.run -/
def impl_run_r0 : List SOper := [
 ⟨some 4, none, .box (.tmp 0), 0⟩,
 ⟨some 5, none, .box (.tmp 1), 0⟩,
 ⟨some 8, none, .alloc [(.slice none 0 0), (.slice none 0 0), (.slice none 0 0)], 0⟩,
 ⟨some 9, none, .mov (.const (.bool false)), 0⟩]
def impl_run_r1 (i_impl_IsField i_impl_within : FuncId) : List SOper := [
 ⟨some 11, none, .loadN 5 (.tmp 4), 0⟩,
 ⟨some 12, none, .loadN 3 (.tmp 5), 0⟩,
 ⟨some 13, none, .call (.func i_impl_IsField) [(.tmp 11), (.tmp 12)], 3⟩,
 ⟨some 14, none, .un .not (.tmp 13), 7⟩,
 ⟨some 15, none, .mov (.tmp 14), 15⟩,
  ⟨(some 16), (some (15, false)), .mov (.tmp 2), 31⟩,
  ⟨(some 17), (some (15, false)), .call (.func i_impl_within) [(.tmp 16), (.const (.int .i64 0)), (.const (.int .i64 64))], 63⟩,
  ⟨(some 18), (some (15, false)), .un .not (.tmp 17), 127⟩,
 ⟨some 19, none, .pick (.tmp 15) (.const (.bool true)) (.tmp 18), 255⟩]
def impl_run_r2 : List SOper := [
 ⟨some 20, none, .build [(.slice none 0 0), (.slice none 0 0), (.slice none 0 0)] [], 0⟩,
 ⟨none, none, .store 3 (.tmp 8) (.tmp 20), 1⟩,
 ⟨some 9, none, .mov (.const (.bool false)), 3⟩]
def impl_run_r3 (i_impl_copyField : FuncId) : List SOper := [
 ⟨some 21, none, .loadN 3 (.tmp 5), 0⟩,
 ⟨some 22, none, .call (.func i_impl_copyField) [(.tmp 21)], 1⟩,
 ⟨some 10, none, .alloc [(.slice none 0 0), (.slice none 0 0), (.slice none 0 0)], 0⟩,
 ⟨none, none, .store 3 (.tmp 10) (.tmp 22), 7⟩]
def impl_run_r4 : List SOper := [
 ⟨some 23, none, .mov (.tmp 2), 0⟩,
 ⟨some 24, none, .mov (.const (.int .i64 0)), 0⟩]
def impl_run_r5 : List SOper := [
 ⟨some 25, none, .bin .lss .other (.tmp 24) (.tmp 23), 0⟩]
def impl_run_r6 (i_impl_stepped : FuncId) : List SOper := [
 ⟨some 26, none, .loadN 5 (.tmp 4), 0⟩,
 ⟨some 27, none, .loadN 3 (.tmp 10), 0⟩,
 ⟨some 28, none, .call (.func i_impl_stepped) [(.tmp 26), (.tmp 27)], 3⟩,
 ⟨none, none, .store 3 (.tmp 10) (.tmp 28), 7⟩]
def impl_run_r7 : List SOper := [
 ⟨some 29, none, .mov (.tmp 3), 0⟩,
 ⟨some 30, none, .loadN 3 (.tmp 10), 0⟩,
 ⟨some 31, none, .call (.tmp 29) [(.tmp 30)], 3⟩]
def impl_run_r8 : List SOper := [
 ⟨some 32, none, .bin .add .other (.tmp 24) (.const (.int .i64 1)), 0⟩,
 ⟨some 24, none, .mov (.tmp 32), 1⟩]
def impl_run_l9 (i_impl_stepped : FuncId) : SCode := (.kp [3,4,8,10,23,24] (.seq (.region impl_run_r5 false) (.kp [3,4,8,10,23,24,25] (.seq (.cond (.tmp 25) .skip (.exit 0)) (.kp [3,4,8,10,23,24] (.seq (.block 1 (.seq (.region (impl_run_r6 i_impl_stepped) false) (.kp [3,4,8,10,23,24] (.region impl_run_r7 false)))) (.kp [3,4,8,10,23,24] (.region impl_run_r8 false))))))))
def impl_run_r10 : List SOper := [
 ⟨some 33, none, .loadN 3 (.tmp 10), 0⟩,
 ⟨none, none, .store 3 (.tmp 8) (.tmp 33), 1⟩,
 ⟨some 9, none, .mov (.const (.bool true)), 3⟩]
def impl_run (i_impl_IsField i_impl_within i_impl_copyField i_impl_stepped : FuncId) : SFunc := ⟨34, [.cellN 8 3, .tmp 9], (.kp [0,1,2,3] (.seq (.region impl_run_r0 false) (.kp [2,3,4,5,8] (.seq (.seq (.region (impl_run_r1 i_impl_IsField i_impl_within) false) (.kp [2,3,4,5,8,19] (.cond (.tmp 19) (.seq (.region impl_run_r2 false) .ret) .skip))) (.kp [2,3,4,5,8] (.seq (.region (impl_run_r3 i_impl_copyField) false) (.kp [2,3,4,8,10] (.seq (.seq (.region impl_run_r4 false) (.kp [3,4,8,10,23,24] (.block 0 (.loop (impl_run_l9 i_impl_stepped))))) (.kp [8,10] (.seq (.region impl_run_r10 false) .ret))))))))))⟩

/- loop.example/g01201/impl.RunField -/
def impl_RunField_r0 : List SOper := [
 ⟨some 3, none, .box (.tmp 0), 0⟩,
 ⟨some 4, none, .box (.tmp 1), 0⟩,
 ⟨some 6, none, .alloc [(.slice none 0 0), (.slice none 0 0), (.slice none 0 0)], 0⟩,
 ⟨some 7, none, .mov (.const (.bool false)), 0⟩]
def impl_RunField_r1 (i_impl_run i_impl_RunFieldC1 : FuncId) : List SOper := [
 ⟨some 8, none, .loadN 5 (.tmp 3), 0⟩,
 ⟨some 9, none, .loadN 3 (.tmp 4), 0⟩,
 ⟨some 10, none, .mov (.tmp 2), 0⟩,
 ⟨some 11, none, .call (.func i_impl_run) [(.tmp 8), (.tmp 9), (.tmp 10), (.func i_impl_RunFieldC1)], 7⟩,
 ⟨some 12, none, .extract (.tmp 11) 0, 15⟩,
 ⟨some 13, none, .extract (.tmp 11) 1, 15⟩,
 ⟨none, none, .store 3 (.tmp 6) (.tmp 12), 63⟩,
 ⟨some 7, none, .mov (.tmp 13), 127⟩]
def impl_RunField (i_impl_run i_impl_RunFieldC1 : FuncId) : SFunc := ⟨14, [.cellN 6 3, .tmp 7], (.kp [0,1,2] (.seq (.region impl_RunField_r0 false) (.kp [2,3,4,6] (.seq (.region (impl_RunField_r1 i_impl_run i_impl_RunFieldC1) false) .ret))))⟩

/- loop.example/g01201/impl.RunField$1 -/
def impl_RunFieldC1_r0 : List SOper := [
 ⟨some 1, none, .box (.tmp 0), 0⟩]
def impl_RunFieldC1 : SFunc := ⟨2, [], (.kp [0] (.region impl_RunFieldC1_r0 false))⟩


def rfOk (w h : Int) (wr : Bool) (sp lo e x y : List Nat) (n : Int) : Bool := isField w h wr sp lo e x y && inR n 0 64
abbrev rfF (w h : Int) (wr : Bool) (sp lo e x y : List Nat) (n : Int) : Fld := runF w.toNat h.toNat wr sp lo n.toNat ⟨e, x, y⟩
def RunField_ok (c : Contract) : Prop := ∀ (σ : Heap) (w h : Int) (wr : Bool) (sv lv : Value) (sp lo : List Nat) (ev xv yv : Value) (e x y : List Nat) (n : Int), ShR σ sv lv sp lo → sp.length ≤ 1048576 → lo.length ≤ 1048576 → FlR σ ev xv yv e x y → e.length ≤ 1048576 → x.length ≤ 1048576 → y.length ≤ 1048576 →
    Ret c [shV w h wr sv lv, fV ev xv yv, .int .i64 n] σ fun v σ' => v = flRes (rfOk w h wr sp lo e x y n) σ.length (rfF w h wr sp lo e x y n).e (rfF w h wr sp lo e x y n).x (rfF w h wr sp lo e x y n).y ∧
      σ' = σ ++ flRows (rfOk w h wr sp lo e x y n) (rfF w h wr sp lo e x y n).e (rfF w h wr sp lo e x y n).x (rfF w h wr sp lo e x y n).y
abbrev impl_RunField_ok := RunField_ok
def tell_ok (c : Contract) (capt : List Value) : Prop := ∀ (σ : Heap) (ev xv yv : Value), cellOk ev = true → cellOk xv = true → cellOk yv = true → Ret c (fV ev xv yv :: capt) σ fun v σ' => v = .tuple #[] ∧ σ' = σ
def impl_run_ok (k : FuncId) (ck : Contract) (c : Contract) : Prop := ∀ (σ : Heap) (w h : Int) (wr : Bool) (sv lv : Value) (sp lo : List Nat) (ev xv yv : Value) (e x y : List Nat) (n : Int) (capt : Array Value), ShR σ sv lv sp lo → sp.length ≤ 1048576 → lo.length ≤ 1048576 → FlR σ ev xv yv e x y → e.length ≤ 1048576 → x.length ≤ 1048576 → y.length ≤ 1048576 →
    tell_ok ck capt.toList →
    Ret c [shV w h wr sv lv, fV ev xv yv, .int .i64 n, .func (.func k) #[] capt] σ fun v σ' => v = flRes (rfOk w h wr sp lo e x y n) σ.length (rfF w h wr sp lo e x y n).e (rfF w h wr sp lo e x y n).x (rfF w h wr sp lo e x y n).y ∧
      σ' = σ ++ flRows (rfOk w h wr sp lo e x y n) (rfF w h wr sp lo e x y n).e (rfF w h wr sp lo e x y n).x (rfF w h wr sp lo e x y n).y
theorem impl_run_law {C : Ctab} {i1 i2 i3 i4 k : FuncId} {c1 c2 c3 c4 ck : Contract} (h1 : Has C i1 c1 impl_IsField_ok) (h2 : Has C i2 c2 impl_within_ok) (h3 : Has C i3 c3 impl_copyField_ok) (h4 : Has C i4 c4 impl_stepped_ok) (hk : C k = some ck) :
    impl_run_ok k ck (gcC C (impl_run i1 i2 i3 i4) true) := by
  intro σ w h wr sv lv sp lo ev xv yv e x y n capt ⟨r1, r2⟩ n1 n2 ⟨r3, r4, r5⟩ m1 m2 m3 htell
  have k1 := r1.ok
  have k2 := r2.ok
  cases hFi : isField w h wr sp lo e x y
  · rw [show rfOk w h wr sp lo e x y n = false from by unfold rfOk; rw [hFi]; rfl, flRes_f, flRows_f]
    refine ret_gc rfl rfl ?_
    repeat' (first | refine ff ?_ | (apply EvR.aCall h1.at_; (· exact eva); (· apply h1.ok <;> exact sid); (rintro _ _ ⟨rfl, rfl⟩; refine EvR.nrm ?_; try simp only [hFi])) | (apply EvR.aCall h2.at_; (· exact eva); (· apply h2.ok <;> exact sid); (rintro _ _ ⟨rfl, rfl⟩; refine EvR.nrm ?_; try simp only [hFi])) | ((first | refine sR ?_ ?_ | refine sC ?_ ?_) <;> (intro hb; (try rw [hb]); (try simp only [bb] at hb); (try (exfalso; first | omega | exact hb trivial)))) | (apply endS trivial; rotate_left; (· exact eva); (· rfl); try refine ⟨?_, rfl⟩) | fail)
    all_goals simp
  cases hR : inR n 0 64
  · rw [show rfOk w h wr sp lo e x y n = false from by unfold rfOk; rw [hR]; simp, flRes_f, flRows_f]
    refine ret_gc rfl rfl ?_
    repeat' (first | refine ff ?_ | (apply EvR.aCall h1.at_; (· exact eva); (· apply h1.ok <;> exact sid); (rintro _ _ ⟨rfl, rfl⟩; refine EvR.nrm ?_; try simp only [hFi, hR])) | (apply EvR.aCall h2.at_; (· exact eva); (· apply h2.ok <;> exact sid); (rintro _ _ ⟨rfl, rfl⟩; refine EvR.nrm ?_; try simp only [hFi, hR])) | ((first | refine sR ?_ ?_ | refine sC ?_ ?_) <;> (intro hb; (try rw [hb]); (try simp only [bb] at hb); (try (exfalso; first | omega | exact hb trivial)))) | (apply endS trivial; rotate_left; (· exact eva); (· rfl); try refine ⟨?_, rfl⟩) | fail)
    all_goals simp
  rw [show rfOk w h wr sp lo e x y n = true from by unfold rfOk; rw [hFi, hR]; rfl, flRes_t, flRows_t]
  obtain ⟨hs, t1, t2, t3⟩ := isField_len hFi
  obtain ⟨a1, a2, a3, a4, q1, q2⟩ := isSheet_sides hs
  obtain ⟨W, rfl⟩ := Int.eq_ofNat_of_zero_le (show 0 ≤ w by omega)
  obtain ⟨H, rfl⟩ := Int.eq_ofNat_of_zero_le (show 0 ≤ h by omega)
  have hn := inR_true hR
  obtain ⟨M, rfl⟩ := Int.eq_ofNat_of_zero_le (show 0 ≤ n by omega)
  have hWH : ((W * H : Nat) : Int) = (W : Int) * (H : Int) := Int.natCast_mul _ _
  obtain ⟨N, hN⟩ : ∃ N, W * H = N := ⟨_, rfl⟩
  have hN2 : W * H ≤ 256 := Nat.mul_le_mul (show W ≤ 16 by omega) (show H ≤ 16 by omega)
  obtain ⟨f, hf⟩ : ∃ f : Nat → Fld, f = fun k => runF W H wr sp lo k ⟨e, x, y⟩ := ⟨_, rfl⟩
  have f0 : f 0 = ⟨e, x, y⟩ := by rw [hf]; rfl
  have fS : ∀ k, f (k + 1) = stepF W H wr sp lo (f k) := fun k => by rw [hf]; rfl
  have fl : ∀ k, lenF N (f k) := fun k => by rw [hf]; exact runF_len (f := ⟨e, x, y⟩) ⟨by dsimp only; omega, by dsimp only; omega, by dsimp only; omega⟩ k
  have fM : rfF W H wr sp lo e x y M = f M := by rw [hf]; rfl
  rw [fM]
  obtain ⟨z1, z2, z3⟩ := fl M
  rw [z1, z2, z3]
  refine ret_gc rfl rfl ?_
  repeat' (first | refine ff ?_ | (apply EvR.aCall h1.at_; (· exact eva); (· apply h1.ok <;> exact sid); (rintro _ _ ⟨rfl, rfl⟩; refine EvR.nrm ?_; try simp only [hFi, hR])) | (apply EvR.aCall h2.at_; (· exact eva); (· apply h2.ok <;> exact sid); (rintro _ _ ⟨rfl, rfl⟩; refine EvR.nrm ?_; try simp only [hFi, hR])) | (apply EvR.aCall h3.at_; (· exact eva); (· apply h3.ok <;> exact sid); (rintro _ _ ⟨rfl, rfl⟩; refine EvR.nrm ?_; try simp only [hFi, hR])) | ((first | refine sR ?_ ?_ | refine sC ?_ ?_) <;> (intro hb; (try rw [hb]); (try simp only [bb] at hb); (try (exfalso; first | omega | exact hb trivial)))) | (apply endS trivial; rotate_left; (· exact eva); (· rfl); try refine ⟨?_, rfl⟩) | fail)
  rw [show e.length = N from by omega, show x.length = N from by omega, show y.length = N from by omega]
  refine Ev.whlH (S := Nat × Nat × Heap) (fun st => M - st.1) (fun st => [(24, .int .i64 st.1)])
    (fun st => σ ++ (⟨[.int .i64 W, .int .i64 H, .bool wr, sv, lv], 0, true⟩ :: ⟨[ev, xv, yv], 0, true⟩ :: ⟨[.slice none 0 0, .slice none 0 0, .slice none 0 0], 0, true⟩ :: rowO e :: rowO x :: rowO y :: ⟨[slV (σ.length + st.2.1) N, slV (σ.length + (st.2.1 + 1)) N, slV (σ.length + (st.2.1 + 2)) N], 0, true⟩ :: st.2.2))
    (fun st => st.1 ≤ M ∧ ∃ l, l = (⟨[.int .i64 W, .int .i64 H, .bool wr, sv, lv], 0, true⟩ :: ⟨[ev, xv, yv], 0, true⟩ :: ⟨[.slice none 0 0, .slice none 0 0, .slice none 0 0], 0, true⟩ :: rowO e :: rowO x :: rowO y :: ⟨[slV (σ.length + st.2.1) N, slV (σ.length + (st.2.1 + 1)) N, slV (σ.length + (st.2.1 + 2)) N], 0, true⟩ :: st.2.2 : Heap) ∧
      l[st.2.1]? = some (rowO (f st.1).e) ∧ l[st.2.1 + 1]? = some (rowO (f st.1).x) ∧ l[st.2.1 + 2]? = some (rowO (f st.1).y)) (0, 3, []) (by exact tF) rfl ⟨Nat.zero_le _, _, rfl, by rw [f0]; rfl, by rw [f0]; rfl, by rw [f0]; rfl⟩ ?_
  rintro ⟨i, q, rub⟩ F hF ⟨hi, l, hl, b1, b2, b3⟩
  dsimp only at hi hF hl b1 b2 b3 ⊢
  (simp only [List.cons_append, List.nil_append, ↓fget_cons, fkeep_cons, fkeep_nil, Nat.reduceEqDiff, reduceIte] at hF; subst hF)
  obtain ⟨u1, u2, u3⟩ := fl i
  have g1 : Row (σ ++ l) 1 (slV (σ.length + q) N) (f i).e.length (f32s (f i).e) := by rw [← u1]; exact Row.own b1 (by omega) (by rw [f32s_length]; omega)
  have g2 : Row (σ ++ l) 1 (slV (σ.length + (q + 1)) N) (f i).x.length (f32s (f i).x) := by rw [← u2]; exact Row.own b2 (by omega) (by rw [f32s_length]; omega)
  have g3 : Row (σ ++ l) 1 (slV (σ.length + (q + 2)) N) (f i).y.length (f32s (f i).y) := by rw [← u3]; exact Row.own b3 (by omega) (by rw [f32s_length]; omega)
  by_cases hlt : i < M
  · repeat' (first | refine ff ?_ | ((first | refine sR ?_ ?_ | refine sC ?_ ?_) <;> (intro hb; (try rw [hb]); (try simp only [bb] at hb); (try (exfalso; first | omega | exact hb trivial)))) | (apply endS trivial; rotate_left; (· exact eva); (· rfl); try refine ⟨?_, rfl⟩) | fail)
    rw [← hl]
    (apply EvR.aCall h4.at_; (· exact eva); (· exact  h4.ok _ W H wr sv lv (slV (σ.length + q) N) (slV (σ.length + (q + 1)) N) (slV (σ.length + (q + 2)) N) N sp lo (f i).e (f i).x (f i).y ⟨r1.ext _, r2.ext _⟩ ⟨g1, g2, g3⟩ (by omega) (by omega) (by omega) (by omega) hN (by omega) (by omega) u1 u2 u3); (rintro _ _ ⟨rfl, rfl⟩; refine EvR.nrm ?_))
    rw [hl]
    refine EvR.nrm ?_
    repeat' (first | refine ff ?_ | ((first | refine sR ?_ ?_ | refine sC ?_ ?_) <;> (intro hb; (try rw [hb]); (try simp only [bb] at hb); (try (exfalso; first | omega | exact hb trivial)))) | (apply endS trivial; rotate_left; (· exact eva); (· rfl); try refine ⟨?_, rfl⟩) | fail)
    (apply EvR.aDyn hk; (· exact rfl); (· exact eva); (· exact  htell _ _ _ _ rfl rfl rfl); (rintro _ _ ⟨rfl, rfl⟩; refine EvR.nrm ?_))
    repeat' (first | refine ff ?_ | ((first | refine sR ?_ ?_ | refine sC ?_ ?_) <;> (intro hb; (try rw [hb]); (try simp only [bb] at hb); (try (exfalso; first | omega | exact hb trivial)))) | (apply endS trivial; rotate_left; (· exact eva); (· rfl); try refine ⟨?_, rfl⟩) | fail)
    refine ⟨(i + 1, rub.length + 7, rub ++ [rowO (f (i + 1)).e, rowO (f (i + 1)).x, rowO (f (i + 1)).y]), by dsimp only; omega, by exact tF, by rw [fS]; rfl, by dsimp only; omega, _, rfl, ?_, ?_, ?_⟩
    · dsimp only; simp only [List.getElem?_cons_succ]; exact get_end0 _ _ _
    · dsimp only; simp only [List.getElem?_cons_succ]; exact get_end _ _ 1
    · dsimp only; simp only [List.getElem?_cons_succ]; exact get_end _ _ 2
  · obtain rfl : i = M := by omega
    repeat' (first | refine ff ?_ | ((first | refine sR ?_ ?_ | refine sC ?_ ?_) <;> (intro hb; (try rw [hb]); (try simp only [bb] at hb); (try (exfalso; first | omega | exact hb trivial)))) | (apply endS trivial; rotate_left; (· exact eva); (· rfl); try refine ⟨?_, rfl⟩) | fail)
    have ne : ∀ (o : Nat) (xs : List Nat), l[o]? = some (rowO xs) → (l.set 2 ⟨[slV (σ.length + q) N, slV (σ.length + (q + 1)) N, slV (σ.length + (q + 2)) N], 0, true⟩)[o]? = some (rowO xs) := by
      intro o xs ho
      rw [List.getElem?_set_ne]
      · exact ho
      · rintro rfl
        rw [hl] at ho
        have h01 : some 0 = some 1 := congrArg (Option.map AObj.esz) ho
        cases h01
    have c1 := ne _ _ b1
    have c2 := ne _ _ b2
    have c3 := ne _ _ b3
    rw [hl] at c1 c2 c3
    apply endR [q, q + 1, q + 2] trivial ⟨rfl, rfl⟩
    · exact eva
    · simp [gcTop, gcVal, gcLeaf, gcLeaves, gcVals, constOk, gc_lt, gc_lt0]
    · exact congr (congrArg List.cons c1) (congr (congrArg List.cons c2) (congr (congrArg List.cons c3) rfl))
    · simp
    · simp [allConst, f32s, constOk]
theorem impl_RunFieldC1_law {C : Ctab} : tell_ok (gcC C impl_RunFieldC1 true) [] := by
  intro σ ev xv yv k1 k2 k3
  refine ret_gc rfl rfl ?_
  repeat' (first | refine ff ?_ | ((first | refine sR ?_ ?_ | refine sC ?_ ?_) <;> (intro hb; (try rw [hb]); (try simp only [bb] at hb); (try (exfalso; first | omega | exact hb trivial)))) | (apply endS trivial; rotate_left; (· exact eva); (· rfl); try refine ⟨?_, rfl⟩) | fail)
  simp
abbrev impl_RunFieldC1_ok (c : Contract) : Prop := tell_ok c []
theorem impl_RunField_law {C : Ctab} {i1 i2 : FuncId} {c1 c2 : Contract} (h1 : Has C i1 c1 (impl_run_ok i2 c2)) (h2 : impl_RunFieldC1_ok c2) : impl_RunField_ok (gcC C (impl_RunField i1 i2) true) := by
  intro σ w h wr sv lv sp lo ev xv yv e x y n ⟨r1, r2⟩ n1 n2 ⟨r3, r4, r5⟩ m1 m2 m3
  have hrun := fun τ => h1.ok (σ ++ τ) w h wr sv lv sp lo ev xv yv e x y n #[] ⟨r1.ext _, r2.ext _⟩ n1 n2 ⟨r3.ext _, r4.ext _, r5.ext _⟩ m1 m2 m3 h2
  obtain ⟨f, hf⟩ : ∃ f, f = rfF w h wr sp lo e x y n := ⟨_, rfl⟩
  rw [← hf] at hrun ⊢
  cases hR : rfOk w h wr sp lo e x y n
  · rw [flRes_f, flRows_f]
    refine ret_gc rfl rfl ?_
    repeat' (first | refine ff ?_ | ((first | refine sR ?_ ?_ | refine sC ?_ ?_) <;> (intro hb; (try rw [hb]); (try simp only [bb] at hb); (try (exfalso; first | omega | exact hb trivial)))) | (apply endS trivial; rotate_left; (· exact eva); (· rfl); try refine ⟨?_, rfl⟩) | fail)
    (apply EvR.aCall h1.at_; (· exact eva); (· exact  hrun _); (rintro _ _ ⟨rfl, rfl⟩; refine EvR.nrm ?_))
    rw [hR, flRes_f, flRows_f]
    repeat' (first | refine ff ?_ | ((first | refine sR ?_ ?_ | refine sC ?_ ?_) <;> (intro hb; (try rw [hb]); (try simp only [bb] at hb); (try (exfalso; first | omega | exact hb trivial)))) | (apply endS trivial; rotate_left; (· exact eva); (· rfl); try refine ⟨?_, rfl⟩) | fail)
    all_goals simp
  · rw [flRes_t, flRows_t]
    refine ret_gc rfl rfl ?_
    repeat' (first | refine ff ?_ | ((first | refine sR ?_ ?_ | refine sC ?_ ?_) <;> (intro hb; (try rw [hb]); (try simp only [bb] at hb); (try (exfalso; first | omega | exact hb trivial)))) | (apply endS trivial; rotate_left; (· exact eva); (· rfl); try refine ⟨?_, rfl⟩) | fail)
    (apply EvR.aCall h1.at_; (· exact eva); (· exact  hrun _); (rintro _ _ ⟨rfl, rfl⟩; refine EvR.nrm ?_))
    rw [hR, flRes_t, flRows_t]
    refine EvR.nrm ?_
    repeat' (first | refine ff ?_ | ((first | refine sR ?_ ?_ | refine sC ?_ ?_) <;> (intro hb; (try rw [hb]); (try simp only [bb] at hb); (try (exfalso; first | omega | exact hb trivial)))) | (apply endS trivial; rotate_left; (· exact eva); (· rfl); try refine ⟨?_, rfl⟩) | fail)
    (apply endR [3, 4, 5] trivial ⟨rfl, rfl⟩; (· exact eva); (· simp [gcTop, gcVal, gcLeaf, gcLeaves, gcVals, constOk, gc_lt, gc_lt0]); (· rfl); (· decide); (· simp [allConst, f32s, i64s, b8s, bools, constOk]))
end Go.Abs

