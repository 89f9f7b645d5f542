/- Laws of functions: the field of a wave that travels, by the program. Conditions: the laws of what it calls. -/
import Derived.Test.YtdlicidmkakooaaExactTravelFieldL140
import Derived.Test.YtdlicidmkakooaaExactTravelFieldL92
namespace Go.Abs

set_option linter.unusedSimpArgs false
set_option linter.unusedVariables false
set_option maxHeartbeats 8000000
set_option maxRecDepth 100000

theorem travel_old {σ : Heap} {k1 k2 k3 : Nat} {x y z : List Nat} : ∀ o, o < σ.length → (((σ.set k1 (rowO x)).set k2 (rowO y)).set k3 (rowO z))[o]? = σ[o]? ∨ ∀ obj, (((σ.set k1 (rowO x)).set k2 (rowO y)).set k3 (rowO z))[o]? = some obj → allConst obj = true :=
  old_set (old_set (old_set fun o _ => .inl rfl))
theorem impl_TravelField_law {C : Ctab} {i1 i2 i3 i4 i5 i6 i7 i8 i9 i10 i11 : FuncId} {c1 c2 c3 c4 c5 c6 c7 c8 c9 c10 c11 : Contract} (h1 : Has C i1 c1 impl_ValidSheet_ok) (h2 : Has C i2 c2 impl_isPlain_ok) (h3 : Has C i3 c3 impl_areOrders_ok) (h4 : Has C i4 c4 impl_IsFinite_ok) (h5 : Has C i5 c5 impl_quotient_ok) (h6 : Has C i6 c6 impl_travelTurns_ok) (h7 : Has C i7 c7 impl_SineTurns_ok) (h8 : impl_TravelFieldC1_ok c8) (h9 : Has C i9 c9 impl_zeroField_ok) (h10 : impl_TravelFieldC2_ok i8 c10) (h11 : HasW C i11 c11 (impl_Sheet_each_ok i10 c10)) :
    impl_TravelField_ok (gcC C (impl_TravelField i1 i2 i3 i4 i5 i6 i7 i8 i9 i10 i11) true) := by
  intro σ w h wr sv lv sp lo m n s t ⟨r1, r2⟩ hn1 hn2 hs hl
  have k1 := r1.ok
  have k2 := r2.ok
  cases hS : isSheet w h sp lo
  · have hO : tvOk w h wr sp lo m n s t = false := by unfold tvOk tvA; rw [hS]; rfl
    rw [hO, flRes_f, flRows_f]
    refine ret_gc rfl rfl ?_
    repeat' (first | refine ff ?_ | (apply EvR.aCall h1.at_; (· exact eva); (· apply h1.ok <;> exact sid); (rintro _ _ ⟨rfl, rfl⟩; refine EvR.nrm ?_; try simp only [hS])) | ((first | refine sR ?_ ?_ | refine sC ?_ ?_) <;> (intro hb; (try rw [hb]); (try simp only [bb] at hb); (try (exfalso; first | omega | exact hb trivial)))) | (apply endS trivial; rotate_left; (· exact eva); (· rfl); try refine ⟨?_, rfl⟩) | fail)
    simp
  cases wr
  · have hO : tvOk w h false sp lo m n s t = false := by unfold tvOk tvA; rw [Bool.and_false]; rfl
    rw [hO, flRes_f, flRows_f]
    refine ret_gc rfl rfl ?_
    repeat' (first | refine ff ?_ | (apply EvR.aCall h1.at_; (· exact eva); (· apply h1.ok <;> exact sid); (rintro _ _ ⟨rfl, rfl⟩; refine EvR.nrm ?_; try simp only [hS])) | ((first | refine sR ?_ ?_ | refine sC ?_ ?_) <;> (intro hb; (try rw [hb]); (try simp only [bb] at hb); (try (exfalso; first | omega | exact hb trivial)))) | (apply endS trivial; rotate_left; (· exact eva); (· rfl); try refine ⟨?_, rfl⟩) | fail)
    simp
  obtain ⟨a1, a2, a3, a4, q1, q2⟩ := isSheet_sides hS
  obtain ⟨W, rfl⟩ := Int.eq_ofNat_of_zero_le (show 0 ≤ w by omega)
  obtain ⟨Hh, rfl⟩ := Int.eq_ofNat_of_zero_le (show 0 ≤ h by omega)
  have hWH : ((W * Hh : Nat) : Int) = (W : Int) * (Hh : Int) := Int.natCast_mul _ _
  have hN2 : W * Hh ≤ 256 := Nat.mul_le_mul (show W ≤ 16 by omega) (show Hh ≤ 16 by omega)
  have hN3 : 9 ≤ W * Hh := Nat.mul_le_mul (show 3 ≤ W by omega) (show 3 ≤ Hh by omega)
  have hl1 : sp.length = W * Hh := by omega
  have hl2 : lo.length = W * Hh := by omega
  have hz0 : 0 < sp.length := by omega
  have hz1 : sp.length ≤ lo.length := by omega
  cases hA : plainB sp lo && ordB m n && finB s && finB t
  · have hO : tvOk W Hh true sp lo m n s t = false := by
      unfold tvOk tvA; rw [hS, Bool.and_self, Bool.true_and, hA]; rfl
    rw [hO, flRes_f, flRows_f]
    refine ret_gc rfl rfl ?_
    repeat' (first | refine ff ?_ | (apply EvR.aCall h1.at_; (· exact eva); (· apply h1.ok <;> exact sid); (rintro _ _ ⟨rfl, rfl⟩; refine EvR.nrm ?_; try simp only [hS])) | (apply EvR.aCall h2.at_; (· exact eva); (· apply h2.ok <;> exact sid); (rintro _ _ ⟨rfl, rfl⟩; refine EvR.nrm ?_; try simp only [hS])) | (apply EvR.aCall h3.at_; (· exact eva); (· apply h3.ok <;> exact sid); (rintro _ _ ⟨rfl, rfl⟩; refine EvR.nrm ?_; try simp only [hS])) | (apply EvR.aCall h4.at_; (· exact eva); (· apply h4.ok <;> exact sid); (rintro _ _ ⟨rfl, rfl⟩; refine EvR.nrm ?_; try simp only [hS])) | ((first | refine sR ?_ ?_ | refine sC ?_ ?_) <;> (intro hb; (try rw [hb]); (try simp only [bb] at hb); (try (exfalso; first | omega | exact hb trivial)))) | (apply endS trivial; rotate_left; (· exact eva); (· rfl); try refine ⟨?_, rfl⟩) | fail)
    all_goals (first | (simp; done) | (exfalso; simp_all; done))
  · have hA0 := hA
    rw [Bool.and_eq_true, Bool.and_eq_true, Bool.and_eq_true] at hA0
    obtain ⟨⟨⟨g1, g2⟩, g3⟩, g4⟩ := hA0
    have hO : tvOk W Hh true sp lo m n s t = !feq .f32 (sinT (halfT W Hh m n (sp.getD 0 0))) 0 := by
      unfold tvOk tvA; rw [hS, Bool.and_self, Bool.true_and, hA, Bool.true_and]
    obtain ⟨a, ha⟩ : ∃ a, quot32 m W = a := ⟨_, rfl⟩
    obtain ⟨b, hbq⟩ : ∃ b, quot32 n Hh = b := ⟨_, rfl⟩
    obtain ⟨f, hf⟩ : ∃ f, travT W Hh m n (sp.getD 0 0) = f := ⟨_, rfl⟩
    unfold tvE tvX tvY tvG halfT
    unfold halfT at hO
    rw [hO, ha, hbq, hf]
    obtain ⟨r, hr⟩ : ∃ r, partT b s (sinT (fbin .mul .f32 f 1056964608)) = r := ⟨_, rfl⟩
    obtain ⟨q, hq⟩ : ∃ q, partT a s (sinT (fbin .mul .f32 f 1056964608)) = q := ⟨_, rfl⟩
    rw [hr, hq]
    unfold partT at hr hq
    cases hg : feq .f32 (sinT (fbin .mul .f32 f 1056964608)) 0
    · rw [Bool.not_false, flRes_t, flRows_t, hl1, Int.toNat_natCast]
      have d1 := half_eq f
      have d2 := half_eq a
      have d3 := half_eq b
      refine ret_gc rfl rfl ?_
      repeat' (first | refine ff ?_ | (apply EvR.aCall h1.at_; (· exact eva); (· apply h1.ok <;> exact sid); (rintro _ _ ⟨rfl, rfl⟩; refine EvR.nrm ?_; try simp only [hS, g1, g2, g3, g4, ha, hbq, hf, d1, d2, d3, hg])) | (apply EvR.aCall h2.at_; (· exact eva); (· apply h2.ok <;> exact sid); (rintro _ _ ⟨rfl, rfl⟩; refine EvR.nrm ?_; try simp only [hS, g1, g2, g3, g4, ha, hbq, hf, d1, d2, d3, hg])) | (apply EvR.aCall h3.at_; (· exact eva); (· apply h3.ok <;> exact sid); (rintro _ _ ⟨rfl, rfl⟩; refine EvR.nrm ?_; try simp only [hS, g1, g2, g3, g4, ha, hbq, hf, d1, d2, d3, hg])) | (apply EvR.aCall h4.at_; (· exact eva); (· apply h4.ok <;> exact sid); (rintro _ _ ⟨rfl, rfl⟩; refine EvR.nrm ?_; try simp only [hS, g1, g2, g3, g4, ha, hbq, hf, d1, d2, d3, hg])) | (apply EvR.aCall h5.at_; (· exact eva); (· apply h5.ok <;> exact sid); (rintro _ _ ⟨rfl, rfl⟩; refine EvR.nrm ?_; try simp only [hS, g1, g2, g3, g4, ha, hbq, hf, d1, d2, d3, hg])) | (apply EvR.aCall h6.at_; (· exact eva); (· apply h6.ok <;> exact sid); (rintro _ _ ⟨rfl, rfl⟩; refine EvR.nrm ?_; try simp only [hS, g1, g2, g3, g4, ha, hbq, hf, d1, d2, d3, hg])) | (apply EvR.aCall h7.at_; (· exact eva); (· apply h7.ok <;> exact sid); (rintro _ _ ⟨rfl, rfl⟩; refine EvR.nrm ?_; try simp only [hS, g1, g2, g3, g4, ha, hbq, hf, d1, d2, d3, hg])) | ((first | refine sR ?_ ?_ | refine sC ?_ ?_) <;> (intro hb; (try rw [hb]); (try simp only [bb] at hb); (try (exfalso; first | omega | exact hb trivial)))) | (apply endS trivial; rotate_left; (· exact eva); (· rfl); try refine ⟨?_, rfl⟩) | fail)
      · exfalso; simp_all; done
      rw [hr, hq]
      (apply EvR.aCall h9.at_; (· exact eva); (· exact  h9.ok _ W Hh (W * Hh) true sv lv k1 k2 (by omega) (by omega) rfl); (rintro _ _ ⟨rfl, rfl⟩; refine EvR.nrm ?_))
      repeat' (first | refine ff ?_ | ((first | refine sR ?_ ?_ | refine sC ?_ ?_) <;> (intro hb; (try rw [hb]); (try simp only [bb] at hb); (try (exfalso; first | omega | exact hb trivial)))) | (apply endS trivial; rotate_left; (· exact eva); (· rfl); try refine ⟨?_, rfl⟩) | fail)
      obtain ⟨OB, hOB⟩ : ∃ OB : Nat → Heap, ∀ j, OB j = [⟨[.int .i64 W, .int .i64 Hh, .bool true, sv, lv], 0, true⟩, varF s, varF t, ⟨[.slice none 0 0, .slice none 0 0, .slice none 0 0], 0, true⟩, varF a, varF b, varF f, varF r, varF q, ⟨[.func (.func i8) #[] #[.pointer (some ⟨σ.length + 4, 0, none⟩), .pointer (some ⟨σ.length + 5, 0, none⟩), .pointer (some ⟨σ.length + 2, 0, none⟩)]], 0, true⟩, rowO (preG (cellE a b t s W) (W * Hh) j), rowO (preG (cellX a b t (fbin .mul .f32 f 1056964608) r W) (W * Hh) j), rowO (preG (cellY a b t (fbin .mul .f32 f 1056964608) q W) (W * Hh) j), ⟨[slV (σ.length + 10) (W * Hh), slV (σ.length + 11) (W * Hh), slV (σ.length + 12) (W * Hh)], 0, true⟩] := ⟨_, fun _ => rfl⟩
      have hget' : ∀ (j : Nat) (τ : Heap) (m : Nat) (x : AObj), (OB j)[m]? = some x → (σ ++ OB j ++ τ)[σ.length + m]? = some x := by
        intro j τ m x hx
        rw [List.append_assoc, hget, List.getElem?_append_left (List.getElem?_eq_some_iff.1 hx).1]; exact hx
      have hst : ∀ (x y : Nat), x < W → y < Hh → ∀ τ, Ret c10 ([.int .i64 x, .int .i64 y, .int .i64 ((W * y + x : Nat) : Int)] ++ (#[Value.pointer (some ⟨σ.length + 1, 0, none⟩), .pointer (some ⟨σ.length + 9, 0, none⟩), .pointer (some ⟨σ.length + 13, 0, none⟩), .pointer (some ⟨σ.length + 7, 0, none⟩), .pointer (some ⟨σ.length + 6, 0, none⟩), .pointer (some ⟨σ.length + 8, 0, none⟩)] : Array Value).toList) (σ ++ OB (W * y + x) ++ τ) fun _ σ' => σ' = σ ++ OB (W * y + x + 1) ++ τ := by
        intro x y hx hy τ
        have hj := cell_lt hx hy
        refine (h10 (σ ++ OB (W * y + x) ++ τ) (σ.length + 1) (σ.length + 9) (σ.length + 13) (σ.length + 7) (σ.length + 6) (σ.length + 8) (σ.length + 10) (σ.length + 11) (σ.length + 12) a b t s r f q (W * Hh) (W * y + x) x y
          (preG (cellE a b t s W) (W * Hh) (W * y + x)) (preG (cellX a b t (fbin .mul .f32 f 1056964608) r W) (W * Hh) (W * y + x)) (preG (cellY a b t (fbin .mul .f32 f 1056964608) q W) (W * Hh) (W * y + x)) true
          ⟨σ.length + 4, σ.length + 5, σ.length + 2, true, hget' _ _ 9 _ (by rw [hOB]; rfl), hget' _ _ 4 _ (by rw [hOB]; rfl), hget' _ _ 5 _ (by rw [hOB]; rfl), hget' _ _ 2 _ (by rw [hOB]; rfl)⟩
          (hget' _ _ 1 _ (by rw [hOB]; rfl)) (hget' _ _ 13 _ (by rw [hOB]; rfl)) (hget' _ _ 7 _ (by rw [hOB]; rfl)) (hget' _ _ 6 _ (by rw [hOB]; rfl)) (hget' _ _ 8 _ (by rw [hOB]; rfl))
          (hget' _ _ 10 _ (by rw [hOB]; rfl)) (hget' _ _ 11 _ (by rw [hOB]; rfl)) (hget' _ _ 12 _ (by rw [hOB]; rfl)) (by omega) (by omega) (by omega)
          (preG_length (by omega)) (preG_length (by omega)) (preG_length (by omega)) hj (by omega)).mono ?_
        rintro v σ' ⟨_, rfl⟩
        have e1 := preG_set (cellE a b t s W) hj
        have e2 := preG_set (cellX a b t (fbin .mul .f32 f 1056964608) r W) hj
        have e3 := preG_set (cellY a b t (fbin .mul .f32 f 1056964608) q W) hj
        unfold cellE at e1
        unfold cellX at e2
        unfold cellY at e3
        rw [mod_at hx, div_at hx] at e1 e2 e3
        have e1' : (preG (cellE a b t s W) (W * Hh) (W * y + x)).set (W * y + x) (fbin .mul .f32 s (sinT (phaT a b t (nr32 x) (nr32 y)))) = preG (cellE a b t s W) (W * Hh) (W * y + x + 1) := e1
        have e2' : (preG (cellX a b t (fbin .mul .f32 f 1056964608) r W) (W * Hh) (W * y + x)).set (W * y + x) (fbin .mul .f32 r (sinT (fbin .add .f32 (phaT a b t (nr32 x) (nrH y)) (fbin .mul .f32 f 1056964608)))) = preG (cellX a b t (fbin .mul .f32 f 1056964608) r W) (W * Hh) (W * y + x + 1) := e2
        have e3' : (preG (cellY a b t (fbin .mul .f32 f 1056964608) q W) (W * Hh) (W * y + x)).set (W * y + x) (Op.negFloat .f32 (fbin .mul .f32 q (sinT (fbin .add .f32 (phaT a b t (nrH x) (nr32 y)) (fbin .mul .f32 f 1056964608))))) = preG (cellY a b t (fbin .mul .f32 f 1056964608) q W) (W * Hh) (W * y + x + 1) := e3
        rw [e1', e2', e3', List.append_assoc, set_app, set_app, set_app, List.append_assoc, hOB, hOB]
        rfl
      have hcall := h11.ok (σ ++ OB 0) W Hh true sv lv #[Value.pointer (some ⟨σ.length + 1, 0, none⟩), .pointer (some ⟨σ.length + 9, 0, none⟩), .pointer (some ⟨σ.length + 13, 0, none⟩), .pointer (some ⟨σ.length + 7, 0, none⟩), .pointer (some ⟨σ.length + 6, 0, none⟩), .pointer (some ⟨σ.length + 8, 0, none⟩)] (fun j => σ ++ OB j) k1 k2 (by omega) (by omega) (by omega) (by omega) rfl
        (fun j => by rw [hOB, hOB]; simp) (by
          have e : σ ++ OB (W * Hh) = (((σ ++ OB 0).set (σ.length + 10) (rowO (preG (cellE a b t s W) (W * Hh) (W * Hh)))).set (σ.length + 11) (rowO (preG (cellX a b t (fbin .mul .f32 f 1056964608) r W) (W * Hh) (W * Hh)))).set (σ.length + 12) (rowO (preG (cellY a b t (fbin .mul .f32 f 1056964608) q W) (W * Hh) (W * Hh))) := by rw [hOB, hOB, set_app, set_app, set_app]; rfl
          rw [e]
          exact travel_old) (fun x y hx hy τ => hst x y hx hy τ)
      try dsimp only at hcall
      rw [hOB, hOB, preG_zero, preG_zero, preG_zero, preG_end, preG_end, preG_end] at hcall
      (apply EvR.aCall h11.at_; (· exact eva); (· exact  hcall); (rintro _ _ ⟨rfl, rfl⟩; refine EvR.nrm ?_))
      repeat' (first | refine ff ?_ | ((first | refine sR ?_ ?_ | refine sC ?_ ?_) <;> (intro hb; (try rw [hb]); (try simp only [bb] at hb); (try (exfalso; first | omega | exact hb trivial)))) | (apply endS trivial; rotate_left; (· exact eva); (· rfl); try refine ⟨?_, rfl⟩) | fail)
      simp only [List.length_map, List.length_range]
      (apply endR [10, 11, 12] trivial ⟨rfl, rfl⟩; (· exact eva); (· simp [gcTop, gcVal, gcLeaf, gcLeaves, gcVals, constOk, gc_lt, gc_lt0]); (· rfl); (· decide); (· simp [allConst, f32s, i64s, b8s, bools, constOk]))
    · rw [Bool.not_true, flRes_f, flRows_f]
      have d1 := half_eq f
      refine ret_gc rfl rfl ?_
      repeat' (first | refine ff ?_ | (apply EvR.aCall h1.at_; (· exact eva); (· apply h1.ok <;> exact sid); (rintro _ _ ⟨rfl, rfl⟩; refine EvR.nrm ?_; try simp only [hS, g1, g2, g3, g4, ha, hbq, hf, d1, hg])) | (apply EvR.aCall h2.at_; (· exact eva); (· apply h2.ok <;> exact sid); (rintro _ _ ⟨rfl, rfl⟩; refine EvR.nrm ?_; try simp only [hS, g1, g2, g3, g4, ha, hbq, hf, d1, hg])) | (apply EvR.aCall h3.at_; (· exact eva); (· apply h3.ok <;> exact sid); (rintro _ _ ⟨rfl, rfl⟩; refine EvR.nrm ?_; try simp only [hS, g1, g2, g3, g4, ha, hbq, hf, d1, hg])) | (apply EvR.aCall h4.at_; (· exact eva); (· apply h4.ok <;> exact sid); (rintro _ _ ⟨rfl, rfl⟩; refine EvR.nrm ?_; try simp only [hS, g1, g2, g3, g4, ha, hbq, hf, d1, hg])) | (apply EvR.aCall h5.at_; (· exact eva); (· apply h5.ok <;> exact sid); (rintro _ _ ⟨rfl, rfl⟩; refine EvR.nrm ?_; try simp only [hS, g1, g2, g3, g4, ha, hbq, hf, d1, hg])) | (apply EvR.aCall h6.at_; (· exact eva); (· apply h6.ok <;> exact sid); (rintro _ _ ⟨rfl, rfl⟩; refine EvR.nrm ?_; try simp only [hS, g1, g2, g3, g4, ha, hbq, hf, d1, hg])) | (apply EvR.aCall h7.at_; (· exact eva); (· apply h7.ok <;> exact sid); (rintro _ _ ⟨rfl, rfl⟩; refine EvR.nrm ?_; try simp only [hS, g1, g2, g3, g4, ha, hbq, hf, d1, hg])) | ((first | refine sR ?_ ?_ | refine sC ?_ ?_) <;> (intro hb; (try rw [hb]); (try simp only [bb] at hb); (try (exfalso; first | omega | exact hb trivial)))) | (apply endS trivial; rotate_left; (· exact eva); (· rfl); try refine ⟨?_, rfl⟩) | fail)
      · simp
      · exfalso; simp_all; done
end Go.Abs

