/- Laws of functions: the bytes of a valid sheet, by the program and by the reference, and the row. Conditions: the laws of what they call. -/
import Derived.Test.YtaacdckenhnocaaFilmsL84
import Derived.Test.YtaacdckenhnocaaFilmsL39
import Derived.Test.YtaacdckenhnocaaFilmsL08
import Derived.Test.YtaacdckenhnocaaFilmsL12
import Derived.Test.YtaacdckenhnocaaFilmsWvH3
namespace Go.Abs
set_option linter.unusedSimpArgs false
set_option linter.unusedVariables false
set_option maxHeartbeats 8000000
set_option maxRecDepth 20000
def impl_StoreSheet_r0 :List SOper :=[
 ⟨some 1,none,.box (.tmp 0),0⟩,
 ⟨some 2,none,.mov (.const (.string ⟨#[]⟩)),0⟩,
 ⟨some 3,none,.mov (.const (.bool false)),2⟩]
def impl_StoreSheet_r1 (i_impl_ValidSheet :FuncId) :List SOper :=[
 ⟨some 4,none,.loadN 5 (.tmp 1),0⟩,
 ⟨some 5,none,.call (.func i_impl_ValidSheet) [(.tmp 4)],1⟩,
 ⟨some 6,none,.un .not (.tmp 5),3⟩]
def impl_StoreSheet_r2 :List SOper :=[
 ⟨some 2,none,.mov (.const (.string ⟨#[]⟩)),0⟩,
 ⟨some 3,none,.mov (.const (.bool false)),1⟩]
def impl_StoreSheet_r3 (i_impl_sheetBytes :FuncId) :List SOper :=[
 ⟨some 7,none,.loadN 5 (.tmp 1),0⟩,
 ⟨some 8,none,.call (.func i_impl_sheetBytes) [(.tmp 7)],1⟩,
 ⟨some 9,none,.conv .toStr (.tmp 8),3⟩,
 ⟨some 2,none,.mov (.tmp 9),7⟩,
 ⟨some 3,none,.mov (.const (.bool true)),15⟩]
def impl_StoreSheet (i_impl_ValidSheet i_impl_sheetBytes :FuncId) :SFunc :=⟨10,[.tmp 2,.tmp 3],(.kp [0] (.seq (.region impl_StoreSheet_r0 false) (.kp [1] (.seq (.seq (.region (impl_StoreSheet_r1 i_impl_ValidSheet) false) (.kp [1,6] (.cond (.tmp 6) (.seq (.region impl_StoreSheet_r2 false) .ret) .skip))) (.kp [1] (.seq (.region (impl_StoreSheet_r3 i_impl_sheetBytes) false) .ret))))))⟩
def stS (w h :Int)(wr :Bool)(sp lo :List Nat) :List UInt8 :=shB w.toNat h.toNat wr sp lo
def StoreSheet_ok (c :Contract) :Prop :=∀ (σ :Heap)(w h :Int)(wr :Bool)(sv lv :Value)(sp lo :List Nat),ShR σ sv lv sp lo→sp.length ≤ 1048576→lo.length ≤ 1048576→in32L sp→in32L lo →
 Ret c [shV w h wr sv lv] σ fun v σ' =>v=chRes (isSheet w h sp lo) (stS w h wr sp lo)∧σ'=σ
abbrev impl_StoreSheet_ok :=StoreSheet_ok
theorem impl_StoreSheet_law {C :Ctab}{i1 i2 :FuncId}{c1 c2 :Contract}(h1 :Has C i1 c1 impl_ValidSheet_ok)(h2 :Has C i2 c2 impl_sheetBytes_ok) :impl_StoreSheet_ok (gcC C (impl_StoreSheet i1 i2) true) :=by
 intro σ w h wr sv lv sp lo ⟨r1,r2⟩ n1 n2 l1 l2
 have k1 :=r1.ok
 have k2 :=r2.ok
 cases hs :isSheet w h sp lo
 ·rw [chRes_f]
  refine ret_gc rfl rfl ?_
  repeat' (first | refine ff ?_ | (apply EvR.aCall h1.at_;(· exact eva);(· apply h1.ok <;> exact sid);(rintro _ _ ⟨rfl,rfl⟩;refine EvR.nrm ?_;try simp only [hs])) | ((first | refine sR ?_ ?_ | refine sC ?_ ?_) <;> (intro hb;(try rw [hb]);(try simp only [bb] at hb);(try (exfalso;first | omega | exact hb trivial)))) | (apply endS trivial;rotate_left;(· exact eva);(· rfl);try refine⟨?_,rfl⟩) | fail)
  all_goals rfl
 ·rw [chRes_t]
  obtain⟨a1,a2,a3,a4,q1,q2⟩ :=isSheet_sides hs
  obtain⟨W,rfl⟩ :=Int.eq_ofNat_of_zero_le (show 0 ≤ w by omega)
  obtain⟨H,rfl⟩ :=Int.eq_ofNat_of_zero_le (show 0 ≤ h by omega)
  have hWH :((W * H :Nat) :Int)=(W :Int) * (H :Int) :=Int.natCast_mul _ _
  have hN2 :W * H ≤ 256 :=Nat.mul_le_mul (show W ≤ 16 by omega) (show H ≤ 16 by omega)
  have hN3 :9 ≤ W * H :=Nat.mul_le_mul (show 3 ≤ W by omega) (show 3 ≤ H by omega)
  unfold stS
  rw [Int.toNat_natCast,Int.toNat_natCast]
  refine ret_gc rfl rfl ?_
  repeat' (first | refine ff ?_ | (apply EvR.aCall h1.at_;(· exact eva);(· apply h1.ok <;> exact sid);(rintro _ _ ⟨rfl,rfl⟩;refine EvR.nrm ?_;try simp only [hs])) | ((first | refine sR ?_ ?_ | refine sC ?_ ?_) <;> (intro hb;(try rw [hb]);(try simp only [bb] at hb);(try (exfalso;first | omega | exact hb trivial)))) | (apply endS trivial;rotate_left;(· exact eva);(· rfl);try refine⟨?_,rfl⟩) | fail)
  (apply EvR.aCall h2.at_;(· exact eva);(· exact  h2.ok _ W H wr sv lv sp lo ⟨r1.ext _,r2.ext _⟩ (by omega) (by omega) l1 l2);(rintro _ _ ⟨rfl,rfl⟩;refine EvR.nrm ?_))
  simp only [slV]
  repeat' (first | refine ff ?_ | ((first | refine sR ?_ ?_ | refine sC ?_ ?_) <;> (intro hb;(try rw [hb]);(try simp only [bb] at hb);(try (exfalso;first | omega | exact hb trivial)))) | (apply endS trivial;rotate_left;(· exact eva);(· rfl);try refine⟨?_,rfl⟩) | fail)
  all_goals (try rfl)
end Go.Abs
