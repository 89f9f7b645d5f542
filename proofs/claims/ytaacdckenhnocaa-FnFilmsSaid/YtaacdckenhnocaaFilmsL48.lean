/- Laws of functions: lists of numbers are drawn; what laws read of bytes. Conditions: the laws of what they call. -/
import Derived.Test.YtaacdckenhnocaaFilmsL47
namespace Go.Abs
set_option linter.unusedSimpArgs false
set_option linter.unusedVariables false
set_option maxHeartbeats 8000000
set_option maxRecDepth 20000
def spec_l00From_r0 :List SOper :=[
 ⟨some 2,none,.mov (.const (.pointer none)),0⟩]
def spec_l00From_r1 :List SOper :=[
 ⟨some 3,none,.mov (.tmp 0),0⟩,
 ⟨some 4,none,.build [(.slice none 0 0),(.int .i64 0),(.int .u64 0)] [(0,1,(.tmp 3))],1⟩,
 ⟨some 5,none,.box (.tmp 4),3⟩,
 ⟨some 2,none,.mov (.tmp 5),7⟩]
def spec_l00From :SFunc :=⟨6,[.tmp 2],(.kp [0] (.seq (.region spec_l00From_r0 false) (.kp [0] (.seq (.region spec_l00From_r1 false) .ret))))⟩
def laws_r8Long_r0 :List SOper :=[
 ⟨some 4,none,.mov (.const (.bool false)),0⟩]
def laws_r8Long_r1 :List SOper :=[
 ⟨some 5,none,.mov (.tmp 0),0⟩,
 ⟨some 6,none,.len false (.tmp 5),1⟩,
 ⟨some 7,none,.bin .gtr .other (.tmp 6) (.const (.int .i64 48)),3⟩,
 ⟨some 8,none,.mov (.tmp 7),7⟩,
  ⟨(some 9),(some (8,false)),.mov (.tmp 1),15⟩,
  ⟨(some 10),(some (8,false)),.len false (.tmp 9),31⟩,
  ⟨(some 11),(some (8,false)),.bin .gtr .other (.tmp 10) (.const (.int .i64 48)),63⟩,
 ⟨some 12,none,.pick (.tmp 8) (.const (.bool true)) (.tmp 11),127⟩,
 ⟨some 4,none,.mov (.tmp 12),255⟩]
def laws_r8Long :SFunc :=⟨13,[.tmp 4],(.kp [0,1] (.seq (.region laws_r8Long_r0 false) (.kp [0,1] (.seq (.region laws_r8Long_r1 false) .ret))))⟩
def laws_r8At_r0 :List SOper :=[
 ⟨some 6,none,.mov (.const (.int .i64 0)),0⟩]
def laws_r8At_r1 :List SOper :=[
 ⟨some 7,none,.mov (.tmp 2),0⟩,
 ⟨some 8,none,.bin .leq .other (.tmp 7) (.const (.int .i64 1)),1⟩,
 ⟨some 9,none,.mov (.tmp 8),3⟩,
  ⟨(some 10),(some (9,false)),.mov (.tmp 1),7⟩,
  ⟨(some 11),(some (9,false)),.mov (.tmp 0),7⟩,
  ⟨(some 12),(some (9,false)),.len false (.tmp 11),23⟩,
  ⟨(some 13),(some (9,false)),.bin .geq .other (.tmp 10) (.tmp 12),63⟩,
 ⟨some 14,none,.pick (.tmp 9) (.const (.bool true)) (.tmp 13),127⟩]
def laws_r8At_r2 :List SOper :=[
 ⟨some 6,none,.mov (.const (.int .i64 0)),0⟩]
def laws_r8At_r3 :List SOper :=[
 ⟨some 15,none,.mov (.tmp 0),0⟩,
 ⟨some 16,none,.mov (.tmp 1),0⟩,
 ⟨some 17,none,.indexAddrS 1 (.tmp 15) (.tmp 16),3⟩,
 ⟨some 18,none,.load1 (.tmp 17),7⟩,
 ⟨some 19,none,.conv (.toInt .i64) (.tmp 18),15⟩,
 ⟨some 20,none,.mov (.tmp 2),0⟩,
 ⟨some 21,none,.bin .rem .other (.tmp 19) (.tmp 20),63⟩,
 ⟨some 6,none,.mov (.tmp 21),127⟩]
def laws_r8At :SFunc :=⟨22,[.tmp 6],(.kp [0,1,2] (.seq (.region laws_r8At_r0 false) (.kp [0,1,2] (.seq (.seq (.region laws_r8At_r1 false) (.kp [0,1,2,14] (.cond (.tmp 14) (.seq (.region laws_r8At_r2 false) .ret) .skip))) (.kp [0,1,2] (.seq (.region laws_r8At_r3 false) .ret))))))⟩
def spec_l00From_ok (c :Contract) :Prop :=∀ (σ :Heap)(cv :Value),cellOk cv=true→Ret c [cv] σ fun v σ' =>v = .pointer (some ⟨σ.length,0,none⟩)∧σ'=σ++[srcO cv 0 0]
theorem spec_l00From_law {C :Ctab} :spec_l00From_ok (bodyC C spec_l00From true) :=by
 intro σ cv k1
 refine ret_bd rfl rfl ?_
 repeat' (first | refine ff ?_ | ((first | refine sR ?_ ?_ | refine sC ?_ ?_) <;> (intro hb;(try rw [hb]);(try simp only [bb] at hb);(try (exfalso;first | omega | exact hb trivial)))) | (apply endS trivial;rotate_left;(· exact eva);(· rfl);try refine⟨?_,rfl⟩) | fail)
 apply endB trivial
 ·exact eva
 ·exact⟨rfl,rfl⟩
def laws_r8Long_ok (c :Contract) :Prop :=∀ (σ :Heap)(u v :Value)(xs ys :List UInt8),Row σ 1 u xs.length (b8s xs)→Row σ 1 v ys.length (b8s ys)→Ret c [u,v] σ fun r σ' =>r = .bool (decide (48 < xs.length) || decide (48 < ys.length))∧σ'=σ
theorem laws_r8Long_law {C :Ctab} :laws_r8Long_ok (gcC C laws_r8Long true) :=by
 intro σ u v xs ys r1 r2
 refine ret_gc rfl rfl ?_
 repeat' (first | refine ff ?_ | ((first | refine sR ?_ ?_ | refine sC ?_ ?_) <;> (intro hb;(try rw [hb]);(try simp only [bb] at hb);(try (exfalso;first | omega | exact hb trivial)))) | (apply endS trivial;rotate_left;(· exact eva);(· rfl);try refine⟨?_,rfl⟩) | fail)
 all_goals
  by_cases hx :48 < xs.length <;> by_cases hy :48 < ys.length <;> (try simp [hx,hy]) <;> (try omega)
def laws_r8At_ok (c :Contract) :Prop :=∀ (σ :Heap)(u :Value)(xs :List UInt8)(k n :Int),Row σ 1 u xs.length (b8s xs)→0 ≤ k→1 ≤ n→n ≤ 1000→Ret c [u,.int .i64 k,.int .i64 n] σ fun r σ' =>∃ q :Int,0 ≤ q∧q < n∧r = .int .i64 q∧σ'=σ
theorem laws_r8At_law {C :Ctab} :laws_r8At_ok (gcC C laws_r8At true) :=by
 intro σ u xs k n r1 k0 n1 n2
 have hbyte :∀ i :Nat,i < xs.length→aLoad1 (σ++[]) (elemP 1 u i)=some (byteV (xs.getD i 0)) :=fun i hi =>by
  rw [(r1.ext []).load hi,b8s_get hi]
 refine ret_gc rfl rfl ?_
 repeat' (first | refine ff ?_ | ((first | refine sR ?_ ?_ | refine sC ?_ ?_) <;> (intro hb;(try rw [hb]);(try simp only [bb] at hb);(try (exfalso;first | omega | exact hb trivial)))) | (apply endS trivial;rotate_left;(· exact eva);(· rfl);try refine⟨?_,rfl⟩) | fail)
 ·exact⟨0,by omega,by omega,rfl,rfl⟩
 ·exact⟨0,by omega,by omega,rfl,rfl⟩
 ·refine EvR.opS (v :=byteV (xs.getD k.toNat 0)) (by show (aLoad1 _ (elemP 1 u k.toNat)).map _=_;rw [hbyte _ (by omega)];rfl) ?_
  have hbt :=UInt8.toNat_lt (xs.getD k.toNat 0)
  repeat' (first | refine ff ?_ | ((first | refine sR ?_ ?_ | refine sC ?_ ?_) <;> (intro hb;(try rw [hb]);(try simp only [bb] at hb);(try (exfalso;first | omega | exact hb trivial)))) | (apply endS trivial;rotate_left;(· exact eva);(· rfl);try refine⟨?_,rfl⟩) | fail)
  exact⟨_,Int.emod_nonneg _ (by omega),Int.emod_lt_of_pos _ (by omega),rfl,rfl⟩
end Go.Abs
