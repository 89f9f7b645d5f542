/- Laws of functions, some texts put together. Conditions: the laws of what they call. -/
import Derived.Test.YtaacdckenhnocaaFilmsL07
import Derived.Test.YtaacdckenhnocaaFilmsWvMF
import Derived.Test.YtaacdckenhnocaaFilmsL12
namespace Go.Abs
set_option linter.unusedSimpArgs false
set_option linter.unusedVariables false
set_option maxHeartbeats 8000000
theorem gen_step (g :Nat→Nat)(xs :List Nat)(j :Nat)(h :j < xs.length) :((List.range j).map g++xs.drop j).set j (g j)=(List.range (j+1)).map g++xs.drop (j+1) :=by
 rw [List.set_append_right _ _ (by simp),List.length_map,List.length_range,Nat.sub_self,List.drop_eq_getElem_cons h,List.set_cons_zero,List.range_succ,List.map_append,List.append_assoc]
 rfl
end Go.Abs
namespace Go.Abs
set_option linter.unusedSimpArgs false
set_option linter.unusedVariables false
set_option maxHeartbeats 8000000
def math_Signbit_r0 :List SOper :=[
 ⟨some 2,none,.mov (.const (.bool false)),0⟩]
def math_Signbit_r1 (i_math_Float64bits :FuncId) :List SOper :=[
 ⟨some 3,none,.mov (.tmp 0),0⟩,
 ⟨some 4,none,.call (.func i_math_Float64bits) [(.tmp 3)],1⟩,
 ⟨some 5,none,.conv (.toInt .i64) (.tmp 4),3⟩,
 ⟨some 6,none,.bin .lss .other (.tmp 5) (.const (.int .i64 0)),7⟩,
 ⟨some 2,none,.mov (.tmp 6),15⟩]
def math_Signbit (i_math_Float64bits :FuncId) :SFunc :=⟨7,[.tmp 2],(.kp [0] (.seq (.region math_Signbit_r0 false) (.kp [0] (.seq (.region (math_Signbit_r1 i_math_Float64bits) false) .ret))))⟩
def impl_SameNumber_r0 :List SOper :=[
 ⟨some 4,none,.mov (.const (.bool false)),0⟩]
def impl_SameNumber_r1 :List SOper :=[
 ⟨some 5,none,.mov (.tmp 0),0⟩,
 ⟨some 6,none,.mov (.tmp 0),0⟩,
 ⟨some 7,none,.bin .neq .other (.tmp 5) (.tmp 6),3⟩,
 ⟨some 8,none,.mov (.tmp 7),7⟩,
  ⟨(some 9),(some (8,false)),.mov (.tmp 1),15⟩,
  ⟨(some 10),(some (8,false)),.mov (.tmp 1),15⟩,
  ⟨(some 11),(some (8,false)),.bin .neq .other (.tmp 9) (.tmp 10),63⟩,
 ⟨some 12,none,.pick (.tmp 8) (.const (.bool true)) (.tmp 11),127⟩]
def impl_SameNumber_r2 :List SOper :=[
 ⟨some 13,none,.mov (.tmp 0),0⟩,
 ⟨some 14,none,.mov (.tmp 0),0⟩,
 ⟨some 15,none,.bin .neq .other (.tmp 13) (.tmp 14),3⟩,
 ⟨some 16,none,.mov (.tmp 15),7⟩,
  ⟨(some 17),(some (16,true)),.mov (.tmp 1),15⟩,
  ⟨(some 18),(some (16,true)),.mov (.tmp 1),15⟩,
  ⟨(some 19),(some (16,true)),.bin .neq .other (.tmp 17) (.tmp 18),63⟩,
 ⟨some 20,none,.pick (.tmp 16) (.tmp 19) (.const (.bool false)),127⟩,
 ⟨some 4,none,.mov (.tmp 20),255⟩]
def impl_SameNumber_r3 (i_math_Signbit :FuncId) :List SOper :=[
 ⟨some 21,none,.mov (.tmp 0),0⟩,
 ⟨some 22,none,.mov (.tmp 1),0⟩,
 ⟨some 23,none,.bin .eql .other (.tmp 21) (.tmp 22),3⟩,
 ⟨some 24,none,.mov (.tmp 23),7⟩,
  ⟨(some 25),(some (24,true)),.mov (.tmp 0),15⟩,
  ⟨(some 26),(some (24,true)),.conv (.toFloat .f64) (.tmp 25),31⟩,
  ⟨(some 27),(some (24,true)),.call (.func i_math_Signbit) [(.tmp 26)],63⟩,
  ⟨(some 28),(some (24,true)),.mov (.tmp 1),15⟩,
  ⟨(some 29),(some (24,true)),.conv (.toFloat .f64) (.tmp 28),143⟩,
  ⟨(some 30),(some (24,true)),.call (.func i_math_Signbit) [(.tmp 29)],511⟩,
  ⟨(some 31),(some (24,true)),.bin .eql .bool (.tmp 27) (.tmp 30),1023⟩,
 ⟨some 32,none,.pick (.tmp 24) (.tmp 31) (.const (.bool false)),2047⟩,
 ⟨some 4,none,.mov (.tmp 32),4095⟩]
def impl_SameNumber (i_math_Signbit :FuncId) :SFunc :=⟨33,[.tmp 4],(.kp [0,1] (.seq (.region impl_SameNumber_r0 false) (.kp [0,1] (.seq (.seq (.region impl_SameNumber_r1 false) (.kp [0,1,12] (.cond (.tmp 12) (.seq (.region impl_SameNumber_r2 false) .ret) .skip))) (.kp [0,1] (.seq (.region (impl_SameNumber_r3 i_math_Signbit) false) .ret))))))⟩
theorem wf32 {x :Nat}(h :(Lit.float .f32 x).wf=true) :x < 4294967296 :=by simpa [Lit.wf] using h
def math_Float64bits_ok (c :Contract) :Prop :=∀ (σ :Heap)(b :Nat),isNaN .f64 b=false→Ret c [.float .f64 b] σ fun v σ' =>v = .int .u64 b∧σ'=σ
theorem math_Float64bits_law :math_Float64bits_ok (pureC gBits64) :=fun σ b h =>ret_bits64 σ h
def math_Float32bits_ok (c :Contract) :Prop :=∀ (σ :Heap)(b :Nat),isNaN .f32 b=false→Ret c [.float .f32 b] σ fun v σ' =>v = .int .u32 b∧σ'=σ
theorem math_Float32bits_law :math_Float32bits_ok (pureC gBits32) :=fun σ b h =>ret_bits32 σ h
def math_Float32frombits_ok (c :Contract) :Prop :=∀ (σ :Heap)(n :Int),Ret c [.int .u32 n] σ fun v σ' =>v = .float .f32 n.toNat∧σ'=σ
theorem math_Float32frombits_law :math_Float32frombits_ok (pureC gFrom32) :=fun σ n =>ret_from32 n σ
theorem wrap_neg {b :Nat}(hb :b < 18446744073709551616) :decide (IntKind.i64.wrap (b :Int) < 0)=sgn64 b :=by
 unfold sgn64
 rw [decide_eq_decide]
 simp only [IntKind.wrap]
 simp [IntKind.bits,IntKind.signed]
 omega
def math_Signbit_ok (c :Contract) :Prop :=∀ (σ :Heap)(b :Nat),isNaN .f64 b=false→b < 18446744073709551616→Ret c [.float .f64 b] σ fun v σ' =>v = .bool (sgn64 b)∧σ'=σ
theorem math_Signbit_law {C :Ctab}{i :FuncId}{c :Contract}(h1 :Has C i c math_Float64bits_ok) :math_Signbit_ok (gcC C (math_Signbit i) true) :=by
 intro σ b hn hb
 refine ret_gc rfl rfl ?_
 repeat' (first | refine ff ?_ | (apply EvR.aCall h1.at_;(· exact eva);(· apply h1.ok <;> exact sid);(rintro _ _ ⟨rfl,rfl⟩;refine EvR.nrm ?_)) | ((first | refine sR ?_ ?_ | refine sC ?_ ?_) <;> (intro hb;(try rw [hb]);(try simp only [bb] at hb);(try (exfalso;first | omega | exact hb trivial)))) | (apply endS trivial;rotate_left;(· exact eva);(· rfl);try refine⟨?_,rfl⟩) | fail)
 rw [wrap_neg hb]
def nums (xs :List Nat) :Prop :=∀ i,i < xs.length→xs.getD i 0 < 4294967296∧isNaN .f32 (xs.getD i 0)=false
theorem nums_of {xs :List Nat}{b :Nat}(h1 :∀ x ∈ xs,x < 4294967296)(h2 :xs.all (fun x =>share x b)=true) :nums xs :=by
 intro i hi
 have hm :xs.getD i 0 ∈ xs :=by rw [List.getD_eq_getElem?_getD,List.getElem?_eq_getElem hi];simp
 refine⟨h1 _ hm,?_⟩
 have :=List.all_eq_true.1 h2 _ hm
 simp only [share,Bool.and_eq_true] at this
 exact (fge_nan this.1).1
end Go.Abs
namespace Go.Abs
set_option linter.unusedSimpArgs false
set_option linter.unusedVariables false
set_option maxHeartbeats 8000000
set_option maxRecDepth 20000
def impl_sameNumbers_r0 :List SOper :=[
 ⟨some 4,none,.mov (.const (.bool false)),0⟩]
def impl_sameNumbers_r1 :List SOper :=[
 ⟨some 6,none,.mov (.tmp 0),0⟩,
 ⟨some 7,none,.len false (.tmp 6),1⟩,
 ⟨some 8,none,.mov (.tmp 1),0⟩,
 ⟨some 9,none,.len false (.tmp 8),4⟩,
 ⟨some 10,none,.bin .neq .other (.tmp 7) (.tmp 9),15⟩]
def impl_sameNumbers_r2 :List SOper :=[
 ⟨some 4,none,.mov (.const (.bool false)),0⟩]
def impl_sameNumbers_r3 :List SOper :=[
 ⟨some 11,none,.mov (.tmp 0),0⟩,
 ⟨some 12,none,.len false (.tmp 11),1⟩,
 ⟨some 13,none,.mov (.const (.int .i64 0)),0⟩]
def impl_sameNumbers_r4 :List SOper :=[
 ⟨some 14,none,.bin .lss .other (.tmp 13) (.tmp 12),0⟩]
def impl_sameNumbers_r5 :List SOper :=[
 ⟨some 15,none,.mov (.tmp 13),0⟩,
 ⟨some 5,none,.mov (.tmp 15),1⟩]
def impl_sameNumbers_r6 (i_impl_SameNumber :FuncId) :List SOper :=[
 ⟨some 16,none,.mov (.tmp 0),0⟩,
 ⟨some 17,none,.mov (.tmp 5),0⟩,
 ⟨some 18,none,.indexAddrS 1 (.tmp 16) (.tmp 17),3⟩,
 ⟨some 19,none,.load1 (.tmp 18),7⟩,
 ⟨some 20,none,.mov (.tmp 1),0⟩,
 ⟨some 21,none,.mov (.tmp 5),0⟩,
 ⟨some 22,none,.indexAddrS 1 (.tmp 20) (.tmp 21),48⟩,
 ⟨some 23,none,.load1 (.tmp 22),112⟩,
 ⟨some 24,none,.call (.func i_impl_SameNumber) [(.tmp 19),(.tmp 23)],255⟩,
 ⟨some 25,none,.un .not (.tmp 24),511⟩]
def impl_sameNumbers_r7 :List SOper :=[
 ⟨some 4,none,.mov (.const (.bool false)),0⟩]
def impl_sameNumbers_r8 :List SOper :=[
 ⟨some 26,none,.bin .add .other (.tmp 13) (.const (.int .i64 1)),0⟩,
 ⟨some 13,none,.mov (.tmp 26),1⟩]
def impl_sameNumbers_l9 (i_impl_SameNumber :FuncId) :SCode :=(.kp [0,1,12,13] (.seq (.region impl_sameNumbers_r4 false) (.kp [0,1,12,13,14] (.seq (.cond (.tmp 14) .skip (.exit 0)) (.kp [0,1,12,13] (.seq (.block 1 (.seq (.region impl_sameNumbers_r5 false) (.kp [0,1,5,12,13] (.seq (.region (impl_sameNumbers_r6 i_impl_SameNumber) true) (.kp [0,1,12,13,25] (.cond (.tmp 25) (.seq (.region impl_sameNumbers_r7 false) .ret) .skip)))))) (.kp [0,1,12,13] (.region impl_sameNumbers_r8 false))))))))
def impl_sameNumbers_r10 :List SOper :=[
 ⟨some 4,none,.mov (.const (.bool true)),0⟩]
def impl_sameNumbers (i_impl_SameNumber :FuncId) :SFunc :=⟨27,[.tmp 4],(.kp [0,1] (.seq (.region impl_sameNumbers_r0 false) (.kp [0,1] (.seq (.seq (.region impl_sameNumbers_r1 false) (.kp [0,1,10] (.cond (.tmp 10) (.seq (.region impl_sameNumbers_r2 false) .ret) .skip))) (.kp [0,1] (.seq (.seq (.region impl_sameNumbers_r3 false) (.kp [0,1,12,13] (.block 0 (.loop (impl_sameNumbers_l9 i_impl_SameNumber))))) (.kp [] (.seq (.region impl_sameNumbers_r10 false) .ret))))))))⟩
theorem impl_sameNumbers_r6_dr {i_impl_SameNumber :FuncId} :drawOkW wStat (impl_sameNumbers_r6 i_impl_SameNumber)=true :=by kernel_rfl
attribute [push_cast] impl_sameNumbers_r6_dr
def impl_SameSheet_r0 :List SOper :=[
 ⟨some 2,none,.box (.tmp 0),0⟩,
 ⟨some 3,none,.box (.tmp 1),0⟩,
 ⟨some 4,none,.mov (.const (.bool false)),0⟩]
def impl_SameSheet_r1 (i_impl_sameNumbers :FuncId) :List SOper :=[
 ⟨some 5,none,.fieldAddr 0 (.tmp 2),0⟩,
 ⟨some 6,none,.load1 (.tmp 5),1⟩,
 ⟨some 7,none,.fieldAddr 0 (.tmp 3),0⟩,
 ⟨some 8,none,.load1 (.tmp 7),4⟩,
 ⟨some 9,none,.bin .eql .other (.tmp 6) (.tmp 8),15⟩,
 ⟨some 10,none,.mov (.tmp 9),31⟩,
  ⟨(some 11),(some (10,true)),.fieldAddr 1 (.tmp 2),63⟩,
  ⟨(some 12),(some (10,true)),.load1 (.tmp 11),127⟩,
  ⟨(some 13),(some (10,true)),.fieldAddr 1 (.tmp 3),63⟩,
  ⟨(some 14),(some (10,true)),.load1 (.tmp 13),319⟩,
  ⟨(some 15),(some (10,true)),.bin .eql .other (.tmp 12) (.tmp 14),1023⟩,
 ⟨some 16,none,.pick (.tmp 10) (.tmp 15) (.const (.bool false)),2047⟩,
 ⟨some 17,none,.mov (.tmp 16),4095⟩,
  ⟨(some 18),(some (17,true)),.fieldAddr 2 (.tmp 2),8191⟩,
  ⟨(some 19),(some (17,true)),.load1 (.tmp 18),16383⟩,
  ⟨(some 20),(some (17,true)),.fieldAddr 2 (.tmp 3),8191⟩,
  ⟨(some 21),(some (17,true)),.load1 (.tmp 20),40959⟩,
  ⟨(some 22),(some (17,true)),.bin .eql .bool (.tmp 19) (.tmp 21),131071⟩,
 ⟨some 23,none,.pick (.tmp 17) (.tmp 22) (.const (.bool false)),262143⟩,
 ⟨some 24,none,.mov (.tmp 23),524287⟩,
  ⟨(some 25),(some (24,true)),.fieldAddr 3 (.tmp 2),1048575⟩,
  ⟨(some 26),(some (24,true)),.load1 (.tmp 25),2097151⟩,
  ⟨(some 27),(some (24,true)),.fieldAddr 3 (.tmp 3),1048575⟩,
  ⟨(some 28),(some (24,true)),.load1 (.tmp 27),5242879⟩,
  ⟨(some 29),(some (24,true)),.call (.func i_impl_sameNumbers) [(.tmp 26),(.tmp 28)],16777215⟩,
 ⟨some 30,none,.pick (.tmp 24) (.tmp 29) (.const (.bool false)),33554431⟩,
 ⟨some 31,none,.mov (.tmp 30),67108863⟩,
  ⟨(some 32),(some (31,true)),.fieldAddr 4 (.tmp 2),134217727⟩,
  ⟨(some 33),(some (31,true)),.load1 (.tmp 32),268435455⟩,
  ⟨(some 34),(some (31,true)),.fieldAddr 4 (.tmp 3),134217727⟩,
  ⟨(some 35),(some (31,true)),.load1 (.tmp 34),671088639⟩,
  ⟨(some 36),(some (31,true)),.call (.func i_impl_sameNumbers) [(.tmp 33),(.tmp 35)],2147483647⟩,
 ⟨some 37,none,.pick (.tmp 31) (.tmp 36) (.const (.bool false)),4294967295⟩,
 ⟨some 4,none,.mov (.tmp 37),8589934591⟩]
def impl_SameSheet (i_impl_sameNumbers :FuncId) :SFunc :=⟨38,[.tmp 4],(.kp [0,1] (.seq (.region impl_SameSheet_r0 false) (.kp [2,3] (.seq (.region (impl_SameSheet_r1 i_impl_sameNumbers) false) .ret))))⟩
theorem list_ne {xs ys :List Nat}{i :Nat}(h :xs.getD i 0 ≠ ys.getD i 0) :decide (xs=ys)=false :=decide_eq_false fun e =>h (by rw [e])
theorem list_eq {xs ys :List Nat}(hl :xs.length=ys.length)(h :∀ j,j < xs.length→xs.getD j 0=ys.getD j 0) :decide (xs=ys)=true :=by
 refine decide_eq_true (List.ext_getElem hl fun i h1 h2 =>?_)
 have :=h i h1
 rw [List.getD_eq_getElem?_getD,List.getD_eq_getElem?_getD,List.getElem?_eq_getElem h1,List.getElem?_eq_getElem h2] at this
 simpa using this
theorem isSheet_nums {w h :Int}{sp lo :List Nat}(hs :isSheet w h sp lo=true)(h1 :∀ x ∈ sp,x < 4294967296)(h2 :∀ x ∈ lo,x < 4294967296) :nums sp∧nums lo :=by
 simp only [isSheet,Bool.and_eq_true] at hs
 exact⟨nums_of h1 hs.1.2,nums_of h2 hs.2⟩
end Go.Abs
