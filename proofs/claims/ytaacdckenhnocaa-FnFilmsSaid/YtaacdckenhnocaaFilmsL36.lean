/- Laws of single functions: bits of numbers, bytes of numbers. Conditions: the laws of what they call. -/
import Derived.Test.YtaacdckenhnocaaFilmsL08
namespace Go.Abs
set_option linter.unusedSimpArgs false
set_option linter.unusedVariables false
set_option maxHeartbeats 8000000
def impl_BitsOf_r0 :List SOper :=[
 ⟨some 2,none,.mov (.const (.int .i64 0)),0⟩]
def impl_BitsOf_r1 :List SOper :=[
 ⟨some 3,none,.mov (.tmp 0),0⟩,
 ⟨some 4,none,.mov (.tmp 0),0⟩,
 ⟨some 5,none,.bin .neq .other (.tmp 3) (.tmp 4),3⟩]
def impl_BitsOf_r2 :List SOper :=[
 ⟨some 2,none,.mov (.const (.int .i64 2143289344)),0⟩]
def impl_BitsOf_r3 (i_math_Float32bits :FuncId) :List SOper :=[
 ⟨some 6,none,.mov (.tmp 0),0⟩,
 ⟨some 7,none,.call (.func i_math_Float32bits) [(.tmp 6)],1⟩,
 ⟨some 8,none,.conv (.toInt .i64) (.tmp 7),3⟩,
 ⟨some 2,none,.mov (.tmp 8),7⟩]
def impl_BitsOf (i_math_Float32bits :FuncId) :SFunc :=⟨9,[.tmp 2],(.kp [0] (.seq (.region impl_BitsOf_r0 false) (.kp [0] (.seq (.seq (.region impl_BitsOf_r1 false) (.kp [0,5] (.cond (.tmp 5) (.seq (.region impl_BitsOf_r2 false) .ret) .skip))) (.kp [0] (.seq (.region (impl_BitsOf_r3 i_math_Float32bits) false) .ret))))))⟩
def impl_lowBytes_r0 :List SOper :=[
 ⟨some 4,none,.mov (.const (.slice none 0 0)),0⟩]
def impl_lowBytes_r1 :List SOper :=[
 ⟨some 6,none,.buildSlice 1 0 [] [],0⟩,
 ⟨some 5,none,.mov (.tmp 6),1⟩]
def impl_lowBytes_r2 :List SOper :=[
 ⟨some 7,none,.mov (.tmp 1),0⟩,
 ⟨some 8,none,.mov (.const (.int .i64 0)),0⟩]
def impl_lowBytes_r3 :List SOper :=[
 ⟨some 9,none,.bin .lss .other (.tmp 8) (.tmp 7),0⟩]
def impl_lowBytes_r4 :List SOper :=[
 ⟨some 10,none,.mov (.tmp 5),0⟩,
 ⟨some 11,none,.mov (.tmp 0),0⟩,
 ⟨some 12,none,.conv (.toInt .u8) (.tmp 11),2⟩,
 ⟨some 13,none,.buildSlice 1 1 [(.int .u8 0)] [(0,1,(.tmp 12))],6⟩,
 ⟨some 14,none,.append 1 1 (.tmp 10) (.tmp 13),15⟩,
 ⟨some 5,none,.mov (.tmp 14),31⟩]
def impl_lowBytes_r5 :List SOper :=[
 ⟨some 15,none,.mov (.tmp 0),0⟩,
 ⟨some 16,none,.bin .shr .other (.tmp 15) (.const (.int .u64 8)),1⟩,
 ⟨some 0,none,.mov (.tmp 16),3⟩]
def impl_lowBytes_r6 :List SOper :=[
 ⟨some 17,none,.bin .add .other (.tmp 8) (.const (.int .i64 1)),0⟩,
 ⟨some 8,none,.mov (.tmp 17),1⟩]
def impl_lowBytes_l7 :SCode :=(.kp [0,5,7,8] (.seq (.region impl_lowBytes_r3 false) (.kp [0,5,7,8,9] (.seq (.cond (.tmp 9) .skip (.exit 0)) (.kp [0,5,7,8] (.seq (.block 1 (.seq (.region impl_lowBytes_r4 false) (.kp [0,5,7,8] (.region impl_lowBytes_r5 false)))) (.kp [0,5,7,8] (.region impl_lowBytes_r6 false))))))))
def impl_lowBytes_r8 :List SOper :=[
 ⟨some 18,none,.mov (.tmp 5),0⟩,
 ⟨some 4,none,.mov (.tmp 18),1⟩]
def impl_lowBytes :SFunc :=⟨19,[.tmp 4],(.kp [0,1] (.seq (.region impl_lowBytes_r0 false) (.kp [0,1] (.seq (.region impl_lowBytes_r1 false) (.kp [0,1,5] (.seq (.seq (.region impl_lowBytes_r2 false) (.kp [0,5,7,8] (.block 0 (.loop impl_lowBytes_l7)))) (.kp [5] (.seq (.region impl_lowBytes_r8 false) .ret))))))))⟩
def bitsC (a :Nat) :Nat :=if isNaN .f32 a=true then 2143289344 else a
theorem bitsC_lt {a :Nat}(h :a < 4294967296) :bitsC a < 4294967296 :=by unfold bitsC;split <;> omega
def bits_ok (c :Contract) :Prop :=∀ (σ :Heap)(a :Nat),a < 4294967296→Ret c [.float .f32 a] σ fun v σ' =>v = .int .i64 (bitsC a)∧σ'=σ
abbrev impl_BitsOf_ok :=bits_ok
theorem impl_BitsOf_law {C :Ctab}{i :FuncId}{c :Contract}(h1 :Has C i c math_Float32bits_ok) :impl_BitsOf_ok (gcC C (impl_BitsOf i) true) :=by
 intro σ a ha
 have sa :=feq_self .f32 a
 cases hn :isNaN .f32 a
 ·rw [hn] at sa
  refine ret_gc rfl rfl ?_
  repeat' (first | refine ff ?_ | (apply EvR.aCall h1.at_;(· exact eva);(· apply h1.ok <;> exact sid);(rintro _ _ ⟨rfl,rfl⟩;refine EvR.nrm ?_)) | ((first | refine sR ?_ ?_ | refine sC ?_ ?_) <;> (intro hb;(try rw [hb]);(try simp only [bb] at hb);(try (exfalso;first | omega | exact hb trivial)))) | (apply endS trivial;rotate_left;(· exact eva);(· rfl);try refine⟨?_,rfl⟩) | fail)
  all_goals simp_all [bitsC]
 ·rw [hn] at sa
  refine ret_gc rfl rfl ?_
  repeat' (first | refine ff ?_ | ((first | refine sR ?_ ?_ | refine sC ?_ ?_) <;> (intro hb;(try rw [hb]);(try simp only [bb] at hb);(try (exfalso;first | omega | exact hb trivial)))) | (apply endS trivial;rotate_left;(· exact eva);(· rfl);try refine⟨?_,rfl⟩) | fail)
  all_goals simp_all [bitsC]
theorem bin_xor32 {ek :EqK}{x y :Nat}(hx :x < 4294967296)(hy :y < 4294967296) :aBin .xor ek (.int .i64 (x :Int)) (.int .i64 (y :Int))=some (.int .i64 ((x ^^^ y :Nat) :Int)) :=by
 have h :x ^^^ y < 2 ^ 32 :=Nat.xor_lt_two_pow (by omega) (by omega)
 have e1 :(BitVec.ofInt 64 (x :Int)).toNat=x :=by simp;omega
 have e2 :(BitVec.ofInt 64 (y :Int)).toNat=y :=by simp;omega
 have e3 :(BitVec.ofInt IntKind.i64.bits (x :Int) ^^^ BitVec.ofInt IntKind.i64.bits (y :Int)).toNat=x ^^^ y :=by
  show (BitVec.ofInt 64 (x :Int) ^^^ BitVec.ofInt 64 (y :Int)).toNat=_
  rw [BitVec.toNat_xor,e1,e2]
 simp only [aBin,iArith,if_true]
 rw [e3,wrap64 (by omega) (by omega)]
theorem shr8_val (q :Nat) :(q :Int).fdiv (2 ^ min (Int.toNat 8) IntKind.i64.bits)=((q / 256 :Nat) :Int) :=by
 have :((2 :Int) ^ (min (8 :Int).toNat IntKind.i64.bits))=256 :=by decide
 rw [this,Int.fdiv_eq_ediv_of_nonneg _ (by omega)]
 rfl
theorem wrapu64 {n :Nat}(h :n < 18446744073709551616) :IntKind.u64.wrap (n :Int)=n :=by
 simp only [IntKind.wrap]
 simp [IntKind.bits,IntKind.signed]
 omega
def lowB (n j :Nat) :List UInt8 :=(List.range j).map fun k =>byteOf ((n / 256 ^ k :Nat) :Int)
theorem lowB_length (n j :Nat) :(lowB n j).length=j :=by simp [lowB]
theorem lowB_succ (n j :Nat) :lowB n (j+1)=lowB n j++[byteOf ((n / 256 ^ j :Nat) :Int)] :=by simp [lowB,List.range_succ]
theorem pow_step (n j :Nat) :n / 256 ^ j / 256=n / 256 ^ (j+1) :=by rw [Nat.div_div_eq_div_mul,Nat.pow_succ]
theorem byteOf_mod (n :Nat) :byteOf ((n % 256 :Nat) :Int)=byteOf (n :Int) :=by unfold byteOf;congr 1;omega
theorem pow_le (n j :Nat) :n / 256 ^ j ≤ n :=Nat.div_le_self ..
def impl_lowBytes_ok (c :Contract) :Prop :=∀ (σ :Heap)(n m :Nat),n < 4294967296→m ≤ 4→Ret c [.int .i64 n,.int .i64 m] σ fun v σ' =>v=slV σ.length m∧σ'=σ++[⟨b8s (lowB n m),1,true⟩]
theorem impl_lowBytes_law {C :Ctab} :impl_lowBytes_ok (gcC C impl_lowBytes true) :=by
 intro σ n m hn hm
 refine ret_gc rfl rfl ?_
 repeat' (first | refine ff ?_ | ((first | refine sR ?_ ?_ | refine sC ?_ ?_) <;> (intro hb;(try rw [hb]);(try simp only [bb] at hb);(try (exfalso;first | omega | exact hb trivial)))) | (apply endS trivial;rotate_left;(· exact eva);(· rfl);try refine⟨?_,rfl⟩) | fail)
 refine Ev.whlH (S :=Nat × Nat × Heap) (fun st =>m - st.1) (fun st =>[(0,.int .i64 (st.2.1 :Nat)),(5,.slice (some ⟨σ.length+0,0,none⟩) st.1 st.1),(8,.int .i64 st.1)]) (fun st =>σ++(⟨b8s (lowB n st.1),1,true⟩::st.2.2)) (fun st =>st.1 ≤ m∧st.2.1=n / 256 ^ st.1) (0,n,[]) (by exact tF) rfl ⟨Nat.zero_le _,by simp⟩ ?_
 rintro⟨j,q,rub⟩ F hF ⟨hj,hq⟩
 dsimp only at hj hF hq ⊢
 (simp only [List.cons_append,List.nil_append,↓fget_cons,fkeep_cons,fkeep_nil,Nat.reduceEqDiff,reduceIte] at hF;subst hF)
 have hlen :=lowB_length n j
 have hle :=pow_le n j
 have hs :lowB n (j+1)=lowB n j++[byteOf (q :Int)] :=by rw [lowB_succ,hq]
 have hn2 :q / 256=n / 256 ^ (j+1) :=by rw [hq,pow_step]
 clear hq
 by_cases hlt :j < m
 ·repeat' (first | refine ff ?_ | ((first | refine sR ?_ ?_ | refine sC ?_ ?_) <;> (intro hb;(try rw [hb]);(try simp only [bb] at hb);(try (exfalso;first | omega | exact hb trivial)))) | (apply endS trivial;rotate_left;(· exact eva);(· rfl);try refine⟨?_,rfl⟩) | fail)
  exact⟨(j+1,q / 256,rub++[⟨b8s [byteOf (q :Int)],1,true⟩]),by dsimp only;omega,by rw [shr8_val];simp only [List.cons_append,List.nil_append,↓fget_cons,fkeep_cons,fkeep_nil,Nat.reduceEqDiff,reduceIte];rfl,by dsimp only;rw [hs,u8_wrap,← b8s_append];rfl,by dsimp only;omega,hn2⟩
 ·obtain rfl :j=m :=by omega
  repeat' (first | refine ff ?_ | ((first | refine sR ?_ ?_ | refine sC ?_ ?_) <;> (intro hb;(try rw [hb]);(try simp only [bb] at hb);(try (exfalso;first | omega | exact hb trivial)))) | (apply endS trivial;rotate_left;(· exact eva);(· rfl);try refine⟨?_,rfl⟩) | fail)
  (apply endR [0] trivial ⟨rfl,rfl⟩;(· exact eva);(· simp [gcTop,gcVal,gcLeaf,gcLeaves,gcVals,constOk,gc_lt,gc_lt0]);(· rfl);(· decide);(· simp [allConst,f32s,i64s,b8s,bools,constOk]))
end Go.Abs
