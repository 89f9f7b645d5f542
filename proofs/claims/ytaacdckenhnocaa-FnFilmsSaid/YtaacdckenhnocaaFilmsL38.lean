/- Laws of functions, some texts put together. Conditions: the laws of what they call. -/
import Derived.Test.YtaacdckenhnocaaFilmsL37
namespace Go.Abs
set_option linter.unusedSimpArgs false
set_option linter.unusedVariables false
set_option maxHeartbeats 8000000
set_option maxRecDepth 20000
def impl_isChangeable_r0 :List SOper :=[
 ⟨some 2,none,.mov (.const (.bool false)),0⟩]
def impl_isChangeable_r1 :List SOper :=[
 ⟨some 3,none,.mov (.tmp 0),0⟩,
 ⟨some 4,none,.len false (.tmp 3),1⟩,
 ⟨some 5,none,.bin .leq .other (.tmp 4) (.const (.int .i64 768)),3⟩,
 ⟨some 2,none,.mov (.tmp 5),7⟩]
def impl_isChangeable :SFunc :=⟨6,[.tmp 2],(.kp [0] (.seq (.region impl_isChangeable_r0 false) (.kp [0] (.seq (.region impl_isChangeable_r1 false) .ret))))⟩
theorem xor_zero {x y :Nat} :x ^^^ y=0 ↔ x=y :=by
 constructor
 ·intro h
  apply Nat.eq_of_testBit_eq
  intro i
  have h2 :(x ^^^ y).testBit i=false :=by rw [h];simp
  rw [Nat.testBit_xor] at h2
  simpa using h2
 ·rintro rfl;simp
def isChangeable_ok (c :Contract) :Prop :=∀ (σ :Heap)(v :Value)(xs :List Nat),Row σ 1 v xs.length (f32s xs)→Ret c [v] σ fun r σ' =>r = .bool (decide ((xs.length :Int) ≤ 768))∧σ'=σ
abbrev impl_isChangeable_ok :=isChangeable_ok
theorem impl_isChangeable_law {C :Ctab} :impl_isChangeable_ok (gcC C impl_isChangeable true) :=by
 intro σ v xs hr
 refine ret_gc rfl rfl ?_
 repeat' (first | refine ff ?_ | ((first | refine sR ?_ ?_ | refine sC ?_ ?_) <;> (intro hb;(try rw [hb]);(try simp only [bb] at hb);(try (exfalso;first | omega | exact hb trivial)))) | (apply endS trivial;rotate_left;(· exact eva);(· rfl);try refine⟨?_,rfl⟩) | fail)
 all_goals rfl
def chRes (ok :Bool)(t :List UInt8) :Value :=if ok=true then .tuple #[.string (str t),.bool true] else .tuple #[.string (str []),.bool false]
end Go.Abs
namespace Go.Abs
set_option linter.unusedSimpArgs false
set_option linter.unusedVariables false
set_option maxHeartbeats 8000000
set_option maxRecDepth 20000
def impl_lowNumber_r0 :List SOper :=[
 ⟨some 2,none,.mov (.const (.int .i64 0)),0⟩]
def impl_lowNumber_r1 :List SOper :=[
 ⟨some 3,none,.mov (.const (.int .i64 0)),0⟩]
def impl_lowNumber_r2 :List SOper :=[
 ⟨some 5,none,.mov (.tmp 0),0⟩,
 ⟨some 6,none,.len true (.tmp 5),1⟩,
 ⟨some 7,none,.bin .sub .other (.tmp 6) (.const (.int .i64 1)),3⟩,
 ⟨some 4,none,.mov (.tmp 7),7⟩]
def impl_lowNumber_r3 :List SOper :=[
 ⟨some 8,none,.mov (.tmp 4),0⟩,
 ⟨some 9,none,.bin .geq .other (.tmp 8) (.const (.int .i64 0)),1⟩]
def impl_lowNumber_r4 :List SOper :=[
 ⟨some 12,none,.mov (.tmp 3),0⟩,
 ⟨some 13,none,.bin .shl .other (.tmp 12) (.const (.int .u64 8)),1⟩,
 ⟨some 14,none,.mov (.tmp 0),0⟩,
 ⟨some 15,none,.mov (.tmp 4),0⟩,
 ⟨some 16,none,.indexStr (.tmp 14) (.tmp 15),12⟩,
 ⟨some 17,none,.conv (.toInt .i64) (.tmp 16),28⟩,
 ⟨some 18,none,.bin .or .other (.tmp 13) (.tmp 17),63⟩,
 ⟨some 3,none,.mov (.tmp 18),127⟩]
def impl_lowNumber_r5 :List SOper :=[
 ⟨some 10,none,.mov (.tmp 4),0⟩,
 ⟨some 11,none,.bin .sub .other (.tmp 10) (.const (.int .i64 1)),1⟩,
 ⟨some 4,none,.mov (.tmp 11),3⟩]
def impl_lowNumber_l6 :SCode :=(.kp [0,3,4] (.seq (.seq (.region impl_lowNumber_r3 false) (.kp [0,3,4,9] (.cond (.tmp 9) .skip (.exit 0)))) (.kp [0,3,4] (.seq (.block 1 (.region impl_lowNumber_r4 false)) (.kp [0,3,4] (.region impl_lowNumber_r5 false))))))
def impl_lowNumber_r7 :List SOper :=[
 ⟨some 19,none,.mov (.tmp 3),0⟩,
 ⟨some 2,none,.mov (.tmp 19),1⟩]
def impl_lowNumber :SFunc :=⟨20,[.tmp 2],(.kp [0] (.seq (.region impl_lowNumber_r0 false) (.kp [0] (.seq (.region impl_lowNumber_r1 false) (.kp [0,3] (.seq (.seq (.region impl_lowNumber_r2 false) (.kp [0,3,4] (.block 0 (.loop impl_lowNumber_l6)))) (.kp [3] (.seq (.region impl_lowNumber_r7 false) .ret))))))))⟩
def impl_FromBits_r0 :List SOper :=[
 ⟨some 2,none,.mov (.const (.float .f32 0)),0⟩,
 ⟨some 3,none,.mov (.const (.bool false)),1⟩]
def impl_FromBits_r1 (i_impl_within :FuncId) :List SOper :=[
 ⟨some 4,none,.mov (.tmp 0),0⟩,
 ⟨some 5,none,.call (.func i_impl_within) [(.tmp 4),(.const (.int .i64 0)),(.const (.int .i64 4294967295))],1⟩,
 ⟨some 6,none,.un .not (.tmp 5),3⟩]
def impl_FromBits_r2 :List SOper :=[
 ⟨some 2,none,.mov (.const (.float .f32 0)),0⟩,
 ⟨some 3,none,.mov (.const (.bool false)),1⟩]
def impl_FromBits_r3 (i_math_Float32frombits :FuncId) :List SOper :=[
 ⟨some 7,none,.mov (.tmp 0),0⟩,
 ⟨some 8,none,.conv (.toInt .u32) (.tmp 7),1⟩,
 ⟨some 9,none,.call (.func i_math_Float32frombits) [(.tmp 8)],3⟩,
 ⟨some 2,none,.mov (.tmp 9),7⟩,
 ⟨some 3,none,.mov (.const (.bool true)),15⟩]
def impl_FromBits (i_impl_within i_math_Float32frombits :FuncId) :SFunc :=⟨10,[.tmp 2,.tmp 3],(.kp [0] (.seq (.region impl_FromBits_r0 false) (.kp [0] (.seq (.seq (.region (impl_FromBits_r1 i_impl_within) false) (.kp [0,6] (.cond (.tmp 6) (.seq (.region impl_FromBits_r2 false) .ret) .skip))) (.kp [0] (.seq (.region (impl_FromBits_r3 i_math_Float32frombits) false) .ret))))))⟩
def spec_l01From_r0 :List SOper :=[
 ⟨some 2,none,.mov (.const (.float .f32 0)),0⟩]
def spec_l01From_r1 (i_math_Float32frombits :FuncId) :List SOper :=[
 ⟨some 3,none,.mov (.tmp 0),0⟩,
 ⟨some 4,none,.conv (.toInt .u32) (.tmp 3),1⟩,
 ⟨some 5,none,.call (.func i_math_Float32frombits) [(.tmp 4)],3⟩,
 ⟨some 2,none,.mov (.tmp 5),7⟩]
def spec_l01From (i_math_Float32frombits :FuncId) :SFunc :=⟨6,[.tmp 2],(.kp [0] (.seq (.region spec_l01From_r0 false) (.kp [0] (.seq (.region (spec_l01From_r1 i_math_Float32frombits) false) .ret))))⟩
def numB (l :List UInt8) :Nat :=l.foldr (fun b n =>n * 256+b.toNat) 0
theorem numB_lt :∀ l :List UInt8,numB l < 256 ^ l.length
 | [] =>by simp [numB]
 | b::l =>by
  have ih :=numB_lt l
  have hb :=UInt8.toNat_lt b
  have e :numB (b::l)=numB l * 256+b.toNat :=rfl
  rw [e,List.length_cons,Nat.pow_succ]
  omega
theorem numB_drop {l :List UInt8}{i :Nat}(h :i < l.length) :numB (l.drop i)=numB (l.drop (i+1)) * 256+(l.getD i 0).toNat :=by
 rw [List.drop_eq_getElem_cons h,List.getD_eq_getElem?_getD,List.getElem?_eq_getElem h];rfl
theorem shl8_val {q :Nat}(h :q < 4294967296) :IntKind.i64.wrap ((q :Int) * 2 ^ min (Int.toNat 8) IntKind.i64.bits)=((q * 256 :Nat) :Int) :=by
 have :((2 :Int) ^ (min (8 :Int).toNat IntKind.i64.bits))=256 :=by decide
 rw [this,wrap64 (by omega) (by omega)]
 omega
theorem or_val {q b :Nat}(h :q < 4294967296)(hb :b < 256) :IntKind.i64.wrap ((BitVec.ofInt IntKind.i64.bits ((q * 256 :Nat) :Int) ||| BitVec.ofInt IntKind.i64.bits (b :Int)).toNat :Int)=((q * 256+b :Nat) :Int) :=by
 have e1 :(BitVec.ofInt 64 ((q * 256 :Nat) :Int)).toNat=q * 256 :=by simp;omega
 have e2 :(BitVec.ofInt 64 (b :Int)).toNat=b :=by simp;omega
 have e3 :(BitVec.ofInt IntKind.i64.bits ((q * 256 :Nat) :Int) ||| BitVec.ofInt IntKind.i64.bits (b :Int)).toNat=q * 256+b :=by
  show (BitVec.ofInt 64 ((q * 256 :Nat) :Int) ||| BitVec.ofInt 64 (b :Int)).toNat=_
  rw [BitVec.toNat_or,e1,e2]
  have :=Nat.shiftLeft_add_eq_or_of_lt (a :=q) (b :=b) (i :=8) hb
  rw [Nat.shiftLeft_eq] at this
  exact this.symm
 rw [e3,wrap64 (by omega) (by omega)]
def impl_lowNumber_ok (c :Contract) :Prop :=∀ (σ :Heap)(l :List UInt8),l.length=4→Ret c [.string (str l)] σ fun v σ' =>v = .int .i64 (numB l :Nat)∧σ'=σ
theorem impl_lowNumber_law {C :Ctab} :impl_lowNumber_ok (gcC C impl_lowNumber true) :=by
 intro σ l hl
 refine ret_gc rfl rfl ?_
 repeat' (first | refine ff ?_ | ((first | refine sR ?_ ?_ | refine sC ?_ ?_) <;> (intro hb;(try rw [hb]);(try simp only [bb] at hb);(try (exfalso;first | omega | exact hb trivial)))) | (apply endS trivial;rotate_left;(· exact eva);(· rfl);try refine⟨?_,rfl⟩) | fail)
 refine Ev.whlC (S :=Nat × Nat) (fun st =>4 - st.1) (fun st =>[(3,.int .i64 (st.2 :Nat)),(4,.int .i64 (3 - (st.1 :Int)))]) (fun st =>st.1 ≤ 4∧st.2=numB (l.drop (4 - st.1))∧st.2 < 256 ^ st.1) (0,0) (by rw [hl];exact tF) ⟨Nat.zero_le _,by rw [← hl,Nat.sub_zero,List.drop_length];rfl,by simp⟩ ?_
 rintro⟨j,q⟩ F hF ⟨hj,hq,hb⟩
 dsimp only at hF hj hq hb
 (simp only [List.cons_append,List.nil_append,↓fget_cons,fkeep_cons,fkeep_nil,Nat.reduceEqDiff,reduceIte] at hF;subst hF)
 by_cases hlt :j < 4
 ·have hd :=numB_drop (l :=l) (i :=3 - j) (by omega)
  rw [show 3 - j+1=4 - j from by omega,← hq] at hd
  have hb2 :q < 4294967296 :=Nat.lt_of_lt_of_le hb (Nat.le_trans (Nat.pow_le_pow_right (by omega) hj) (by omega))
  have hb3 :q < 16777216 :=Nat.lt_of_lt_of_le hb (Nat.le_trans (Nat.pow_le_pow_right (by omega) (show j ≤ 3 by omega)) (by omega))
  have hbt :=UInt8.toNat_lt (l.getD (3 - j) 0)
  have ho :=or_val hb2 hbt
  have hs :=shl8_val hb2
  have hidx :(3 - (j :Int)).toNat=3 - j :=by omega
  repeat' (first | refine ff ?_ | ((first | refine sR ?_ ?_ | refine sC ?_ ?_) <;> (intro hb;(try rw [hb]);(try simp only [bb] at hb);(try (exfalso;first | omega | exact hb trivial)))) | (apply endS trivial;rotate_left;(· exact eva);(· rfl);try refine⟨?_,rfl⟩) | fail)
  rw [hidx,hs,ho]
  exact⟨(j+1,q * 256+(l.getD (3 - j) 0).toNat),by dsimp only;omega,by dsimp only;rw [show 3 - ((j+1 :Nat) :Int)=3 - (j :Int) - 1 from by omega];simp only [List.cons_append,List.nil_append,↓fget_cons,fkeep_cons,fkeep_nil,Nat.reduceEqDiff,reduceIte],rfl,by dsimp only;omega,by dsimp only;rw [show 4 - (j+1)=3 - j from by omega];exact hd.symm,by dsimp only;rw [Nat.pow_succ];omega⟩
 ·obtain rfl :j=4 :=by omega
  repeat' (first | refine ff ?_ | ((first | refine sR ?_ ?_ | refine sC ?_ ?_) <;> (intro hb;(try rw [hb]);(try simp only [bb] at hb);(try (exfalso;first | omega | exact hb trivial)))) | (apply endS trivial;rotate_left;(· exact eva);(· rfl);try refine⟨?_,rfl⟩) | fail)
  rw [hq];rfl
theorem wrapu32 {n :Nat}(h :n < 4294967296) :IntKind.u32.wrap (n :Int)=n :=by
 simp only [IntKind.wrap]
 simp [IntKind.bits,IntKind.signed]
 omega
def impl_FromBits_ok (c :Contract) :Prop :=∀ (σ :Heap)(n :Nat),n < 4294967296→Ret c [.int .i64 n] σ fun v σ' =>v = .tuple #[.float .f32 n,.bool true]∧σ'=σ
theorem impl_FromBits_law {C :Ctab}{i j :FuncId}{c d :Contract}(h1 :Has C i c impl_within_ok)(h2 :Has C j d math_Float32frombits_ok) :impl_FromBits_ok (gcC C (impl_FromBits i j) true) :=by
 intro σ n hn
 have hin :inR (n :Int) 0 4294967295=true :=by simp [inR];omega
 have hw :=wrapu32 hn
 refine ret_gc rfl rfl ?_
 repeat' (first | refine ff ?_ | (apply EvR.aCall h1.at_;(· exact eva);(· apply h1.ok <;> exact sid);(rintro _ _ ⟨rfl,rfl⟩;refine EvR.nrm ?_;try simp only [hin,hw])) | (apply EvR.aCall h2.at_;(· exact eva);(· apply h2.ok <;> exact sid);(rintro _ _ ⟨rfl,rfl⟩;refine EvR.nrm ?_;try simp only [hin,hw])) | ((first | refine sR ?_ ?_ | refine sC ?_ ?_) <;> (intro hb;(try rw [hb]);(try simp only [bb] at hb);(try (exfalso;first | omega | exact hb trivial)))) | (apply endS trivial;rotate_left;(· exact eva);(· rfl);try refine⟨?_,rfl⟩) | fail)
 all_goals simp [hw]
def spec_l01From_ok (c :Contract) :Prop :=∀ (σ :Heap)(n :Nat),n < 4294967296→Ret c [.int .i64 n] σ fun v σ' =>v = .float .f32 n∧σ'=σ
theorem spec_l01From_law {C :Ctab}{j :FuncId}{d :Contract}(h2 :Has C j d math_Float32frombits_ok) :spec_l01From_ok (gcC C (spec_l01From j) true) :=by
 intro σ n hn
 have hw :=wrapu32 hn
 refine ret_gc rfl rfl ?_
 repeat' (first | refine ff ?_ | (apply EvR.aCall h2.at_;(· exact eva);(· apply h2.ok <;> exact sid);(rintro _ _ ⟨rfl,rfl⟩;refine EvR.nrm ?_;try simp only [hw])) | ((first | refine sR ?_ ?_ | refine sC ?_ ?_) <;> (intro hb;(try rw [hb]);(try simp only [bb] at hb);(try (exfalso;first | omega | exact hb trivial)))) | (apply endS trivial;rotate_left;(· exact eva);(· rfl);try refine⟨?_,rfl⟩) | fail)
 all_goals simp [hw]
end Go.Abs
