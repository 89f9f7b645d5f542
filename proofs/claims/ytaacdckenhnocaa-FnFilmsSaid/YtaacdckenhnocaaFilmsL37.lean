/- Laws of functions: the bytes of a change, by the program. Conditions: the laws of what they call. -/
import Derived.Test.YtaacdckenhnocaaFilmsL36
namespace Go.Abs
set_option linter.unusedSimpArgs false
set_option linter.unusedVariables false
set_option maxHeartbeats 8000000
set_option maxRecDepth 20000
def impl_changeBytes_r0 :List SOper :=[
 ⟨some 4,none,.mov (.const (.string ⟨#[]⟩)),0⟩]
def impl_changeBytes_r1 :List SOper :=[
 ⟨some 14,none,.buildSlice 1 0 [] [],0⟩,
 ⟨some 5,none,.mov (.tmp 14),1⟩]
def impl_changeBytes_r2 :List SOper :=[
 ⟨some 15,none,.mov (.tmp 0),0⟩,
 ⟨some 16,none,.len false (.tmp 15),1⟩,
 ⟨some 17,none,.mov (.const (.int .i64 0)),0⟩]
def impl_changeBytes_r3 :List SOper :=[
 ⟨some 18,none,.bin .lss .other (.tmp 17) (.tmp 16),0⟩]
def impl_changeBytes_r4 :List SOper :=[
 ⟨some 19,none,.mov (.tmp 17),0⟩,
 ⟨some 20,none,.indexAddrS 1 (.tmp 15) (.tmp 17),0⟩,
 ⟨some 21,none,.load1 (.tmp 20),2⟩,
 ⟨some 6,none,.mov (.tmp 19),7⟩,
 ⟨some 7,none,.mov (.tmp 21),15⟩]
def impl_changeBytes_r5 (i_impl_BitsOf :FuncId) :List SOper :=[
 ⟨some 22,none,.mov (.tmp 5),0⟩,
 ⟨some 23,none,.mov (.tmp 7),0⟩,
 ⟨some 24,none,.call (.func i_impl_BitsOf) [(.tmp 23)],2⟩,
 ⟨some 25,none,.mov (.tmp 1),0⟩,
 ⟨some 26,none,.mov (.tmp 6),0⟩,
 ⟨some 27,none,.indexAddrS 1 (.tmp 25) (.tmp 26),24⟩,
 ⟨some 28,none,.load1 (.tmp 27),56⟩,
 ⟨some 29,none,.call (.func i_impl_BitsOf) [(.tmp 28)],126⟩,
 ⟨some 30,none,.bin .xor .other (.tmp 24) (.tmp 29),254⟩,
 ⟨some 31,none,.buildSlice 1 1 [(.int .i64 0)] [(0,1,(.tmp 30))],510⟩,
 ⟨some 32,none,.append 1 8 (.tmp 22) (.tmp 31),1023⟩,
 ⟨some 5,none,.mov (.tmp 32),2047⟩]
def impl_changeBytes_r6 :List SOper :=[
 ⟨some 33,none,.bin .add .other (.tmp 17) (.const (.int .i64 1)),0⟩,
 ⟨some 17,none,.mov (.tmp 33),1⟩]
def impl_changeBytes_l7 (i_impl_BitsOf :FuncId) :SCode :=(.kp [1,5,15,16,17] (.seq (.region impl_changeBytes_r3 false) (.kp [1,5,15,16,17,18] (.seq (.cond (.tmp 18) .skip (.exit 0)) (.kp [1,5,15,16,17] (.seq (.block 1 (.seq (.region impl_changeBytes_r4 false) (.kp [1,5,6,7,15,16,17] (.region (impl_changeBytes_r5 i_impl_BitsOf) true)))) (.kp [1,5,15,16,17] (.region impl_changeBytes_r6 false))))))))
def impl_changeBytes_r8 :List SOper :=[
 ⟨some 34,none,.buildSlice 1 0 [] [],0⟩,
 ⟨some 8,none,.mov (.tmp 34),1⟩]
def impl_changeBytes_r9 :List SOper :=[
 ⟨some 9,none,.mov (.const (.int .i64 0)),0⟩]
def impl_changeBytes_r10 :List SOper :=[
 ⟨some 35,none,.mov (.tmp 9),0⟩,
 ⟨some 36,none,.mov (.tmp 5),0⟩,
 ⟨some 37,none,.len false (.tmp 36),2⟩,
 ⟨some 38,none,.bin .lss .other (.tmp 35) (.tmp 37),7⟩]
def impl_changeBytes_r11 :List SOper :=[
 ⟨some 10,none,.mov (.const (.int .i64 0)),0⟩]
def impl_changeBytes_r12 :List SOper :=[
 ⟨some 39,none,.mov (.tmp 10),0⟩,
 ⟨some 40,none,.bin .lss .other (.tmp 39) (.const (.int .i64 255)),1⟩,
 ⟨some 41,none,.mov (.tmp 40),3⟩,
  ⟨(some 42),(some (41,true)),.mov (.tmp 9),7⟩,
  ⟨(some 43),(some (41,true)),.mov (.tmp 10),7⟩,
  ⟨(some 44),(some (41,true)),.bin .add .other (.tmp 42) (.tmp 43),31⟩,
  ⟨(some 45),(some (41,true)),.mov (.tmp 5),7⟩,
  ⟨(some 46),(some (41,true)),.len false (.tmp 45),71⟩,
  ⟨(some 47),(some (41,true)),.bin .lss .other (.tmp 44) (.tmp 46),255⟩,
 ⟨some 48,none,.pick (.tmp 41) (.tmp 47) (.const (.bool false)),511⟩,
 ⟨some 49,none,.mov (.tmp 48),1023⟩,
  ⟨(some 50),(some (49,true)),.mov (.tmp 5),2047⟩,
  ⟨(some 51),(some (49,true)),.mov (.tmp 9),2047⟩,
  ⟨(some 52),(some (49,true)),.mov (.tmp 10),2047⟩,
  ⟨(some 53),(some (49,true)),.bin .add .other (.tmp 51) (.tmp 52),14335⟩,
  ⟨(some 54),(some (49,true)),.indexAddrS 1 (.tmp 50) (.tmp 53),32767⟩,
  ⟨(some 55),(some (49,true)),.load1 (.tmp 54),65535⟩,
  ⟨(some 56),(some (49,true)),.bin .eql .other (.tmp 55) (.const (.int .i64 0)),131071⟩,
 ⟨some 57,none,.pick (.tmp 49) (.tmp 56) (.const (.bool false)),262143⟩]
def impl_changeBytes_r13 :List SOper :=[
 ⟨some 58,none,.mov (.tmp 10),0⟩,
 ⟨some 59,none,.bin .add .other (.tmp 58) (.const (.int .i64 1)),1⟩,
 ⟨some 10,none,.mov (.tmp 59),3⟩]
def impl_changeBytes_l14 :SCode :=(.kp [5,8,9,10] (.seq (.seq (.region impl_changeBytes_r12 false) (.kp [5,8,9,10,57] (.cond (.tmp 57) .skip (.exit 4)))) (.kp [5,8,9,10] (.block 5 (.region impl_changeBytes_r13 false)))))
def impl_changeBytes_r15 :List SOper :=[
 ⟨some 60,none,.mov (.tmp 9),0⟩,
 ⟨some 61,none,.mov (.tmp 10),0⟩,
 ⟨some 62,none,.bin .add .other (.tmp 60) (.tmp 61),3⟩,
 ⟨some 9,none,.mov (.tmp 62),7⟩]
def impl_changeBytes_r16 :List SOper :=[
 ⟨some 11,none,.mov (.const (.int .i64 0)),0⟩]
def impl_changeBytes_r17 :List SOper :=[
 ⟨some 63,none,.mov (.tmp 11),0⟩,
 ⟨some 64,none,.bin .lss .other (.tmp 63) (.const (.int .i64 255)),1⟩,
 ⟨some 65,none,.mov (.tmp 64),3⟩,
  ⟨(some 66),(some (65,true)),.mov (.tmp 9),7⟩,
  ⟨(some 67),(some (65,true)),.mov (.tmp 11),7⟩,
  ⟨(some 68),(some (65,true)),.bin .add .other (.tmp 66) (.tmp 67),31⟩,
  ⟨(some 69),(some (65,true)),.mov (.tmp 5),7⟩,
  ⟨(some 70),(some (65,true)),.len false (.tmp 69),71⟩,
  ⟨(some 71),(some (65,true)),.bin .lss .other (.tmp 68) (.tmp 70),255⟩,
 ⟨some 72,none,.pick (.tmp 65) (.tmp 71) (.const (.bool false)),511⟩,
 ⟨some 73,none,.mov (.tmp 72),1023⟩,
  ⟨(some 74),(some (73,true)),.mov (.tmp 5),2047⟩,
  ⟨(some 75),(some (73,true)),.mov (.tmp 9),2047⟩,
  ⟨(some 76),(some (73,true)),.mov (.tmp 11),2047⟩,
  ⟨(some 77),(some (73,true)),.bin .add .other (.tmp 75) (.tmp 76),14335⟩,
  ⟨(some 78),(some (73,true)),.indexAddrS 1 (.tmp 74) (.tmp 77),32767⟩,
  ⟨(some 79),(some (73,true)),.load1 (.tmp 78),65535⟩,
  ⟨(some 80),(some (73,true)),.bin .neq .other (.tmp 79) (.const (.int .i64 0)),131071⟩,
 ⟨some 81,none,.pick (.tmp 73) (.tmp 80) (.const (.bool false)),262143⟩]
def impl_changeBytes_r18 :List SOper :=[
 ⟨some 82,none,.mov (.tmp 11),0⟩,
 ⟨some 83,none,.bin .add .other (.tmp 82) (.const (.int .i64 1)),1⟩,
 ⟨some 11,none,.mov (.tmp 83),3⟩]
def impl_changeBytes_l19 :SCode :=(.kp [5,8,9,10,11] (.seq (.seq (.region impl_changeBytes_r17 false) (.kp [5,8,9,10,11,81] (.cond (.tmp 81) .skip (.exit 6)))) (.kp [5,8,9,10,11] (.block 7 (.region impl_changeBytes_r18 false)))))
def impl_changeBytes_r20 :List SOper :=[
 ⟨some 84,none,.mov (.tmp 8),0⟩,
 ⟨some 85,none,.mov (.tmp 10),0⟩,
 ⟨some 86,none,.conv (.toInt .u8) (.tmp 85),2⟩,
 ⟨some 87,none,.mov (.tmp 11),0⟩,
 ⟨some 88,none,.conv (.toInt .u8) (.tmp 87),8⟩,
 ⟨some 89,none,.buildSlice 1 2 [(.int .u8 0),(.int .u8 0)] [(0,1,(.tmp 86)),(1,1,(.tmp 88))],30⟩,
 ⟨some 90,none,.append 1 1 (.tmp 84) (.tmp 89),63⟩,
 ⟨some 8,none,.mov (.tmp 90),127⟩]
def impl_changeBytes_r21 :List SOper :=[
 ⟨some 91,none,.mov (.tmp 5),0⟩,
 ⟨some 92,none,.mov (.tmp 9),0⟩,
 ⟨some 93,none,.mov (.tmp 9),0⟩,
 ⟨some 94,none,.mov (.tmp 11),0⟩,
 ⟨some 95,none,.bin .add .other (.tmp 93) (.tmp 94),12⟩,
 ⟨some 96,none,.sliceSl 1 (.tmp 91) (some (.tmp 92)) (some (.tmp 95)),31⟩,
 ⟨some 97,none,.len false (.tmp 96),63⟩,
 ⟨some 98,none,.mov (.const (.int .i64 0)),0⟩]
def impl_changeBytes_r22 :List SOper :=[
 ⟨some 99,none,.bin .lss .other (.tmp 98) (.tmp 97),0⟩]
def impl_changeBytes_r23 :List SOper :=[
 ⟨some 100,none,.indexAddrS 1 (.tmp 96) (.tmp 98),0⟩,
 ⟨some 101,none,.load1 (.tmp 100),1⟩,
 ⟨some 13,none,.mov (.tmp 101),3⟩]
def impl_changeBytes_r24 (i_impl_lowBytes :FuncId) :List SOper :=[
 ⟨some 102,none,.mov (.tmp 8),0⟩,
 ⟨some 103,none,.mov (.tmp 13),0⟩,
 ⟨some 104,none,.call (.func i_impl_lowBytes) [(.tmp 103),(.const (.int .i64 4))],2⟩,
 ⟨some 105,none,.append 1 1 (.tmp 102) (.tmp 104),7⟩,
 ⟨some 8,none,.mov (.tmp 105),15⟩]
def impl_changeBytes_r25 :List SOper :=[
 ⟨some 106,none,.bin .add .other (.tmp 98) (.const (.int .i64 1)),0⟩,
 ⟨some 98,none,.mov (.tmp 106),1⟩]
def impl_changeBytes_l26 (i_impl_lowBytes :FuncId) :SCode :=(.kp [5,8,9,11,96,97,98] (.seq (.region impl_changeBytes_r22 false) (.kp [5,8,9,11,96,97,98,99] (.seq (.cond (.tmp 99) .skip (.exit 8)) (.kp [5,8,9,11,96,97,98] (.seq (.block 9 (.seq (.region impl_changeBytes_r23 false) (.kp [5,8,9,11,13,96,97,98] (.region (impl_changeBytes_r24 i_impl_lowBytes) false)))) (.kp [5,8,9,11,96,97,98] (.region impl_changeBytes_r25 false))))))))
def impl_changeBytes_r27 :List SOper :=[
 ⟨some 107,none,.mov (.tmp 9),0⟩,
 ⟨some 108,none,.mov (.tmp 11),0⟩,
 ⟨some 109,none,.bin .add .other (.tmp 107) (.tmp 108),3⟩,
 ⟨some 9,none,.mov (.tmp 109),7⟩]
def impl_changeBytes_l28 (i_impl_lowBytes :FuncId) :SCode :=(.kp [5,8,9] (.seq (.seq (.region impl_changeBytes_r10 false) (.kp [5,8,9,38] (.cond (.tmp 38) .skip (.exit 2)))) (.kp [5,8,9] (.block 3 (.seq (.region impl_changeBytes_r11 false) (.kp [5,8,9,10] (.seq (.block 4 (.loop impl_changeBytes_l14)) (.kp [5,8,9,10] (.seq (.region impl_changeBytes_r15 false) (.kp [5,8,9,10] (.seq (.region impl_changeBytes_r16 false) (.kp [5,8,9,10,11] (.seq (.block 6 (.loop impl_changeBytes_l19)) (.kp [5,8,9,10,11] (.seq (.region impl_changeBytes_r20 false) (.kp [5,8,9,11] (.seq (.seq (.region impl_changeBytes_r21 false) (.kp [5,8,9,11,96,97,98] (.block 8 (.loop (impl_changeBytes_l26 i_impl_lowBytes))))) (.kp [5,8,9,11] (.region impl_changeBytes_r27 false)))))))))))))))))))
def impl_changeBytes_r29 :List SOper :=[
 ⟨some 110,none,.mov (.tmp 8),0⟩,
 ⟨some 111,none,.conv .toStr (.tmp 110),1⟩,
 ⟨some 4,none,.mov (.tmp 111),3⟩]
def impl_changeBytes (i_impl_BitsOf i_impl_lowBytes :FuncId) :SFunc :=⟨112,[.tmp 4],(.kp [0,1] (.seq (.region impl_changeBytes_r0 false) (.kp [0,1] (.seq (.region impl_changeBytes_r1 false) (.kp [0,1,5] (.seq (.seq (.region impl_changeBytes_r2 false) (.kp [1,5,15,16,17] (.block 0 (.loop (impl_changeBytes_l7 i_impl_BitsOf))))) (.kp [5] (.seq (.region impl_changeBytes_r8 false) (.kp [5,8] (.seq (.seq (.region impl_changeBytes_r9 false) (.kp [5,8,9] (.block 2 (.loop (impl_changeBytes_l28 i_impl_lowBytes))))) (.kp [8] (.seq (.region impl_changeBytes_r29 false) .ret))))))))))))⟩
theorem impl_changeBytes_r5_dr {i_impl_BitsOf :FuncId} :drawOkW wStat (impl_changeBytes_r5 i_impl_BitsOf)=true :=by kernel_rfl
attribute [push_cast] impl_changeBytes_r5_dr
def runZ (q :Nat→Bool)(n :Nat) :Nat→Nat→Nat
 | 0,_ =>0
 | f+1,a =>if a < n∧q a=true then 1+runZ q n f (a+1) else 0
theorem runZ_go {q :Nat→Bool}{n a z :Nat}(h1 :z < 255)(h2 :a+z < n)(h3 :q (a+z)=true) :runZ q n (255 - z) (a+z)=1+runZ q n (255 - (z+1)) (a+(z+1)) :=by
 rw [show 255 - z=(255 - (z+1))+1 from by omega,runZ,if_pos ⟨h2,h3⟩]
 rfl
theorem runZ_stop {q :Nat→Bool}{n a z :Nat}(h :¬ (z < 255∧a+z < n∧q (a+z)=true)) :runZ q n (255 - z) (a+z)=0 :=by
 by_cases h1 :z < 255
 ·rw [show 255 - z=(254 - z)+1 from by omega,runZ,if_neg (fun h2 =>h ⟨h1,h2⟩)]
 ·rw [show 255 - z=0 from by omega];rfl
theorem runZ_le (q :Nat→Bool)(n :Nat) :∀ f a,runZ q n f a ≤ f∧(a ≤ n→a+runZ q n f a ≤ n)
 | 0,a =>⟨Nat.le_refl _,fun h =>h⟩
 | f+1,a =>by
  have ih :=runZ_le q n f (a+1)
  unfold runZ
  split
  ·rename_i h
   exact⟨by omega,fun _ =>by have :=ih.2 (by omega);omega⟩
  ·exact⟨by omega,fun h =>h⟩
theorem runZ_pos {q :Nat→Bool}{n a :Nat}(h :a < n)(hq :q a=true) :1 ≤ runZ q n 255 a :=by
 rw [show 255=254+1 from rfl,runZ,if_pos ⟨h,hq⟩];omega
def isZ (x :Nat→Nat)(i :Nat) :Bool :=decide (x i=0)
def notZ (x :Nat→Nat)(i :Nat) :Bool :=!decide (x i=0)
def words (x :Nat→Nat)(a o :Nat) :List UInt8 :=(List.range o).flatMap fun k =>lowB (x (a+k)) 4
theorem words_succ (x :Nat→Nat)(a o :Nat) :words x a (o+1)=words x a o++lowB (x (a+o)) 4 :=by simp [words,List.range_succ]
theorem words_length (x :Nat→Nat)(a :Nat) :∀ o,(words x a o).length=4 * o
 | 0 =>rfl
 | o+1 =>by rw [words_succ,List.length_append,words_length x a o,lowB_length];omega
def chg (x :Nat→Nat)(n :Nat) :Nat→Nat→List UInt8
 | 0,_ =>[]
 | f+1,a =>if a < n then
  (byteOf (runZ (isZ x) n 255 a :Nat)::byteOf (runZ (notZ x) n 255 (a+runZ (isZ x) n 255 a) :Nat)::words x (a+runZ (isZ x) n 255 a) (runZ (notZ x) n 255 (a+runZ (isZ x) n 255 a))) ++
   chg x n f (a+runZ (isZ x) n 255 a+runZ (notZ x) n 255 (a+runZ (isZ x) n 255 a))
  else []
theorem chg_step {x :Nat→Nat}{n a f Z O :Nat}(h :a < n)(hZ :runZ (isZ x) n 255 a=Z)(hO :runZ (notZ x) n 255 (a+Z)=O) :chg x n (f+1) a=(byteOf (Z :Nat)::byteOf (O :Nat)::words x (a+Z) O)++chg x n f (a+Z+O) :=by
 subst hZ hO
 rw [chg,if_pos h]
theorem chg_end {x :Nat→Nat}{n a :Nat}(h :¬ a < n) :∀ f,chg x n f a=[]
 | 0 =>rfl
 | f+1 =>by unfold chg;rw [if_neg h]
theorem run_progress (x :Nat→Nat){n a :Nat}(h :a < n) :1 ≤ runZ (isZ x) n 255 a+runZ (notZ x) n 255 (a+runZ (isZ x) n 255 a) :=by
 by_cases h0 :x a=0
 ·have :=runZ_pos (q :=isZ x) h (by simp [isZ,h0]);omega
 ·have hz :runZ (isZ x) n 255 a=0 :=by
   have :=runZ_stop (q :=isZ x) (n :=n) (a :=a) (z :=0) (by simp [isZ,h0])
   simpa using this
  rw [hz,Nat.add_zero]
  have :=runZ_pos (q :=notZ x) h (by simp [notZ,h0]);omega
theorem xor_val {x y :Nat}(hx :x < 4294967296)(hy :y < 4294967296) :IntKind.i64.wrap ((BitVec.ofInt IntKind.i64.bits (x :Int) ^^^ BitVec.ofInt IntKind.i64.bits (y :Int)).toNat :Int)=((x ^^^ y :Nat) :Int) :=by
 have :=bin_xor32 (ek :=.other) hx hy
 rw [bin_xor] at this
 simpa using this
def xb (a b :List Nat)(k :Nat) :Nat :=bitsC (a.getD k 0) ^^^ bitsC (b.getD k 0)
def lows (xs :List Nat) :Prop :=∀ i,i < xs.length→xs.getD i 0 < 4294967296
theorem lows_of {xs :List Nat}(h :∀ x ∈ xs,x < 4294967296) :lows xs :=by
 intro i hi
 refine h _ ?_
 rw [List.getD_eq_getElem?_getD,List.getElem?_eq_getElem hi];simp
theorem xb_lt {a b :List Nat}{k :Nat}(ha :a.getD k 0 < 4294967296)(hb :b.getD k 0 < 4294967296) :xb a b k < 4294967296 :=Nat.xor_lt_two_pow (n :=32) (bitsC_lt ha) (bitsC_lt hb)
def dL (x :Nat→Nat)(n :Nat) :List Int :=(List.range n).map fun k =>((x k :Nat) :Int)
theorem dL_length (x :Nat→Nat)(n :Nat) :(dL x n).length=n :=by simp [dL]
theorem dL_succ (x :Nat→Nat)(n :Nat) :dL x (n+1)=dL x n++[((x n :Nat) :Int)] :=by simp [dL,List.range_succ]
theorem dL_get (x :Nat→Nat){n i :Nat}(h :i < n) :(dL x n).getD i 0=((x i :Nat) :Int) :=by
 rw [List.getD_eq_getElem?_getD,dL,List.getElem?_map,List.getElem?_range h];rfl
theorem row_sub {τ :Heap}{b n lo hi :Nat}{xs :List Int}{r :Bool}(h :τ[b]? = some ⟨i64s xs,1,r⟩)(hn :xs.length=n)(h1 :lo ≤ hi)(h2 :hi ≤ n) :
 ∃ w,(∀ l,aSliceSl (τ++l) 1 (.slice (some ⟨b,0,none⟩) n n) (some (.int .i64 (lo :Nat))) (some (.int .i64 (hi :Nat)))=some w)∧Row τ 1 w (hi - lo) (i64s ((xs.drop lo).take (hi - lo))) :=by
 have hlt :=(List.getElem?_eq_some_iff.1 h).1
 refine⟨.slice (some ⟨b,lo,none⟩) (hi - lo) (n - lo),fun l =>?_,?_⟩
 ·have e :rowAt (τ++l) 1 ⟨b,0,none⟩ n=some ⟨i64s xs,1,r⟩ :=rowAt_mk (by rw [List.getElem?_append_left hlt];exact h) rfl (by rw [i64s_length];simp;omega) (by omega)
  simp only [aSliceSl,e,idx]
  rw [if_pos (by omega)]
  have g1 :0+(lo :Int).toNat * 1=lo :=by omega
  have g2 :((hi :Int) - (lo :Int)).toNat=hi - lo :=by omega
  have g3 :n - (lo :Int).toNat=n - lo :=by omega
  rw [g1,g2,g3]
 ·unfold Row
  refine⟨rfl,by omega,⟨i64s xs,1,r⟩,rowAt_mk h rfl (by rw [i64s_length];simp;omega) (by omega),?_⟩
  simp [i64s,List.map_take,List.map_drop]
def changeBytes_ok (c :Contract) :Prop :=∀ (σ :Heap)(va vb :Value)(a b :List Nat),Row σ 1 va a.length (f32s a)→Row σ 1 vb b.length (f32s b)→b.length=a.length→a.length ≤ 768→lows a→lows b →
 Ret c [va,vb] σ fun v σ' =>v = .string (str (chg (xb a b) a.length (a.length+1) 0))∧σ'=σ
abbrev impl_changeBytes_ok :=changeBytes_ok
theorem impl_changeBytes_law {C :Ctab}{i1 i2 :FuncId}{c1 c2 :Contract}(h1 :Has C i1 c1 impl_BitsOf_ok)(h2 :Has C i2 c2 impl_lowBytes_ok) :impl_changeBytes_ok (gcC C (impl_changeBytes i1 i2) true) :=by
 intro σ va vb a b r1 r2 hab hn la lb
 obtain⟨n,en⟩ :∃ n,n=a.length :=⟨_,rfl⟩
 obtain⟨x,ex⟩ :∃ x,x=xb a b :=⟨_,rfl⟩
 rw [← en,← ex]
 have hx :∀ k,k < n→x k < 4294967296 :=fun k hk =>by rw [ex];exact xb_lt (la k (by omega)) (lb k (by omega))
 refine ret_gc rfl rfl ?_
 repeat' (first | refine ff ?_ | ((first | refine sR ?_ ?_ | refine sC ?_ ?_) <;> (intro hb;(try rw [hb]);(try simp only [bb] at hb);(try (exfalso;first | omega | exact hb trivial)))) | (apply endS trivial;rotate_left;(· exact eva);(· rfl);try refine⟨?_,rfl⟩) | fail)
 refine Ev.whlH (S :=Nat × Heap) (fun st =>n - st.1) (fun st =>[(5,.slice (some ⟨σ.length+0,0,none⟩) st.1 st.1),(17,.int .i64 st.1)]) (fun st =>σ++(rowI (dL x st.1)::st.2)) (fun st =>st.1 ≤ n) (0,[]) (by exact tF) rfl (Nat.zero_le _) ?_
 rintro⟨i,rub⟩ F hF hi
 dsimp only at hi hF ⊢
 (simp only [List.cons_append,List.nil_append,↓fget_cons,fkeep_cons,fkeep_nil,Nat.reduceEqDiff,reduceIte] at hF;subst hF)
 have hlen :=dL_length x i
 by_cases hlt :i < n
 ·have ha :=la i (by omega)
  have hb :=lb i (by omega)
  have wa :=bitsC_lt ha
  have wb :=bitsC_lt hb
  have hs :=dL_succ x i
  have hxi :x i=bitsC (a.getD i 0) ^^^ bitsC (b.getD i 0) :=by rw [ex];rfl
  have hv :=xor_val wa wb
  repeat' (first | refine ff ?_ | (apply EvR.aCall h1.at_;(· exact eva);(· apply h1.ok <;> exact sid);(rintro _ _ ⟨rfl,rfl⟩;refine EvR.nrm ?_)) | ((first | refine sR ?_ ?_ | refine sC ?_ ?_) <;> (intro hb;(try rw [hb]);(try simp only [bb] at hb);(try (exfalso;first | omega | exact hb trivial)))) | (apply endS trivial;rotate_left;(· exact eva);(· rfl);try refine⟨?_,rfl⟩) | fail)
  exact⟨(i+1,rub++[rowI [((x i :Nat) :Int)]]),by dsimp only;omega,by exact tF,by dsimp only;rw [hs,hv,← hxi];rfl,by dsimp only;omega⟩
 ·obtain rfl :i=n :=by omega
  obtain⟨τ,hτ⟩ :∃ τ,τ=σ++(rowI (dL x i)::rub) :=⟨_,rfl⟩
  rw [show σ++(rowI (dL x i)::rub)=τ++[] from by rw [hτ,List.append_nil]]
  have hrow :τ[σ.length+0]? = some ⟨i64s (dL x i),1,true⟩ :=by rw [hτ,hget];rfl
  have hr :Row τ 1 (.slice (some ⟨σ.length+0,0,none⟩) i i) (dL x i).length (i64s (dL x i)) :=by rw [hlen];exact Row.whole hrow (by omega) (by rw [i64s_length,hlen];omega)
  have hsub :∀ lo hi :Nat,lo ≤ hi→hi ≤ i → ∃ w,(∀ l,aSliceSl (τ++l) 1 (.slice (some ⟨σ.length+0,0,none⟩) i i) (some (.int .i64 (lo :Nat))) (some (.int .i64 (hi :Nat)))=some w)∧Row τ 1 w (hi - lo) (i64s (((dL x i).drop lo).take (hi - lo))) :=fun lo hi h1 h2 =>row_sub hrow hlen h1 h2
  generalize Value.slice (some ⟨σ.length+0,0,none⟩) i i=v5 at hr hsub ⊢
  have hd :∀ k,k < i→(dL x i).getD k 0=((x k :Nat) :Int) :=fun k hk =>dL_get x hk
  repeat' (first | refine ff ?_ | ((first | refine sR ?_ ?_ | refine sC ?_ ?_) <;> (intro hb;(try rw [hb]);(try simp only [bb] at hb);(try (exfalso;first | omega | exact hb trivial)))) | (apply endS trivial;rotate_left;(· exact eva);(· rfl);try refine⟨?_,rfl⟩) | fail)
  obtain⟨T,eT⟩ :∃ T,chg x i (i+1) 0=T :=⟨_,rfl⟩
  rw [eT]
  refine Ev.whlH (S :=Nat × Nat × List UInt8 × Heap) (fun st =>i - st.1) (fun st =>[(8,.slice (some ⟨τ.length+0,0,none⟩) st.2.2.1.length st.2.2.1.length),(9,.int .i64 st.1)]) (fun st =>τ++(⟨b8s st.2.2.1,1,true⟩::st.2.2.2)) (fun st =>st.1 ≤ i∧i < st.1+st.2.1∧st.2.2.1++chg x i st.2.1 st.1=T∧st.2.2.1.length ≤ 6 * st.1) (0,i+1,[],[]) (by exact tF) rfl ⟨Nat.zero_le _,by dsimp only;omega,eT,Nat.le_refl _⟩ ?_
  rintro⟨p,f,out,rub2⟩ F hF ⟨hp,hf,hT,ho⟩
  dsimp only at hp hF hf hT ho ⊢
  (simp only [List.cons_append,List.nil_append,↓fget_cons,fkeep_cons,fkeep_nil,Nat.reduceEqDiff,reduceIte] at hF;subst hF)
  by_cases hlt2 :p < i
  ·obtain⟨Z,hZ⟩ :∃ Z,runZ (isZ x) i 255 p=Z :=⟨_,rfl⟩
   obtain⟨O,hO⟩ :∃ O,runZ (notZ x) i 255 (p+Z)=O :=⟨_,rfl⟩
   have hpr :=run_progress x hlt2
   have b1 :=runZ_le (isZ x) i 255 p
   have b2 :=runZ_le (notZ x) i 255 (p+Z)
   rw [hZ,hO] at hpr
   rw [hZ] at b1
   rw [hO] at b2
   repeat' (first | refine ff ?_ | ((first | refine sR ?_ ?_ | refine sC ?_ ?_) <;> (intro hb;(try rw [hb]);(try simp only [bb] at hb);(try (exfalso;first | omega | exact hb trivial)))) | (apply endS trivial;rotate_left;(· exact eva);(· rfl);try refine⟨?_,rfl⟩) | fail)
   refine Ev.mono (Q :=fun o F' σ' =>o = .exit 4∧fkeep [5,8,9,10] F'=[(5,v5),(8,.slice (some ⟨τ.length+0,0,none⟩) out.length out.length),(9,.int .i64 (p :Nat)),(10,.int .i64 (Z :Nat))]∧σ'=τ++(⟨b8s out,1,true⟩::rub2)) ?_ ?_
   ·refine Ev.whlC (S :=Nat) (fun z =>256 - z) (fun z =>[(10,.int .i64 z)]) (fun z =>z ≤ 255∧p+z ≤ i∧z+runZ (isZ x) i (255 - z) (p+z)=Z) 0 (by exact tF) ⟨by omega,by omega,by rw [Nat.zero_add];exact hZ⟩ ?_
    rintro z F hF ⟨z1,z2,z3⟩
    (simp only [List.cons_append,List.nil_append,↓fget_cons,fkeep_cons,fkeep_nil,Nat.reduceEqDiff,reduceIte] at hF;subst hF)
    by_cases c1 :z < 255
    ·by_cases c2 :p+z < i
     ·have hd1 :=hd (p+z) c2
      have hd2 :(dL x i).getD ((p :Nat)+(z :Int)).toNat 0=((x (p+z) :Nat) :Int) :=by rw [show ((p :Nat)+(z :Int)).toNat=p+z from by omega];exact hd1
      by_cases c3 :x (p+z)=0
      ·have hgo :=runZ_go (q :=isZ x) c1 c2 (by simp [isZ,c3])
       repeat' (first | refine ff ?_ | ((first | refine sR ?_ ?_ | refine sC ?_ ?_) <;> (intro hb;(try rw [hb]);(try simp only [bb] at hb);(try (exfalso;first | omega | exact hb trivial)))) | (apply endS trivial;rotate_left;(· exact eva);(· rfl);try refine⟨?_,rfl⟩) | fail)
       exact⟨z+1,by omega,by exact tF,rfl,by omega,by omega,by omega⟩
      ·have hst :=runZ_stop (q :=isZ x) (n :=i) (a :=p) (z :=z) (by simp [isZ,c3])
       have hzV :z=Z :=by omega
       repeat' (first | refine ff ?_ | ((first | refine sR ?_ ?_ | refine sC ?_ ?_) <;> (intro hb;(try rw [hb]);(try simp only [bb] at hb);(try (exfalso;first | omega | exact hb trivial)))) | (apply endS trivial;rotate_left;(· exact eva);(· rfl);try refine⟨?_,rfl⟩) | fail)
       exact⟨rfl,by rw [hzV];rfl,rfl⟩
     ·have hst :=runZ_stop (q :=isZ x) (n :=i) (a :=p) (z :=z) (by omega)
      have hzV :z=Z :=by omega
      repeat' (first | refine ff ?_ | ((first | refine sR ?_ ?_ | refine sC ?_ ?_) <;> (intro hb;(try rw [hb]);(try simp only [bb] at hb);(try (exfalso;first | omega | exact hb trivial)))) | (apply endS trivial;rotate_left;(· exact eva);(· rfl);try refine⟨?_,rfl⟩) | fail)
      exact⟨rfl,by rw [hzV];rfl,rfl⟩
    ·have hst :=runZ_stop (q :=isZ x) (n :=i) (a :=p) (z :=z) (by omega)
     have hzV :z=Z :=by omega
     repeat' (first | refine ff ?_ | ((first | refine sR ?_ ?_ | refine sC ?_ ?_) <;> (intro hb;(try rw [hb]);(try simp only [bb] at hb);(try (exfalso;first | omega | exact hb trivial)))) | (apply endS trivial;rotate_left;(· exact eva);(· rfl);try refine⟨?_,rfl⟩) | fail)
     exact⟨rfl,by rw [hzV];rfl,rfl⟩
   rintro _ _ _ ⟨rfl,hF2,rfl⟩
   apply blkQ.e
   apply thenQ.n
   refine Ev.kp hF2 ?_
   repeat' (first | refine ff ?_ | ((first | refine sR ?_ ?_ | refine sC ?_ ?_) <;> (intro hb;(try rw [hb]);(try simp only [bb] at hb);(try (exfalso;first | omega | exact hb trivial)))) | (apply endS trivial;rotate_left;(· exact eva);(· rfl);try refine⟨?_,rfl⟩) | fail)
   refine Ev.mono (Q :=fun o F' σ' =>o = .exit 6∧fkeep [5,8,9,10,11] F'=[(5,v5),(8,.slice (some ⟨τ.length+0,0,none⟩) out.length out.length),(9,.int .i64 ((p+Z :Nat) :Int)),(10,.int .i64 (Z :Nat)),(11,.int .i64 (O :Nat))]∧σ'=τ++(⟨b8s out,1,true⟩::rub2)) ?_ ?_
   ·refine Ev.whlC (S :=Nat) (fun z =>256 - z) (fun z =>[(11,.int .i64 z)]) (fun z =>z ≤ 255∧(p+Z)+z ≤ i∧z+runZ (notZ x) i (255 - z) ((p+Z)+z)=O) 0 (by exact tF) ⟨by omega,by omega,by rw [Nat.zero_add];exact hO⟩ ?_
    rintro z F hF ⟨z1,z2,z3⟩
    (simp only [List.cons_append,List.nil_append,↓fget_cons,fkeep_cons,fkeep_nil,Nat.reduceEqDiff,reduceIte] at hF;subst hF)
    by_cases c1 :z < 255
    ·by_cases c2 :(p+Z)+z < i
     ·have hd1 :=hd ((p+Z)+z) c2
      have hd3 :(dL x i).getD ((p :Int)+(Z :Int)+(z :Int)).toNat 0=((x ((p+Z)+z) :Nat) :Int) :=by rw [show ((p :Int)+(Z :Int)+(z :Int)).toNat=p+Z+z from by omega];exact hd1
      have hd2 :(dL x i).getD (((p+Z) :Nat)+(z :Int)).toNat 0=((x ((p+Z)+z) :Nat) :Int) :=by rw [show (((p+Z) :Nat)+(z :Int)).toNat=(p+Z)+z from by omega];exact hd1
      by_cases c3 :x ((p+Z)+z)=0
      ·have hst :=runZ_stop (q :=notZ x) (n :=i) (a :=(p+Z)) (z :=z) (by simp [notZ,c3])
       have hzV :z=O :=by omega
       repeat' (first | refine ff ?_ | ((first | refine sR ?_ ?_ | refine sC ?_ ?_) <;> (intro hb;(try rw [hb]);(try simp only [bb] at hb);(try (exfalso;first | omega | exact hb trivial)))) | (apply endS trivial;rotate_left;(· exact eva);(· rfl);try refine⟨?_,rfl⟩) | fail)
       exact⟨rfl,by rw [hzV];rfl,rfl⟩
      ·have hgo :=runZ_go (q :=notZ x) c1 c2 (by simp [notZ,c3])
       repeat' (first | refine ff ?_ | ((first | refine sR ?_ ?_ | refine sC ?_ ?_) <;> (intro hb;(try rw [hb]);(try simp only [bb] at hb);(try (exfalso;first | omega | exact hb trivial)))) | (apply endS trivial;rotate_left;(· exact eva);(· rfl);try refine⟨?_,rfl⟩) | fail)
       exact⟨z+1,by omega,by exact tF,rfl,by omega,by omega,by omega⟩
     ·have hst :=runZ_stop (q :=notZ x) (n :=i) (a :=(p+Z)) (z :=z) (by omega)
      have hzV :z=O :=by omega
      repeat' (first | refine ff ?_ | ((first | refine sR ?_ ?_ | refine sC ?_ ?_) <;> (intro hb;(try rw [hb]);(try simp only [bb] at hb);(try (exfalso;first | omega | exact hb trivial)))) | (apply endS trivial;rotate_left;(· exact eva);(· rfl);try refine⟨?_,rfl⟩) | fail)
      exact⟨rfl,by rw [hzV];rfl,rfl⟩
    ·have hst :=runZ_stop (q :=notZ x) (n :=i) (a :=(p+Z)) (z :=z) (by omega)
     have hzV :z=O :=by omega
     repeat' (first | refine ff ?_ | ((first | refine sR ?_ ?_ | refine sC ?_ ?_) <;> (intro hb;(try rw [hb]);(try simp only [bb] at hb);(try (exfalso;first | omega | exact hb trivial)))) | (apply endS trivial;rotate_left;(· exact eva);(· rfl);try refine⟨?_,rfl⟩) | fail)
     exact⟨rfl,by rw [hzV];rfl,rfl⟩
   rintro _ _ _ ⟨rfl,hF2,rfl⟩
   apply blkQ.e
   apply thenQ.n
   refine Ev.kp hF2 ?_
   repeat' (first | refine ff ?_ | ((first | refine sR ?_ ?_ | refine sC ?_ ?_) <;> (intro hb;(try rw [hb]);(try simp only [bb] at hb);(try (exfalso;first | omega | exact hb trivial)))) | (apply endS trivial;rotate_left;(· exact eva);(· rfl);try refine⟨?_,rfl⟩) | fail)
   rw [show ((p+Z :Nat) :Int)+(O :Int)=((p+Z+O :Nat) :Int) from by omega]
   obtain⟨w,hw,rw1⟩ :=hsub (p+Z) (p+Z+O) (by omega) (by omega)
   rw [show p+Z+O - (p+Z)=O from by omega] at rw1
   have hwk :∀ k,k < O→(((dL x i).drop (p+Z)).take O).getD k 0=((x (p+Z+k) :Nat) :Int) :=by
    intro k hk
    rw [← hd (p+Z+k) (by omega),List.getD_eq_getElem?_getD,List.getElem?_take_of_lt hk,List.getElem?_drop,List.getD_eq_getElem?_getD]
   generalize ((dL x i).drop (p+Z)).take O=ys at rw1 hwk
   refine EvR.opS (v :=w) (by show (aSliceSl _ 1 v5 (some (.int .i64 ((p+Z :Nat) :Int))) (some (.int .i64 ((p+Z+O :Nat) :Int)))).map _=_;rw [hw];rfl) ?_
   obtain⟨out1,ho1⟩ :∃ o,o=out++[byteOf (Z :Nat),byteOf (O :Nat)] :=⟨_,rfl⟩
   have hl1 :out1.length=out.length+2 :=by rw [ho1];simp
   rw [u8_wrap,u8_wrap,show b8s out++[Value.int .u8 ((byteOf (Z :Nat)).toNat :Int),.int .u8 ((byteOf (O :Nat)).toNat :Int)]=b8s out1 from by rw [ho1];simp [b8s],← hl1]
   generalize rub2++[(⟨[Value.int .u8 ((byteOf (Z :Nat)).toNat :Int),.int .u8 ((byteOf (O :Nat)).toNat :Int)],1,true⟩ :AObj)]=rub3
   obtain⟨f',rfl⟩ :∃ f',f=f'+1 :=⟨f - 1,by omega⟩
   rw [chg_step hlt2 hZ hO] at hT
   have hw0 :words x (p+Z) 0=[] :=rfl
   repeat' (first | refine ff ?_ | ((first | refine sR ?_ ?_ | refine sC ?_ ?_) <;> (intro hb;(try rw [hb]);(try simp only [bb] at hb);(try (exfalso;first | omega | exact hb trivial)))) | (apply endS trivial;rotate_left;(· exact eva);(· rfl);try refine⟨?_,rfl⟩) | fail)
   refine Ev.whlH (S :=Nat × Heap) (fun st =>O - st.1) (fun st =>[(8,.slice (some ⟨τ.length+0,0,none⟩) (out1++words x (p+Z) st.1).length (out1++words x (p+Z) st.1).length),(98,.int .i64 st.1)])
    (fun st =>τ++(⟨b8s (out1++words x (p+Z) st.1),1,true⟩::st.2)) (fun st =>st.1 ≤ O) (0,rub3) (by dsimp only;rw [hw0,List.append_nil];exact tF) (by dsimp only;rw [hw0,List.append_nil]) (Nat.zero_le _) ?_
   rintro⟨k,rub4⟩ F hF hk
   dsimp only at hk hF ⊢
   (simp only [List.cons_append,List.nil_append,↓fget_cons,fkeep_cons,fkeep_nil,Nat.reduceEqDiff,reduceIte] at hF;subst hF)
   have hlen2 :(out1++words x (p+Z) k).length=out.length+2+4 * k :=by rw [List.length_append,hl1,words_length]
   by_cases hlt3 :k < O
   ·have hlen3 :(out1++words x (p+Z) (k+1)).length=(out1++words x (p+Z) k).length+4 :=by rw [words_succ,← List.append_assoc,List.length_append,lowB_length]
    have hst :out1++words x (p+Z) (k+1)=(out1++words x (p+Z) k)++lowB (x (p+Z+k)) 4 :=by rw [words_succ,List.append_assoc]
    have hwk1 :=hwk k hlt3
    have hyl :=hx (p+Z+k) (by omega)
    generalize x (p+Z+k)=y at hwk1 hyl hst
    generalize out1++words x (p+Z) k=outk at *
    repeat' (first | refine ff ?_ | ((first | refine sR ?_ ?_ | refine sC ?_ ?_) <;> (intro hb;(try rw [hb]);(try simp only [bb] at hb);(try (exfalso;first | omega | exact hb trivial)))) | (apply endS trivial;rotate_left;(· exact eva);(· rfl);try refine⟨?_,rfl⟩) | fail)
    rw [hwk1]
    have hl4 :=lowB_length y 4
    (apply EvR.aCall h2.at_;(· exact eva);(· exact  h2.ok _ y 4 hyl (by omega));(rintro _ _ ⟨rfl,rfl⟩;refine EvR.nrm ?_))
    simp only [slV]
    repeat' (first | refine ff ?_ | ((first | refine sR ?_ ?_ | refine sC ?_ ?_) <;> (intro hb;(try rw [hb]);(try simp only [bb] at hb);(try (exfalso;first | omega | exact hb trivial)))) | (apply endS trivial;rotate_left;(· exact eva);(· rfl);try refine⟨?_,rfl⟩) | fail)
    exact⟨(k+1,rub4++[⟨b8s (lowB y 4),1,true⟩]),by dsimp only;omega,by rw [hlen3];exact tF,by dsimp only;rw [hst,← b8s_append],by dsimp only;omega⟩
   ·obtain rfl :k=O :=by omega
    have hT' :(out1++words x (p+Z) k)++chg x i f' (p+Z+k)=T :=by rw [← hT,ho1];simp
    repeat' (first | refine ff ?_ | ((first | refine sR ?_ ?_ | refine sC ?_ ?_) <;> (intro hb;(try rw [hb]);(try simp only [bb] at hb);(try (exfalso;first | omega | exact hb trivial)))) | (apply endS trivial;rotate_left;(· exact eva);(· rfl);try refine⟨?_,rfl⟩) | fail)
    exact⟨(p+Z+k,f',out1++words x (p+Z) k,rub4),by dsimp only;omega,by dsimp only;rw [show ((p+Z+k :Nat) :Int)=((p+Z :Nat) :Int)+(k :Int) from by omega];simp only [List.cons_append,List.nil_append,↓fget_cons,fkeep_cons,fkeep_nil,Nat.reduceEqDiff,reduceIte],rfl,by dsimp only;omega,by dsimp only;omega,hT',by dsimp only;rw [hlen2];omega⟩
  ·obtain rfl :p=i :=by omega
   rw [chg_end (by omega),List.append_nil] at hT
   repeat' (first | refine ff ?_ | ((first | refine sR ?_ ?_ | refine sC ?_ ?_) <;> (intro hb;(try rw [hb]);(try simp only [bb] at hb);(try (exfalso;first | omega | exact hb trivial)))) | (apply endS trivial;rotate_left;(· exact eva);(· rfl);try refine⟨?_,rfl⟩) | fail)
   rw [hτ,List.append_assoc]
   (apply endS trivial;rotate_left;(· exact eva);(· rfl);try refine⟨?_,rfl⟩)
   rw [hT]
end Go.Abs
