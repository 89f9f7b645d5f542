/- Laws of functions: numbers to which bytes change others, by the program. Conditions: the laws of what they call. -/
import Derived.Test.YtaacdckenhnocaaFilmsL38
namespace Go.Abs
set_option linter.unusedSimpArgs false
set_option linter.unusedVariables false
set_option maxHeartbeats 8000000
set_option maxRecDepth 20000
def impl_ApplyChange_r0 :List SOper :=[
 ⟨some 4,none,.mov (.const (.slice none 0 0)),0⟩,
 ⟨some 5,none,.mov (.const (.bool false)),1⟩]
def impl_ApplyChange_r1 (i_impl_isChangeable :FuncId) :List SOper :=[
 ⟨some 12,none,.mov (.tmp 0),0⟩,
 ⟨some 13,none,.call (.func i_impl_isChangeable) [(.tmp 12)],1⟩,
 ⟨some 14,none,.un .not (.tmp 13),3⟩]
def impl_ApplyChange_r2 :List SOper :=[
 ⟨some 4,none,.mov (.const (.slice none 0 0)),0⟩,
 ⟨some 5,none,.mov (.const (.bool false)),1⟩]
def impl_ApplyChange_r3 :List SOper :=[
 ⟨some 15,none,.buildSlice 1 0 [] [],0⟩,
 ⟨some 6,none,.mov (.tmp 15),1⟩,
 ⟨some 7,none,.mov (.const (.int .i64 0)),3⟩]
def impl_ApplyChange_r4 :List SOper :=[
 ⟨some 16,none,.mov (.tmp 7),0⟩,
 ⟨some 17,none,.mov (.tmp 1),0⟩,
 ⟨some 18,none,.len true (.tmp 17),2⟩,
 ⟨some 19,none,.bin .lss .other (.tmp 16) (.tmp 18),7⟩]
def impl_ApplyChange_r5 :List SOper :=[
 ⟨some 20,none,.mov (.tmp 7),0⟩,
 ⟨some 21,none,.bin .add .other (.tmp 20) (.const (.int .i64 2)),1⟩,
 ⟨some 22,none,.mov (.tmp 1),0⟩,
 ⟨some 23,none,.len true (.tmp 22),4⟩,
 ⟨some 24,none,.bin .gtr .other (.tmp 21) (.tmp 23),15⟩]
def impl_ApplyChange_r6 :List SOper :=[
 ⟨some 4,none,.mov (.const (.slice none 0 0)),0⟩,
 ⟨some 5,none,.mov (.const (.bool false)),1⟩]
def impl_ApplyChange_r7 :List SOper :=[
 ⟨some 25,none,.mov (.tmp 1),0⟩,
 ⟨some 26,none,.mov (.tmp 7),0⟩,
 ⟨some 27,none,.indexStr (.tmp 25) (.tmp 26),3⟩,
 ⟨some 28,none,.conv (.toInt .i64) (.tmp 27),7⟩,
 ⟨some 29,none,.mov (.tmp 1),0⟩,
 ⟨some 30,none,.mov (.tmp 7),0⟩,
 ⟨some 31,none,.bin .add .other (.tmp 30) (.const (.int .i64 1)),32⟩,
 ⟨some 32,none,.indexStr (.tmp 29) (.tmp 31),112⟩,
 ⟨some 33,none,.conv (.toInt .i64) (.tmp 32),240⟩,
 ⟨some 8,none,.mov (.tmp 28),15⟩,
 ⟨some 9,none,.mov (.tmp 33),1023⟩]
def impl_ApplyChange_r8 :List SOper :=[
 ⟨some 34,none,.mov (.tmp 7),0⟩,
 ⟨some 35,none,.bin .add .other (.tmp 34) (.const (.int .i64 2)),1⟩,
 ⟨some 7,none,.mov (.tmp 35),3⟩]
def impl_ApplyChange_r9 :List SOper :=[
 ⟨some 36,none,.mov (.tmp 6),0⟩,
 ⟨some 37,none,.len false (.tmp 36),1⟩,
 ⟨some 38,none,.mov (.tmp 8),0⟩,
 ⟨some 39,none,.bin .add .other (.tmp 37) (.tmp 38),7⟩,
 ⟨some 40,none,.mov (.tmp 9),0⟩,
 ⟨some 41,none,.bin .add .other (.tmp 39) (.tmp 40),31⟩,
 ⟨some 42,none,.mov (.tmp 0),0⟩,
 ⟨some 43,none,.len false (.tmp 42),64⟩,
 ⟨some 44,none,.bin .gtr .other (.tmp 41) (.tmp 43),255⟩,
 ⟨some 45,none,.mov (.tmp 44),511⟩,
  ⟨(some 46),(some (45,false)),.mov (.tmp 7),1023⟩,
  ⟨(some 47),(some (45,false)),.mov (.tmp 9),1023⟩,
  ⟨(some 48),(some (45,false)),.bin .mul .other (.const (.int .i64 4)) (.tmp 47),3071⟩,
  ⟨(some 49),(some (45,false)),.bin .add .other (.tmp 46) (.tmp 48),8191⟩,
  ⟨(some 50),(some (45,false)),.mov (.tmp 1),1023⟩,
  ⟨(some 51),(some (45,false)),.len true (.tmp 50),17407⟩,
  ⟨(some 52),(some (45,false)),.bin .gtr .other (.tmp 49) (.tmp 51),65535⟩,
 ⟨some 53,none,.pick (.tmp 45) (.const (.bool true)) (.tmp 52),131071⟩]
def impl_ApplyChange_r10 :List SOper :=[
 ⟨some 4,none,.mov (.const (.slice none 0 0)),0⟩,
 ⟨some 5,none,.mov (.const (.bool false)),1⟩]
def impl_ApplyChange_r11 :List SOper :=[
 ⟨some 54,none,.mov (.tmp 6),0⟩,
 ⟨some 55,none,.mov (.tmp 0),0⟩,
 ⟨some 56,none,.mov (.tmp 6),0⟩,
 ⟨some 57,none,.len false (.tmp 56),4⟩,
 ⟨some 58,none,.mov (.tmp 6),0⟩,
 ⟨some 59,none,.len false (.tmp 58),16⟩,
 ⟨some 60,none,.mov (.tmp 8),0⟩,
 ⟨some 61,none,.bin .add .other (.tmp 59) (.tmp 60),112⟩,
 ⟨some 62,none,.sliceSl 1 (.tmp 55) (some (.tmp 57)) (some (.tmp 61)),254⟩,
 ⟨some 63,none,.append 1 4 (.tmp 54) (.tmp 62),511⟩,
 ⟨some 6,none,.mov (.tmp 63),1023⟩]
def impl_ApplyChange_r12 :List SOper :=[
 ⟨some 64,none,.mov (.tmp 9),0⟩,
 ⟨some 65,none,.mov (.const (.int .i64 0)),0⟩]
def impl_ApplyChange_r13 :List SOper :=[
 ⟨some 66,none,.bin .lss .other (.tmp 65) (.tmp 64),0⟩]
def impl_ApplyChange_r14 (i_impl_BitsOf i_impl_lowNumber i_impl_FromBits :FuncId) :List SOper :=[
 ⟨some 68,none,.mov (.tmp 0),0⟩,
 ⟨some 69,none,.mov (.tmp 6),0⟩,
 ⟨some 70,none,.len false (.tmp 69),2⟩,
 ⟨some 71,none,.indexAddrS 1 (.tmp 68) (.tmp 70),7⟩,
 ⟨some 72,none,.load1 (.tmp 71),15⟩,
 ⟨some 73,none,.call (.func i_impl_BitsOf) [(.tmp 72)],31⟩,
 ⟨some 74,none,.mov (.tmp 1),0⟩,
 ⟨some 75,none,.mov (.tmp 7),0⟩,
 ⟨some 76,none,.mov (.tmp 7),0⟩,
 ⟨some 77,none,.bin .add .other (.tmp 76) (.const (.int .i64 4)),256⟩,
 ⟨some 78,none,.sliceStr (.tmp 74) (some (.tmp 75)) (some (.tmp 77)),960⟩,
 ⟨some 79,none,.call (.func i_impl_lowNumber) [(.tmp 78)],2047⟩,
 ⟨some 80,none,.bin .xor .other (.tmp 73) (.tmp 79),4095⟩,
 ⟨some 81,none,.call (.func i_impl_FromBits) [(.tmp 80)],8191⟩,
 ⟨some 67,none,.mov (.tmp 81),16383⟩,
 ⟨some 82,none,.extract (.tmp 67) 0,32767⟩,
 ⟨some 83,none,.extract (.tmp 67) 1,32767⟩,
 ⟨some 10,none,.mov (.tmp 82),65535⟩,
 ⟨some 11,none,.mov (.tmp 83),262143⟩]
def impl_ApplyChange_r15 :List SOper :=[
 ⟨some 84,none,.mov (.tmp 6),0⟩,
 ⟨some 85,none,.mov (.tmp 10),0⟩,
 ⟨some 86,none,.buildSlice 1 1 [(.float .f32 0)] [(0,1,(.tmp 85))],2⟩,
 ⟨some 87,none,.append 1 4 (.tmp 84) (.tmp 86),7⟩,
 ⟨some 6,none,.mov (.tmp 87),15⟩]
def impl_ApplyChange_r16 :List SOper :=[
 ⟨some 88,none,.mov (.tmp 7),0⟩,
 ⟨some 89,none,.bin .add .other (.tmp 88) (.const (.int .i64 4)),1⟩,
 ⟨some 7,none,.mov (.tmp 89),3⟩]
def impl_ApplyChange_r17 :List SOper :=[
 ⟨some 90,none,.bin .add .other (.tmp 65) (.const (.int .i64 1)),0⟩,
 ⟨some 65,none,.mov (.tmp 90),1⟩]
def impl_ApplyChange_l18 (i_impl_BitsOf i_impl_lowNumber i_impl_FromBits :FuncId) :SCode :=(.kp [0,1,6,7,64,65] (.seq (.region impl_ApplyChange_r13 false) (.kp [0,1,6,7,64,65,66] (.seq (.cond (.tmp 66) .skip (.exit 2)) (.kp [0,1,6,7,64,65] (.seq (.block 3 (.seq (.region (impl_ApplyChange_r14 i_impl_BitsOf i_impl_lowNumber i_impl_FromBits) true) (.kp [0,1,6,7,10,64,65] (.seq (.region impl_ApplyChange_r15 false) (.kp [0,1,6,7,64,65] (.region impl_ApplyChange_r16 false)))))) (.kp [0,1,6,7,64,65] (.region impl_ApplyChange_r17 false))))))))
def impl_ApplyChange_l19 (i_impl_BitsOf i_impl_lowNumber i_impl_FromBits :FuncId) :SCode :=(.kp [0,1,6,7] (.seq (.seq (.region impl_ApplyChange_r4 false) (.kp [0,1,6,7,19] (.cond (.tmp 19) .skip (.exit 0)))) (.kp [0,1,6,7] (.block 1 (.seq (.seq (.region impl_ApplyChange_r5 false) (.kp [0,1,6,7,24] (.cond (.tmp 24) (.seq (.region impl_ApplyChange_r6 false) .ret) .skip))) (.kp [0,1,6,7] (.seq (.region impl_ApplyChange_r7 true) (.kp [0,1,6,7,8,9] (.seq (.region impl_ApplyChange_r8 false) (.kp [0,1,6,7,8,9] (.seq (.seq (.region impl_ApplyChange_r9 false) (.kp [0,1,6,7,8,9,53] (.cond (.tmp 53) (.seq (.region impl_ApplyChange_r10 false) .ret) .skip))) (.kp [0,1,6,7,8,9] (.seq (.region impl_ApplyChange_r11 false) (.kp [0,1,6,7,9] (.seq (.region impl_ApplyChange_r12 false) (.kp [0,1,6,7,64,65] (.block 2 (.loop (impl_ApplyChange_l18 i_impl_BitsOf i_impl_lowNumber i_impl_FromBits)))))))))))))))))))
def impl_ApplyChange_r20 (i_impl_changeBytes :FuncId) :List SOper :=[
 ⟨some 91,none,.mov (.tmp 6),0⟩,
 ⟨some 92,none,.len false (.tmp 91),1⟩,
 ⟨some 93,none,.mov (.tmp 0),0⟩,
 ⟨some 94,none,.len false (.tmp 93),4⟩,
 ⟨some 95,none,.bin .neq .other (.tmp 92) (.tmp 94),15⟩,
 ⟨some 96,none,.mov (.tmp 95),31⟩,
  ⟨(some 97),(some (96,false)),.mov (.tmp 0),63⟩,
  ⟨(some 98),(some (96,false)),.mov (.tmp 6),63⟩,
  ⟨(some 99),(some (96,false)),.call (.func i_impl_changeBytes) [(.tmp 97),(.tmp 98)],255⟩,
  ⟨(some 100),(some (96,false)),.mov (.tmp 1),63⟩,
  ⟨(some 101),(some (96,false)),.bin .neq .other (.tmp 99) (.tmp 100),1023⟩,
 ⟨some 102,none,.pick (.tmp 96) (.const (.bool true)) (.tmp 101),2047⟩]
def impl_ApplyChange_r21 :List SOper :=[
 ⟨some 4,none,.mov (.const (.slice none 0 0)),0⟩,
 ⟨some 5,none,.mov (.const (.bool false)),1⟩]
def impl_ApplyChange_r22 :List SOper :=[
 ⟨some 103,none,.mov (.tmp 6),0⟩,
 ⟨some 4,none,.mov (.tmp 103),1⟩,
 ⟨some 5,none,.mov (.const (.bool true)),3⟩]
def impl_ApplyChange (i_impl_isChangeable i_impl_BitsOf i_impl_lowNumber i_impl_FromBits i_impl_changeBytes :FuncId) :SFunc :=⟨104,[.tmp 4,.tmp 5],(.kp [0,1] (.seq (.region impl_ApplyChange_r0 false) (.kp [0,1] (.seq (.seq (.region (impl_ApplyChange_r1 i_impl_isChangeable) false) (.kp [0,1,14] (.cond (.tmp 14) (.seq (.region impl_ApplyChange_r2 false) .ret) .skip))) (.kp [0,1] (.seq (.region impl_ApplyChange_r3 false) (.kp [0,1,6,7] (.seq (.block 0 (.loop (impl_ApplyChange_l19 i_impl_BitsOf i_impl_lowNumber i_impl_FromBits))) (.kp [0,1,6] (.seq (.seq (.region (impl_ApplyChange_r20 i_impl_changeBytes) false) (.kp [6,102] (.cond (.tmp 102) (.seq (.region impl_ApplyChange_r21 false) .ret) .skip))) (.kp [6] (.seq (.region impl_ApplyChange_r22 false) .ret))))))))))))⟩
theorem impl_ApplyChange_r7_dr :drawOkW wStat impl_ApplyChange_r7=true :=by kernel_rfl
attribute [push_cast] impl_ApplyChange_r7_dr
theorem impl_ApplyChange_r14_dr {i_impl_BitsOf i_impl_lowNumber i_impl_FromBits :FuncId} :drawOkW wStat (impl_ApplyChange_r14 i_impl_BitsOf i_impl_lowNumber i_impl_FromBits)=true :=by kernel_rfl
attribute [push_cast] impl_ApplyChange_r14_dr
def news (a :List Nat)(s :List UInt8)(i p o :Nat) :List Nat :=(List.range o).map fun k =>bitsC (a.getD (i+k) 0) ^^^ numB ((s.drop (p+4 * k)).take 4)
theorem news_length (a :List Nat)(s :List UInt8)(i p o :Nat) :(news a s i p o).length=o :=by simp [news]
theorem news_succ (a :List Nat)(s :List UInt8)(i p o :Nat) :news a s i p (o+1)=news a s i p o++[bitsC (a.getD (i+o) 0) ^^^ numB ((s.drop (p+4 * o)).take 4)] :=by simp [news,List.range_succ]
def zAt (s :List UInt8)(p :Nat) :Nat :=(s.getD p 0).toNat
theorem zAt_lt (s :List UInt8)(p :Nat) :zAt s p < 256 :=UInt8.toNat_lt _
def appl (a :List Nat)(s :List UInt8) :Nat→Nat→List Nat→Option (List Nat)
 | 0,_,_ =>none
 | f+1,p,u =>if p < s.length then
  if s.length < p+2 then none else
  if a.length < u.length+zAt s p+zAt s (p+1)∨s.length < p+2+4 * zAt s (p+1) then none else
  appl a s f (p+2+4 * zAt s (p+1)) (u++(a.drop u.length).take (zAt s p)++news a s (u.length+zAt s p) (p+2) (zAt s (p+1)))
  else some u
theorem appl_end {a :List Nat}{s :List UInt8}{f p :Nat}{u :List Nat}(h :¬ p < s.length) :appl a s (f+1) p u=some u :=by rw [appl,if_neg h]
theorem appl_n1 {a :List Nat}{s :List UInt8}{f p :Nat}{u :List Nat}(h :p < s.length)(h2 :s.length < p+2) :appl a s (f+1) p u=none :=by rw [appl,if_pos h,if_pos h2]
theorem appl_n2 {a :List Nat}{s :List UInt8}{f p :Nat}{u :List Nat}(h :p < s.length)(h2 :¬ s.length < p+2)(h3 :a.length < u.length+zAt s p+zAt s (p+1)∨s.length < p+2+4 * zAt s (p+1)) :appl a s (f+1) p u=none :=by rw [appl,if_pos h,if_neg h2,if_pos h3]
theorem appl_go {a :List Nat}{s :List UInt8}{f p :Nat}{u :List Nat}(h :p < s.length)(h2 :¬ s.length < p+2)(h3 :¬ (a.length < u.length+zAt s p+zAt s (p+1)∨s.length < p+2+4 * zAt s (p+1))) :
 appl a s (f+1) p u=appl a s f (p+2+4 * zAt s (p+1)) (u++(a.drop u.length).take (zAt s p)++news a s (u.length+zAt s p) (p+2) (zAt s (p+1))) :=by rw [appl,if_pos h,if_neg h2,if_neg h3]
theorem byteOf_toNat {n :Nat}(h :n ≤ 255) :(byteOf (n :Int)).toNat=n :=by
 unfold byteOf
 simp
 omega
theorem row_subF {σ :Heap}{v :Value}{n lo hi :Nat}{xs :List Nat}(h :Row σ 1 v n (f32s xs))(h1 :lo ≤ hi)(h2 :hi ≤ n) :
 ∃ w,(∀ l,aSliceSl (σ++l) 1 v (some (.int .i64 (lo :Nat))) (some (.int .i64 (hi :Nat)))=some w)∧Row σ 1 w (hi - lo) (f32s ((xs.drop lo).take (hi - lo))) :=by
 unfold Row at h
 split at h
 ·obtain⟨rfl,hn,hx⟩ :=h
  rename_i cap
  obtain rfl :lo=0 :=by omega
  obtain rfl :hi=0 :=by omega
  refine⟨.slice none 0 (cap - 0),fun l =>?_,?_⟩
  ·simp [aSliceSl,idx]
  ·unfold Row
   refine⟨rfl,rfl,?_⟩
   simp [f32s]
 ·obtain⟨rfl,hc,obj,hr,hx⟩ :=h
  rename_i q m cap
  obtain⟨g1,g2,g3,g4⟩ :=rowAt_spec hr
  refine⟨.slice (some ⟨q.block,q.off+lo,none⟩) (hi - lo) (cap - lo),fun l =>?_,?_⟩
  ·have e :=rowAt_more (τ :=l) hr
   simp only [aSliceSl,e,idx]
   rw [if_pos (by omega)]
   have k1 :q.off+(lo :Int).toNat * 1=q.off+lo :=by omega
   have k2 :((hi :Int) - (lo :Int)).toNat=hi - lo :=by omega
   have k3 :cap - (lo :Int).toNat=cap - lo :=by omega
   rw [k1,k2,k3]
  ·unfold Row
   refine⟨rfl,by omega,obj,rowAt_mk g1 g2 (by simp only;omega) g4,?_⟩
   have :f32s ((xs.drop lo).take (hi - lo))=((f32s xs).drop lo).take (hi - lo) :=by simp [f32s,List.map_take,List.map_drop]
   rw [this,hx,List.drop_take,List.take_take,List.drop_drop]
   congr 1
   omega
 ·exact h.elim
theorem lows_all {a :List Nat}(h :lows a)(i :Nat) :a.getD i 0 < 4294967296 :=by
 by_cases hi :i < a.length
 ·exact h i hi
 ·rw [List.getD_eq_getElem?_getD,List.getElem?_eq_none (by omega)];decide
theorem lows_mem {a :List Nat}(h :lows a) :∀ x ∈ a,x < 4294967296 :=by
 intro x hx
 obtain⟨i,hi,rfl⟩ :=List.getElem_of_mem hx
 have :=h i hi
 rwa [List.getD_eq_getElem?_getD,List.getElem?_eq_getElem hi] at this
theorem numB4 (s :List UInt8)(p :Nat) :numB ((s.drop p).take 4) < 4294967296 :=by
 refine Nat.lt_of_lt_of_le (numB_lt _) ?_
 have :((s.drop p).take 4).length ≤ 4 :=by rw [List.length_take];omega
 exact Nat.le_trans (Nat.pow_le_pow_right (by omega) this) (by omega)
theorem lows_step {a u :List Nat}{s :List UInt8}(ha :lows a)(hu :lows u)(z i p o :Nat) :lows (u++(a.drop u.length).take z++news a s i p o) :=by
 apply lows_of
 intro x hx
 simp only [List.mem_append] at hx
 rcases hx with (hx | hx) | hx
 ·exact lows_mem hu x hx
 ·exact lows_mem ha x (List.mem_of_mem_drop (List.mem_of_mem_take hx))
 ·simp only [news,List.mem_map,List.mem_range] at hx
  obtain⟨k,_,rfl⟩ :=hx
  exact Nat.xor_lt_two_pow (n :=32) (bitsC_lt (lows_all ha _)) (numB4 _ _)
def acOf (a :List Nat)(s :List UInt8) :Option (List Nat)→Option (List Nat)
 | none =>none
 | some u =>if u.length=a.length∧chg (xb a u) a.length (a.length+1) 0=s then some u else none
def acOk (a :List Nat)(s :List UInt8) :Option (List Nat) :=if a.length ≤ 768 then acOf a s (appl a s (s.length+1) 0 []) else none
def afRes (b :Nat) :Option (List Nat)→Value
 | none =>.tuple #[.slice none 0 0,.bool false]
 | some u =>.tuple #[slV b u.length,.bool true]
def afRows :Option (List Nat)→Heap
 | none =>[]
 | some u =>[rowO u]
def ApplyChange_ok (c :Contract) :Prop :=∀ (σ :Heap)(va :Value)(a :List Nat)(s :List UInt8),Row σ 1 va a.length (f32s a)→lows a→a.length ≤ 1048576→s.length ≤ 1048576 →
 Ret c [va,.string (str s)] σ fun v σ' =>v=afRes σ.length (acOk a s)∧σ'=σ++afRows (acOk a s)
abbrev impl_ApplyChange_ok :=ApplyChange_ok
theorem acOf_t {a u :List Nat}{s :List UInt8}(hl :u.length=a.length)(hT :chg (xb a u) a.length (a.length+1) 0=s) :acOf a s (some u)=some u :=if_pos ⟨hl,hT⟩
theorem acOf_f1 {a u :List Nat}{s :List UInt8}(hl :¬ u.length=a.length) :acOf a s (some u)=none :=if_neg fun h =>hl h.1
theorem acOf_f2 {a u :List Nat}{s :List UInt8}(hT :¬ chg (xb a u) a.length (a.length+1) 0=s) :acOf a s (some u)=none :=if_neg fun h =>hT h.2
theorem afRes_s (b :Nat)(u :List Nat) :afRes b (some u) = .tuple #[slV b u.length,.bool true] :=rfl
theorem afRows_s (u :List Nat) :afRows (some u)=[rowO u] :=rfl
theorem impl_ApplyChange_law {C :Ctab}{i1 i2 i3 i4 i5 :FuncId}{c1 c2 c3 c4 c5 :Contract}(h1 :Has C i1 c1 impl_isChangeable_ok)(h2 :Has C i2 c2 impl_BitsOf_ok)(h3 :Has C i3 c3 impl_lowNumber_ok)(h4 :Has C i4 c4 impl_FromBits_ok)(h5 :Has C i5 c5 impl_changeBytes_ok) :
 impl_ApplyChange_ok (gcC C (impl_ApplyChange i1 i2 i3 i4 i5) true) :=by
 intro σ va a s r1 la m1 m2
 by_cases g1 :a.length ≤ 768
 ·obtain⟨R,eR⟩ :∃ R,appl a s (s.length+1) 0 []=R :=⟨_,rfl⟩
  have eA :acOk a s=acOf a s R :=by unfold acOk;rw [if_pos g1,eR]
  rw [eA]
  refine ret_gc rfl rfl ?_
  repeat' (first | refine ff ?_ | (apply EvR.aCall h1.at_;(· exact eva);(· apply h1.ok <;> exact sid);(rintro _ _ ⟨rfl,rfl⟩;refine EvR.nrm ?_)) | ((first | refine sR ?_ ?_ | refine sC ?_ ?_) <;> (intro hb;(try rw [hb]);(try simp only [bb] at hb);(try (exfalso;first | omega | exact hb trivial)))) | (apply endS trivial;rotate_left;(· exact eva);(· rfl);try refine⟨?_,rfl⟩) | fail)
  refine Ev.whlH (S :=Nat × Nat × List Nat × Heap) (fun st =>s.length - st.2.1) (fun st =>[(6,.slice (some ⟨σ.length+0,0,none⟩) st.2.2.1.length st.2.2.1.length),(7,.int .i64 (st.2.1 :Nat))]) (fun st =>σ++(rowO st.2.2.1::st.2.2.2))
   (fun st =>appl a s (st.1+1) st.2.1 st.2.2.1=R∧st.2.2.1.length ≤ a.length∧st.2.1 ≤ s.length∧s.length ≤ st.2.1+st.1∧lows st.2.2.1) (s.length,0,[],[]) (by exact tF) rfl ⟨eR,Nat.zero_le _,Nat.zero_le _,by dsimp only;omega,fun i hi =>by simp at hi⟩ ?_
  rintro⟨f,p,u,rub⟩ F hF ⟨hR,hu,hp,hf,lu⟩
  dsimp only at hF hR hu hp hf lu ⊢
  (simp only [List.cons_append,List.nil_append,↓fget_cons,fkeep_cons,fkeep_nil,Nat.reduceEqDiff,reduceIte] at hF;subst hF)
  by_cases hlt :p < s.length
  ·by_cases hn :s.length < p+2
   ·rw [appl_n1 hlt hn] at hR
    subst hR
    repeat' (first | refine ff ?_ | ((first | refine sR ?_ ?_ | refine sC ?_ ?_) <;> (intro hb;(try rw [hb]);(try simp only [bb] at hb);(try (exfalso;first | omega | exact hb trivial)))) | (apply endS trivial;rotate_left;(· exact eva);(· rfl);try refine⟨?_,rfl⟩) | fail)
    all_goals simp [acOf,afRes,afRows]
   have q0 :=zAt_lt s p
   have q1 :=zAt_lt s (p+1)
   have e0 :(s.getD p 0).toNat=zAt s p :=rfl
   have e1 :(s.getD ((p :Int)+1).toNat 0).toNat=zAt s (p+1) :=by rw [show ((p :Int)+1).toNat=p+1 from by omega];rfl
   by_cases hn2 :a.length < u.length+zAt s p+zAt s (p+1)∨s.length < p+2+4 * zAt s (p+1)
   ·rw [appl_n2 hlt hn hn2] at hR
    subst hR
    repeat' (first | refine ff ?_ | ((first | refine sR ?_ ?_ | refine sC ?_ ?_) <;> (intro hb;(try rw [hb]);(try simp only [bb] at hb);(try (exfalso;first | omega | exact hb trivial)))) | (apply endS trivial;rotate_left;(· exact eva);(· rfl);try refine⟨?_,rfl⟩) | fail)
    all_goals simp [acOf,afRes,afRows]
   rw [appl_go hlt hn hn2] at hR
   have lw :=lows_step (s :=s) la lu (zAt s p) (u.length+zAt s p) (p+2) (zAt s (p+1))
   generalize zAt s p=z at *
   generalize zAt s (p+1)=o at *
   repeat' (first | refine ff ?_ | ((first | refine sR ?_ ?_ | refine sC ?_ ?_) <;> (intro hb;(try rw [hb]);(try simp only [bb] at hb);(try (exfalso;first | omega | exact hb trivial)))) | (apply endS trivial;rotate_left;(· exact eva);(· rfl);try refine⟨?_,rfl⟩) | fail)
   rw [e1,e0,show ((u.length :Nat) :Int)+(z :Int)=((u.length+z :Nat) :Int) from by omega]
   obtain⟨w,hw,rw1⟩ :=row_subF r1 (lo :=u.length) (hi :=u.length+z) (by omega) (by omega)
   rw [show u.length+z - u.length=z from by omega] at rw1
   refine EvR.opS (v :=w) (by show (aSliceSl _ 1 va (some (.int .i64 ((u.length :Nat) :Int))) (some (.int .i64 ((u.length+z :Nat) :Int)))).map _=_;rw [hw];rfl) ?_
   obtain⟨u1,hu1⟩ :∃ u1,u1=u++(a.drop u.length).take z :=⟨_,rfl⟩
   have hl1 :u1.length=u.length+z :=by rw [hu1,List.length_append,List.length_take,List.length_drop];omega
   have hlt1 :((a.drop u.length).take z).length=z :=by rw [List.length_take,List.length_drop];omega
   rw [← hu1] at hR lw
   generalize (a.drop u.length).take z=t1 at hu1 hlt1 rw1
   repeat' (first | refine ff ?_ | ((first | refine sR ?_ ?_ | refine sC ?_ ?_) <;> (intro hb;(try rw [hb]);(try simp only [bb] at hb);(try (exfalso;first | omega | exact hb trivial)))) | (apply endS trivial;rotate_left;(· exact eva);(· rfl);try refine⟨?_,rfl⟩) | fail)
   rw [← hu1]
   refine Ev.whlH (S :=Nat × Heap) (fun st =>o - st.1) (fun st =>[(6,.slice (some ⟨σ.length+0,0,none⟩) (u1++news a s (u.length+z) (p+2) st.1).length (u1++news a s (u.length+z) (p+2) st.1).length),(7,.int .i64 ((p+2+4 * st.1 :Nat) :Int)),(65,.int .i64 st.1)])
    (fun st =>σ++(rowO (u1++news a s (u.length+z) (p+2) st.1)::st.2)) (fun st =>st.1 ≤ o) (0,rub) (by rw [show news a s (u.length+z) (p+2) 0=[] from rfl,List.append_nil,hl1];exact tF) (by rw [show news a s (u.length+z) (p+2) 0=[] from rfl,List.append_nil]) (Nat.zero_le _) ?_
   rintro⟨k,rub2⟩ F hF hk
   dsimp only at hk hF ⊢
   (simp only [List.cons_append,List.nil_append,↓fget_cons,fkeep_cons,fkeep_nil,Nat.reduceEqDiff,reduceIte] at hF;subst hF)
   have hlk :(u1++news a s (u.length+z) (p+2) k).length=u.length+z+k :=by rw [List.length_append,news_length,hl1]
   by_cases hlt3 :k < o
   ·have hst :u1++news a s (u.length+z) (p+2) (k+1)=(u1++news a s (u.length+z) (p+2) k)++[bitsC (a.getD (u.length+z+k) 0) ^^^ numB ((s.drop (p+2+4 * k)).take 4)] :=by rw [news_succ,List.append_assoc]
    have hP1 :p+2+4 * k+4 ≤ s.length :=by omega
    have hP2 :p+2+4 * (k+1)=p+2+4 * k+4 :=by omega
    generalize p+2+4 * k=P at *
    obtain⟨l4,hl4⟩ :∃ l4,l4=(s.drop P).take 4 :=⟨_,rfl⟩
    have hl4n :l4.length=4 :=by rw [hl4,List.length_take,List.length_drop];omega
    have hl4b :numB l4 < 4294967296 :=by rw [hl4];exact numB4 _ _
    have es :(s.take ((P :Int)+4).toNat).drop P=l4 :=by rw [hl4,show ((P :Int)+4).toNat=P+4 from by omega,List.drop_take];congr 1;omega
    rw [← hl4,← hlk] at hst
    generalize u1++news a s (u.length+z) (p+2) k=outk at *
    have hak :=lows_all la outk.length
    have hak2 :=bitsC_lt hak
    have hv :=xor_val hak2 hl4b
    have hy :bitsC (a.getD outk.length 0) ^^^ numB l4 < 4294967296 :=Nat.xor_lt_two_pow (n :=32) hak2 hl4b
    generalize bitsC (a.getD outk.length 0) ^^^ numB l4=y at hv hy hst
    have e2 :(u1++news a s (u.length+z) (p+2) (k+1)).length=outk.length+1 :=by rw [hst];simp
    repeat' (first | refine ff ?_ | (apply EvR.aCall h2.at_;(· exact eva);(· apply h2.ok <;> exact sid);(rintro _ _ ⟨rfl,rfl⟩;refine EvR.nrm ?_)) | ((first | refine sR ?_ ?_ | refine sC ?_ ?_) <;> (intro hb;(try rw [hb]);(try simp only [bb] at hb);(try (exfalso;first | omega | exact hb trivial)))) | (apply endS trivial;rotate_left;(· exact eva);(· rfl);try refine⟨?_,rfl⟩) | fail)
    rw [es]
    (apply EvR.aCall h3.at_;(· exact eva);(· exact  h3.ok _ l4 hl4n);(rintro _ _ ⟨rfl,rfl⟩;refine EvR.nrm ?_))
    repeat' (first | refine ff ?_ | ((first | refine sR ?_ ?_ | refine sC ?_ ?_) <;> (intro hb;(try rw [hb]);(try simp only [bb] at hb);(try (exfalso;first | omega | exact hb trivial)))) | (apply endS trivial;rotate_left;(· exact eva);(· rfl);try refine⟨?_,rfl⟩) | fail)
    rw [hv]
    (apply EvR.aCall h4.at_;(· exact eva);(· exact  h4.ok _ y hy);(rintro _ _ ⟨rfl,rfl⟩;refine EvR.nrm ?_))
    repeat' (first | refine ff ?_ | ((first | refine sR ?_ ?_ | refine sC ?_ ?_) <;> (intro hb;(try rw [hb]);(try simp only [bb] at hb);(try (exfalso;first | omega | exact hb trivial)))) | (apply endS trivial;rotate_left;(· exact eva);(· rfl);try refine⟨?_,rfl⟩) | fail)
    exact⟨(k+1,rub2++[rowO [y]]),by dsimp only;omega,by dsimp only;rw [e2,hP2];exact tF,by dsimp only;rw [hst];rfl,by dsimp only;omega⟩
   ·obtain rfl :k=o :=by omega
    obtain⟨f',rfl⟩ :∃ f',f=f'+1 :=⟨f - 1,by omega⟩
    repeat' (first | refine ff ?_ | ((first | refine sR ?_ ?_ | refine sC ?_ ?_) <;> (intro hb;(try rw [hb]);(try simp only [bb] at hb);(try (exfalso;first | omega | exact hb trivial)))) | (apply endS trivial;rotate_left;(· exact eva);(· rfl);try refine⟨?_,rfl⟩) | fail)
    exact⟨(f',p+2+4 * k,u1++news a s (u.length+z) (p+2) k,rub2),by dsimp only;omega,by exact tF,rfl,hR,by dsimp only;omega,by dsimp only;omega,by dsimp only;omega,lw⟩
  ·rw [appl_end hlt] at hR
   subst hR
   by_cases hl :u.length=a.length
   ·by_cases hT :chg (xb a u) a.length (a.length+1) 0=s
    ·rw [acOf_t hl hT,afRes_s,afRows_s]
     repeat' (first | refine ff ?_ | ((first | refine sR ?_ ?_ | refine sC ?_ ?_) <;> (intro hb;(try rw [hb]);(try simp only [bb] at hb);(try (exfalso;first | omega | exact hb trivial)))) | (apply endS trivial;rotate_left;(· exact eva);(· rfl);try refine⟨?_,rfl⟩) | fail)
     (apply EvR.aCall h5.at_;(· exact eva);(· exact  h5.ok _ va _ a u (r1.ext _) (Row.ownF rfl rfl) hl g1 la lu);(rintro _ _ ⟨rfl,rfl⟩;refine EvR.nrm ?_))
     rw [hT]
     repeat' (first | refine ff ?_ | ((first | refine sR ?_ ?_ | refine sC ?_ ?_) <;> (intro hb;(try rw [hb]);(try simp only [bb] at hb);(try (exfalso;first | omega | exact hb trivial)))) | (apply endS trivial;rotate_left;(· exact eva);(· rfl);try refine⟨?_,rfl⟩) | fail)
     (apply endR [0] trivial ⟨rfl,rfl⟩;(· exact eva);(· simp [gcTop,gcVal,gcLeaf,gcLeaves,gcVals,constOk,gc_lt,gc_lt0]);(· rfl);(· decide);(· simp [allConst,f32s,i64s,b8s,bools,constOk]))
    ·rw [acOf_f2 hT]
     repeat' (first | refine ff ?_ | ((first | refine sR ?_ ?_ | refine sC ?_ ?_) <;> (intro hb;(try rw [hb]);(try simp only [bb] at hb);(try (exfalso;first | omega | exact hb trivial)))) | (apply endS trivial;rotate_left;(· exact eva);(· rfl);try refine⟨?_,rfl⟩) | fail)
     (apply EvR.aCall h5.at_;(· exact eva);(· exact  h5.ok _ va _ a u (r1.ext _) (Row.ownF rfl rfl) hl g1 la lu);(rintro _ _ ⟨rfl,rfl⟩;refine EvR.nrm ?_))
     generalize chg (xb a u) a.length (a.length+1) 0=T at hT
     repeat' (first | refine ff ?_ | ((first | refine sR ?_ ?_ | refine sC ?_ ?_) <;> (intro hb;(try rw [hb]);(try simp only [bb] at hb);(try (exfalso;first | omega | exact hb trivial)))) | (apply endS trivial;rotate_left;(· exact eva);(· rfl);try refine⟨?_,rfl⟩) | fail)
     all_goals first
      | (simp [afRes,afRows];done)
      | (exfalso;rename_i hb;rw [str_toList,str_toList,beq_iff_eq] at hb;exact hT hb)
   ·rw [acOf_f1 hl]
    repeat' (first | refine ff ?_ | ((first | refine sR ?_ ?_ | refine sC ?_ ?_) <;> (intro hb;(try rw [hb]);(try simp only [bb] at hb);(try (exfalso;first | omega | exact hb trivial)))) | (apply endS trivial;rotate_left;(· exact eva);(· rfl);try refine⟨?_,rfl⟩) | fail)
    all_goals simp [afRes,afRows]
 ·rw [show acOk a s=none from by unfold acOk;rw [if_neg g1]]
  refine ret_gc rfl rfl ?_
  repeat' (first | refine ff ?_ | (apply EvR.aCall h1.at_;(· exact eva);(· apply h1.ok <;> exact sid);(rintro _ _ ⟨rfl,rfl⟩;refine EvR.nrm ?_)) | ((first | refine sR ?_ ?_ | refine sC ?_ ?_) <;> (intro hb;(try rw [hb]);(try simp only [bb] at hb);(try (exfalso;first | omega | exact hb trivial)))) | (apply endS trivial;rotate_left;(· exact eva);(· rfl);try refine⟨?_,rfl⟩) | fail)
  all_goals simp [afRes,afRows]
end Go.Abs
